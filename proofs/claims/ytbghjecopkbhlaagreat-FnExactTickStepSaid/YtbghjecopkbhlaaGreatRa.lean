/-
  What is proved: lemmas for the laws. No condition.
-/
import Derived.Orders
import Derived.Below
import Derived.ChangeKeysEq
set_option linter.unusedVariables false
set_option linter.unusedSimpArgs false
namespace Go.Wr
abbrev Y4:=@Array.length_toList
abbrev Y6:=@Array.toList_map
abbrev Y8:=@Bool.and_eq_true
abbrev Y9:=@Bool.and_false
abbrev gX:=@Bool.and_self
abbrev lB:=@Bool.and_true
abbrev yR:=@Bool.eq_false_iff
abbrev ma:=@Bool.eq_iff_iff
abbrev wI:=@Bool.false_and
abbrev cX:=@Bool.false_eq_true
abbrev yT:=@Bool.not_eq_true
abbrev lC:=@Bool.not_eq_true'
abbrev uA:=@Bool.not_false
abbrev BM:=@Bool.not_true
abbrev pW:=@Bool.or_eq_true
abbrev pX:=@Bool.true_and
abbrev pY:=@Int.natCast_nonneg
abbrev nV:=@List.all_cons
abbrev eJ:=@List.all_eq_true
abbrev s6:=@List.all_nil
abbrev qN:=@List.any_eq_true
abbrev gY:=@List.append_assoc
abbrev nW:=@List.append_nil
abbrev fq:=@List.cons.injEq
abbrev gf:=@List.cons_append
abbrev ax:=@List.drop_zero
abbrev uB:=@List.ext_getElem?
abbrev BR:=@List.find?_eq_none
abbrev wM:=@List.find?_some
abbrev pd:=@List.flatten_cons
abbrev qP:=@List.foldl_cons
abbrev nl:=@List.getElem?_append_left
abbrev kD:=@List.getElem?_append_right
abbrev wN:=@List.getElem?_cons_succ
abbrev kE:=@List.getElem?_cons_zero
abbrev rT:=@List.getElem?_drop
abbrev bF:=@List.getElem?_eq_getElem
abbrev pe:=@List.getElem?_eq_none
abbrev bt:=@List.getElem?_eq_some_iff
abbrev iX:=@List.getElem?_map
abbrev jQ:=@List.getElem?_set_ne
abbrev il:=@List.getElem?_set_self
abbrev wO:=@List.getElem?_take_of_lt
abbrev pZ:=@List.getElem_mem
abbrev jR:=@List.length_append
abbrev dH:=@List.length_cons
abbrev s7:=@List.length_eq_one_iff
abbrev iY:=@List.length_eq_zero_iff
abbrev cL:=@List.length_map
abbrev p7:=@List.length_nil
abbrev BS:=@List.length_pos_iff
abbrev fU:=@List.length_take
abbrev kh:=@List.map_append
abbrev fc:=@List.map_cons
abbrev yW:=@List.map_map
abbrev s8:=@List.map_nil
abbrev kF:=@List.mem_append
abbrev pf:=@List.mem_append_left
abbrev nX:=@List.mem_append_right
abbrev iG:=@List.mem_cons
abbrev fJ:=@List.mem_cons_of_mem
abbrev fe:=@List.mem_cons_self
abbrev uE:=@List.mem_flatMap
abbrev gZ:=@List.mem_iff_getElem?
abbrev jt:=@List.mem_map
abbrev wR:=@List.mem_of_find?_eq_some
abbrev cS:=@List.mem_of_getElem?
abbrev s9:=@List.mem_of_mem_take
abbrev mN:=@List.mem_range
abbrev rU:=@List.mem_singleton
abbrev eC:=@List.nil_append
abbrev qQ:=@List.pairwise_cons
abbrev qR:=@List.pairwise_iff_getElem
abbrev im:=@List.sum_cons
abbrev mb:=@List.take_add_one
abbrev uG:=@List.take_append_drop
abbrev eD:=@List.take_length
abbrev p8:=@List.take_of_length_le
abbrev fK:=@Nat.add_assoc
abbrev pc:=@Nat.add_zero
abbrev qM:=@Nat.le_of_ble_eq_true
abbrev eQ:=@Nat.le_trans
abbrev iF:=@Nat.lt_of_lt_of_le
abbrev js:=@Nat.lt_or_ge
abbrev kC:=@Nat.mul_le_mul_right
abbrev mM:=@Nat.ne_of_lt
abbrev iW:=@Nat.succ_mul
abbrev db:=@Nat.zero_add
abbrev gG:=@Option.bind_eq_some_iff
abbrev yQ:=@Option.bind_none
abbrev jl:=@Option.bind_some
abbrev jm:=@Option.map_eq_some_iff
abbrev s5:=@Option.map_some
abbrev aR:=@Option.some.injEq
abbrev di:=@Prod.mk.injEq
inductive Ob where
 |n
 |y
 |m (k:Nat)
 deriving DecidableEq
inductive T where
 |i (k:IntKind) (n:Int)
 |b (x:Bool)
 |s (x:ByteArray)
 |a (cs:List T)
 |l (o:Ob) (sz:Nat) (es:List T)
 |f (g:Nat) (env:List T)
 |p (t:T)
 |u
 deriving Inhabited
inductive aJ where
 |sl (n:Nat)
 |ar (n:Nat)
 |rs (n:Nat)
 deriving DecidableEq
inductive Ow where
 |no
 |z
 |own (r:aJ) (p:List Nat)
abbrev Loc:=Option (aJ×List Nat)
def Loc.push:Loc->Nat->Loc
 |some (r,p),k=>some (r,p++[k])
 |none,_=>none
def Loc.ow:Loc->Ow
 |some (r,p)=>.own r p
 |none=>.z
def Ob.own:Ob->Bool
 |.n=>false
 |_=>true
def Ob.loc (o:Ob) (c:Loc):Loc:=if o.own then c else none
def oT:Value->Bool
 |.agg _=>false
 |.tuple _=>false
 |_=>true
section
variable (ae:Nat->FuncId) (mv:Nat->Value) (w:World) (ow:Nat->Ow)
mutual
def ay:Loc->T->List Value->Prop
 |_,.i k n,vs=>vs=[.int k n]
 |_,.b x,vs=>vs=[.bool x]
 |_,.s x,vs=>vs=[.string x]
 |c,.a cs,vs=>bZ c 0 cs vs
 |c,.l o sz es,vs=>(o.own=true->c≠none)/\∃(A:Option Addr) (cap:Nat),vs=[.slice A es.length cap]/\es.length<=cap/\(∀k,o=.m k->mv k=.slice A es.length cap)/\
   match A with
   |none=>cap=0
   |some ad=>(o.own=true\/es≠[])->ad.spot=none/\ow ad.block=(o.loc c).ow/\
     ∃(aG:Array Value) (ty:TypeId) (fr:Nat×Nat) (bE:List Value),w.heap[ad.block]?=some (.cells aG ty fr)/\
      (o.own=true->(fr.2<=fr.1\/sz=1/\aG.size<=fr.1)/\ad.off+cap*sz<=aG.size)/\
      (∀j v,bE[j]?=some v->aG[ad.off+j]?=some v)/\cw (o.loc c) sz 0 es bE
 |_,.f g env,vs=>∃eR,vs=[.func (.func (ae g)) #[] eR]/\bZ none 0 env eR.toList
 |_,.p t,vs=>∃(b:Nat) (aG:Array Value) (ty:TypeId) (fr:Nat×Nat),vs=[.pointer (some ⟨b,0,none⟩)]/\ow b=.z/\
   w.heap[b]?=some (.cells aG ty fr)/\ay none t aG.toList
 |_,.u,vs=>∃v,vs=[v]/\oT v=true
def bZ:Loc->Nat->List T->List Value->Prop
 |_,_,[],vs=>vs=[]
 |c,k,t::ts,vs=>∃v rest,vs=v::rest/\ay (c.push k) t [v]/\bZ c (k+1) ts rest
def cw:Loc->Nat->Nat->List T->List Value->Prop
 |_,_,_,[],vs=>vs=[]
 |c,sz,k,e::es,vs=>∃v1 rest,vs=v1++rest/\v1.length=sz/\ay (c.push k) e v1/\cw c sz (k+1) es rest
end
end
def Zs (w:World) (ow:Nat->Ow) (w':World) (ap:Nat->Ow):Prop:=∀b,ow b=.z->ap b=.z/\w'.heap[b]?=w.heap[b]?
def Tr (w:World) (ow:Nat->Ow) (w':World) (ap:Nat->Ow):Loc->Loc->Prop
 |none,none=>True
 |some (r,p),some (r',p')=>∀b q,ow b=.own r (p++q)->ap b=.own r' (p'++q)/\w'.heap[b]?=w.heap[b]?
 |some (_,_),none=>False
 |none,some _=>True
def Fz (w:World) (ow:Nat->Ow) (w':World) (ap:Nat->Ow):Loc->Prop
 |none=>True
 |some (r,p)=>∀b q,ow b=.own r (p++q)->ap b=.z/\w'.heap[b]?=w.heap[b]?
theorem Tr.push {w w':World}{ow ap:Nat->Ow}{c c':Loc} (h:Tr w ow w' ap c c') (k:Nat):Tr w ow w' ap (c.push k) (c'.push k):=by
 rcases c with _|⟨r,p⟩<;>rcases c' with _|⟨r',p'⟩<;>simp only[Tr,Loc.push]at h⊢;intro b q hb;have:=h b (k::q) (by simpa using hb);simpa using this
theorem Fz.push {w w':World}{ow ap:Nat->Ow}{c:Loc} (h:Fz w ow w' ap c) (k:Nat):Fz w ow w' ap (c.push k):=by
 rcases c with _|⟨r,p⟩<;>simp only[Fz,Loc.push]at h⊢;intro b q hb;exact h b (k::q) (by simpa using hb)
theorem Tr.loc {w w':World}{ow ap:Nat->Ow}{c c':Loc} (h:Tr w ow w' ap c c') (o:Ob):Tr w ow w' ap (o.loc c) (o.loc c'):=by
 unfold Ob.loc;split
 ·exact h
 ·trivial
theorem Tr.aO {w w':World}{ow ap:Nat->Ow}{c c':Loc} (h:Tr w ow w' ap c c') (hz:Zs w ow w' ap) (hc:c'≠none->c≠none) {b:Nat} (hb:ow b=c.ow):
  ap b=c'.ow/\w'.heap[b]?=w.heap[b]?:=by
 rcases c with _|⟨r,p⟩<;>rcases c' with _|⟨r',p'⟩<;>simp only[Tr,Loc.ow]at h hb⊢
 ·exact hz b hb
 ·simp at hc
 ·have:=h b [] (by simpa using hb);simpa using this
mutual
def T.fz:T->T
 |.l _ sz es=>.l .n sz (bO es)
 |.a cs=>.a (bO cs)
 |.i k n=>.i k n
 |.b x=>.b x
 |.s x=>.s x
 |.f g env=>.f g env
 |.p t=>.p t
 |.u=>.u
def bO:List T->List T
 |[]=>[]
 |t::ts=>t.fz::bO ts
end
theorem zb:∀ts:List T,(bO ts).length=ts.length
 |[]=>rfl
 |_::ts=>by simp[bO,zb ts]
theorem Er:∀ts:List T,bO ts=ts.map T.fz
 |[]=>rfl
 |_::ts=>by simp[bO,Er ts]
section
variable {ae:Nat->FuncId}{mv:Nat->Value}{w w':World}{ow ap:Nat->Ow}
mutual
theorem cB (hz:Zs w ow w' ap):∀(t:T) {c c':Loc}{vs:List Value},Tr w ow w' ap c c'->ay ae mv w ow c t vs->ay ae mv w' ap c' t vs
 |.i _ _,_,_,_,_,h=>by simpa only[ay]using h
 |.b _,_,_,_,_,h=>by simpa only[ay]using h
 |.s _,_,_,_,_,h=>by simpa only[ay]using h
 |.u,_,_,_,_,h=>by simpa only[ay]using h
 |.a cs,c,c',vs,ht,h=>by simp only[ay]at h⊢;exact lG hz cs ht h
 |.f g env,_,_,vs,_,h=>by
  simp only[ay]at h⊢;obtain⟨eR,rfl,h⟩:=h;exact⟨eR,rfl,lG hz env (c:=none) (c':=none) trivial h⟩
 |.p t,_,_,vs,_,h=>by
  simp only[ay]at h⊢;obtain⟨b,aG,ty,fr,rfl,hb,hh,h⟩:=h;obtain⟨h1,h2⟩:=hz b hb;exact⟨b,aG,ty,fr,rfl,h1,h2▸hh,cB hz t (c:=none) (c':=none) trivial h⟩
 |.l o sz es,c,c',vs,ht,h=>by
  simp only[ay]at h⊢;obtain⟨h0,A,cap,rfl,hc,hm,h⟩:=h;have Ku:o.own=true->c'≠none:=fun ho hn=>by
   have h1:=h0 ho;subst hn;rcases c with _|⟨r,p⟩
   ·exact h1 rfl
   ·exact ht
  refine⟨Ku,A,cap,rfl,hc,hm,?_⟩;cases A with
  |none=>exact h
  |some ad=>
   intro jZ;obtain⟨hs,hb,aG,ty,fr,bE,hh,eA,bP,cg⟩:=h jZ;have hl:=ht.loc o;obtain⟨h1,h2⟩:=hl.aO hz (by
    unfold Ob.loc;split
    ·rename_i ho;exact fun _=>h0 ho
    ·exact fun x=>absurd rfl x) hb
   exact⟨hs,h1,aG,ty,fr,bE,h2▸hh,eA,bP,Yb hz es hl cg⟩
theorem lG (hz:Zs w ow w' ap):∀(cs:List T) {c c':Loc}{k:Nat}{vs:List Value},Tr w ow w' ap c c'->bZ ae mv w ow c k cs vs->bZ ae mv w' ap c' k cs vs
 |[],_,_,_,_,_,h=>by simpa only[bZ]using h
 |t::ts,c,c',k,vs,ht,h=>by
  simp only[bZ]at h⊢;obtain⟨v,rest,rfl,h1,h2⟩:=h;exact⟨v,rest,rfl,cB hz t (ht.push k) h1,lG hz ts ht h2⟩
theorem Yb (hz:Zs w ow w' ap):∀(es:List T) {c c':Loc}{sz k:Nat}{vs:List Value},Tr w ow w' ap c c'->cw ae mv w ow c sz k es vs->cw ae mv w' ap c' sz k es vs
 |[],_,_,_,_,_,_,h=>by simpa only[cw]using h
 |e::es,c,c',sz,k,vs,ht,h=>by
  simp only[cw]at h⊢;obtain⟨v1,rest,rfl,hl,h1,h2⟩:=h;exact⟨v1,rest,rfl,hl,cB hz e (ht.push k) h1,Yb hz es ht h2⟩
end
theorem Fz.aO {c:Loc} (h:Fz w ow w' ap c) (hz:Zs w ow w' ap) {b:Nat} (hb:ow b=c.ow):ap b=.z/\w'.heap[b]?=w.heap[b]?:=by
 rcases c with _|⟨r,p⟩<;>simp only[Fz,Loc.ow]at h hb
 ·exact hz b hb
 ·exact h b [] (by simpa using hb)
mutual
theorem Ci (cR:Nat->Value):∀(t:T) {vs:List Value},ay ae mv w ow none t vs->ay ae cR w ow none t vs
 |.i _ _,_,h=>by simpa only[ay]using h
 |.b _,_,h=>by simpa only[ay]using h
 |.s _,_,h=>by simpa only[ay]using h
 |.u,_,h=>by simpa only[ay]using h
 |.a cs,vs,h=>by simp only[ay]at h⊢;exact Ju cR cs h
 |.f g env,vs,h=>by
  simp only[ay]at h⊢;obtain⟨eR,rfl,h⟩:=h;exact⟨eR,rfl,Ju cR env h⟩
 |.p t,vs,h=>by
  simp only[ay]at h⊢;obtain⟨b,aG,ty,fr,rfl,hb,hh,h⟩:=h;exact⟨b,aG,ty,fr,rfl,hb,hh,Ci cR t h⟩
 |.l o sz es,vs,h=>by
  simp only[ay]at h⊢;obtain⟨h0,A,cap,rfl,hc,hm,h⟩:=h;have ho:o=.n:=by cases o<;>simp[Ob.own]at h0⊢
  subst ho;refine⟨h0,A,cap,rfl,hc,fun k hk=>by simp at hk,?_⟩;cases A with
  |none=>exact h
  |some ad=>
   intro jZ;obtain⟨hs,hb,aG,ty,fr,bE,hh,eA,bP,cg⟩:=h jZ;exact⟨hs,hb,aG,ty,fr,bE,hh,eA,bP,X7 cR es cg⟩
theorem Ju (cR:Nat->Value):∀(cs:List T) {k:Nat}{vs:List Value},bZ ae mv w ow none k cs vs->bZ ae cR w ow none k cs vs
 |[],_,_,h=>by simpa only[bZ]using h
 |t::ts,k,vs,h=>by
  simp only[bZ]at h⊢;obtain⟨v,rest,rfl,h1,h2⟩:=h;exact⟨v,rest,rfl,Ci cR t h1,Ju cR ts h2⟩
theorem X7 (cR:Nat->Value):∀(es:List T) {sz k:Nat}{vs:List Value},cw ae mv w ow none sz k es vs->cw ae cR w ow none sz k es vs
 |[],_,_,_,h=>by simpa only[cw]using h
 |e::es,sz,k,vs,h=>by
  simp only[cw]at h⊢;obtain⟨v1,rest,rfl,hl,h1,h2⟩:=h;exact⟨v1,rest,rfl,hl,Ci cR e h1,X7 cR es h2⟩
end
mutual
theorem uQ (hz:Zs w ow w' ap) (cR:Nat->Value):∀(t:T) {c:Loc} (c':Loc) {vs:List Value},Fz w ow w' ap c->ay ae mv w ow c t vs->ay ae cR w' ap c' t.fz vs
 |.i _ _,_,_,_,_,h=>by simpa only[ay,T.fz]using h
 |.b _,_,_,_,_,h=>by simpa only[ay,T.fz]using h
 |.s _,_,_,_,_,h=>by simpa only[ay,T.fz]using h
 |.u,_,_,_,_,h=>by simpa only[ay,T.fz]using h
 |.a cs,c,c',vs,ht,h=>by simp only[ay,T.fz]at h⊢;exact Pn hz cR cs c' ht h
 |.f g env,_,_,vs,_,h=>by
  simp only[ay,T.fz]at h⊢;obtain⟨eR,rfl,h⟩:=h;exact⟨eR,rfl,Ju cR env (lG hz env (c:=none) (c':=none) trivial h)⟩
 |.p t,_,_,vs,_,h=>by
  simp only[ay,T.fz]at h⊢;obtain⟨b,aG,ty,fr,rfl,hb,hh,h⟩:=h;obtain⟨h1,h2⟩:=hz b hb;exact⟨b,aG,ty,fr,rfl,h1,h2▸hh,Ci cR t (cB hz t (c:=none) (c':=none) trivial h)⟩
 |.l o sz es,c,c',vs,ht,h=>by
  simp only[ay,T.fz]at h⊢;obtain⟨h0,A,cap,rfl,hc,hm,h⟩:=h;refine⟨fun x=>by simp[Ob.own]at x,A,cap,by rw[zb],by rw[zb];exact hc,fun k x=>by simp at x,?_⟩;cases A with
  |none=>exact h
  |some ad=>
   intro jZ;have bC:es≠[]:=by
    rcases jZ with x|x
    ·simp[Ob.own]at x
    ·intro y;subst y;simp[bO]at x
   obtain⟨hs,hb,aG,ty,fr,bE,hh,eA,bP,cg⟩:=h (.inr bC);have hl:Fz w ow w' ap (o.loc c):=by
    unfold Ob.loc;split
    ·exact ht
    ·trivial
   obtain⟨h1,h2⟩:=hl.aO hz hb;refine⟨hs,?_,aG,ty,fr,bE,h2▸hh,fun x=>by simp[Ob.own]at x,bP,?_⟩
   ·simpa[Ob.loc,Ob.own,Loc.ow]using h1
   ·exact X5 hz cR es _ hl cg
theorem Pn (hz:Zs w ow w' ap) (cR:Nat->Value):∀(cs:List T) {c:Loc} (c':Loc) {k:Nat}{vs:List Value},Fz w ow w' ap c->bZ ae mv w ow c k cs vs->bZ ae cR w' ap c' k (bO cs) vs
 |[],_,_,_,_,_,h=>by simpa only[bZ,bO]using h
 |t::ts,c,c',k,vs,ht,h=>by
  simp only[bZ,bO]at h⊢;obtain⟨v,rest,rfl,h1,h2⟩:=h;exact⟨v,rest,rfl,uQ hz cR t _ (ht.push k) h1,Pn hz cR ts c' ht h2⟩
theorem X5 (hz:Zs w ow w' ap) (cR:Nat->Value):∀(es:List T) {c:Loc} (c':Loc) {sz k:Nat}{vs:List Value},Fz w ow w' ap c->cw ae mv w ow c sz k es vs->cw ae cR w' ap c' sz k (bO es) vs
 |[],_,_,_,_,_,_,h=>by simpa only[cw,bO]using h
 |e::es,c,c',sz,k,vs,ht,h=>by
  simp only[cw,bO]at h⊢;obtain⟨v1,rest,rfl,hl,h1,h2⟩:=h;exact⟨v1,rest,rfl,hl,uQ hz cR e _ (ht.push k) h1,X5 hz cR es c' ht h2⟩
end
end
structure K where
 e:Nat
 h:Nat
 d:Nat
 deriving DecidableEq
inductive Cell where
 |x (t:T)
 |w (r:Nat) (k:K) (p:List Nat) (z lo n:Nat)
inductive RV where
 |one (t:T)
 |st (cs:List T)
 |bx (cs:List T)
inductive AV where
 |u
 |x (t:T)
 |own (k:K) (t:T)
 |w (r:Nat) (k:K) (p:List Nat) (z lo n:Nat)
 |st (cs:List Cell)
 |box (k:K) (cs:List T)
 |ptr (r:Nat) (k:K) (p:List Nat) (off:Nat)
 |q (t:T) (off:Nat)
 |dj (n:Nat)
 |fb (g r:Nat) (k:K)
abbrev St:=Nat->AV
def bi (σ:St) (s:Nat) (v:AV):St:=fun j=>if j=s then v else σ j
inductive Pg:Type->Type 1 where
 |ret {α:Type} (a:α):Pg α
 |fail {α:Type}:Pg α
 |get {α:Type} (s:Nat) (k:AV->Pg α):Pg α
 |set {α:Type} (s:Nat) (v:AV) (k:Pg α):Pg α
 |bind {α β:Type} (p:Pg β) (f:β->Pg α):Pg α
 |wb {α:Type} (s:Nat) (k:Option K->Pg α):Pg α
 |vm {α:Type} (s c:Nat) (k:Option T->Pg α):Pg α
 |jD {α:Type} (s c:Nat) (t:T) (k:Pg α):Pg α
def AV.bk:AV->Option K
 |.box k _=>some k
 |_=>none
def AV.bc (v:AV) (c:Nat):Option T:=match v with
 |.box _ cs=>cs[c]?
 |_=>none
def AV.jD (v:AV) (c:Nat) (t:T):Option AV:=match v with
 |.box k cs=>if c<cs.length then some (.box k (cs.set c t)) else none
 |_=>none
namespace Pg
instance:Monad Pg where
 pure:=Pg.ret
 bind:=Pg.bind
def rd (s:Nat):Pg AV:=.get s .ret
def wr (s:Nat) (v:AV):Pg Unit:=.set s v (.ret ())
def run {α:Type}:Pg α->St->Option (α×St)
 |.ret a,σ=>some (a,σ)
 |.fail,_=>none
 |.get s k,σ=>(k (σ s)).run σ
 |.set s v k,σ=>k.run (bi σ s v)
 |.bind p f,σ=>match p.run σ with
  |some (a,aj)=>(f a).run aj
  |none=>none
 |.wb s k,σ=>(k (σ s).bk).run σ
 |.vm s c k,σ=>(k ((σ s).bc c)).run σ
 |.jD s c t k,σ=>match(σ s).jD c t with
  |some v=>k.run (bi σ s v)
  |none=>none
end Pg
mutual
def T.flat:T->Bool
 |.i _ _=>true
 |.b _=>true
 |.s _=>true
 |.a cs=>mR cs
 |_=>false
def mR:List T->Bool
 |[]=>true
 |c::cs=>c.flat&&mR cs
end
def T.scalar:T->Bool
 |.i _ _=>true
 |.b _=>true
 |.s _=>true
 |.f _ _=>true
 |_=>false
mutual
def T.closed:T->Bool
 |.i _ _=>true
 |.b _=>true
 |.s _=>true
 |.a cs=>cP cs
 |.l .y _ es=>cP es
 |.l .n _ []=>true
 |.l _ _ _=>false
 |.f _ []=>true
 |.f _ _=>false
 |.p _=>false
 |.u=>true
def cP:List T->Bool
 |[]=>true
 |t::ts=>t.closed&&cP ts
end
def T.loose:T->Bool
 |.l .n _ _=>true
 |.l _ _ _=>false
 |.a _=>false
 |_=>true
def T.pinned:T->Bool
 |.l (.m _) _ _=>true
 |_=>false
def T.yn:T->Bool
 |.a _=>false
 |.u=>false
 |_=>true
def T.bA:T->Nat->Option T
 |.a cs,k=>cs[k]?
 |.l _ _ es,k=>es[k]?
 |_,_=>none
def T.dP:T->Nat->T->T
 |.a cs,k,t=>.a (cs.set k t)
 |.l o sz es,k,t=>.l o sz (es.set k t)
 |t,_,_=>t
def T.aM:T->List Nat->Option T
 |t,[]=>some t
 |t,k::ks=>(t.bA k).bind fun c=>c.aM ks
def T.put:T->List Nat->T->T
 |_,[],x=>x
 |t,k::ks,x=>match t.bA k with|some c=>t.dP k (c.put ks x)|none=>t
def T.eO:T->List Nat->Bool
 |_,[]=>true
 |.a cs,k::ks=>match cs[k]? with|some c=>c.eO ks|none=>false
 |.l o _ es,k::ks=>o.own&&match es[k]? with|some c=>c.eO ks|none=>false
 |_,_=>false
def T.cells:T->List T
 |.a cs=>cs
 |t=>[t]
def T.jo:T->List T->T
 |.a _,cs=>.a cs
 |_,[c]=>c
 |t,_=>t
def sub {α:Type} (es:List α) (lo n:Nat):List α:=(es.drop lo).take n
def fG {α:Type} (cs:List α) (off:Nat) (new:List α):List α:=cs.take off++new++cs.drop (off+new.length)
structure RC where
 dh:Bool
 k:K
 t:T
def AV.rc:AV->Option RC
 |.box k cs=>some ⟨true,k,.a cs⟩
 |.own k t=>some ⟨false,k,t⟩
 |_=>none
def RC.av (c:RC):AV:=
 match c.dh,c.t with
 |true,.a cs=>.box c.k cs
 |false,.l .n sz es=>.x (.l .n sz es)
 |false,.l o sz es=>.own c.k (.l o sz es)
 |_,_=>.u
def j8 (dh:Bool) (p:List Nat):Nat:=
 match dh,p with
 |true,[]=>0
 |true,[_,_]=>1
 |false,[_]=>0
 |_,_=>2
def ic (dh:Bool) (p:List Nat):Nat:=
 match dh,p with
 |true,[_]=>1
 |false,[]=>0
 |_,_=>2
def K.ok (CI ref:K):Nat->Bool
 |0=>CI.e==ref.e
 |1=>CI.e==ref.e&&CI.h==ref.h
 |_=>CI.e==ref.e&&CI.h==ref.h&&CI.d==ref.d
inductive aL where
 |t (n:Nat)
 |k (c:T)
def vt (d j:Nat):Nat:=d+1000*(j+1)
def sd (e:Nat):T->AV
 |.l .y sz es=>.own ⟨e,e,e⟩ (.l .y sz es)
 |.a cs=>.st (cs.map .x)
 |t=>.x t
def Dn (d:Nat):Nat->Pg Unit
 |0=>pure ()
 |n+1=>(Dn d n).bind fun _=>Pg.wr (vt d n) .u
def gd (d:Nat) (v:AV):Pg Unit:=do
 match <-Pg.rd d with
 |.dj n=>(Dn d n).bind fun _=>Pg.wr d v
 |_=>Pg.wr d v
def look (e:Nat):aL->Pg AV
 |.k c=>pure (sd e c)
 |.t n=>do
  match <-Pg.rd n with
  |.own k (.l _ sz es)=>pure (.w n k [] sz 0 es.length)
  |.box k _=>pure (.ptr n k [] 0)
  |v=>pure v
def raw (e:Nat):aL->Pg AV
 |.k c=>pure (sd e c)
 |.t n=>Pg.rd n
def kill:aL->Pg Unit
 |.k _=>pure ()
 |.t n=>Pg.wr n .u
def oW (r:Nat) (k:K) (p:List Nat):Pg RC:=do
 match(<-Pg.rd r).rc with
 |some c=>if c.k.ok k (j8 c.dh p)&&(c.dh|| !p.isEmpty) then pure c else .fail
 |none=>.fail
def kc (r:Nat) (k:K) (p:List Nat):Pg RC:=do
 match(<-Pg.rd r).rc with
 |some c=>if c.k.ok k (ic c.dh p) then pure c else .fail
 |none=>.fail
def DF (r:Nat) (k:K) (p:List Nat) (lo n:Nat):Pg T:=do
 let c <-kc r k p
 match c.t.aM p with
 |some (.l _ sz es)=>pure (.l .n sz (bO (sub es lo n)))
 |_=>.fail
def T.lz:T->T
 |.l .n sz es=>.l .n sz es
 |t=>t.fz
def xQ:Cell->Pg T
 |.x t=>pure t.lz
 |.w r k p z lo n=>DF r k p lo n
def qC:List Cell->Pg (List T)
 |[]=>pure []
 |c::cs=>do
  let t <-xQ c
  let ts <-qC cs
  pure (t::ts)
def lX:AV->Pg T
 |.x t=>pure t
 |.own _ t=>pure t.fz
 |.w r k p z lo n=>DF r k p lo n
 |.st cs=>do
  let ts <-qC cs
  pure (.a ts)
 |_=>.fail
def jX (tk:Bool) (r:Nat) (k:K) (p:List Nat) (lo n:Nat):Pg T:=do
 let c <-kc r k p
 match c.t.aM p with
 |some (.l o sz es)=>
  match o with
  |.n=>pure (.l .n sz (sub es lo n))
  |.m _=>.fail
  |.y=>
   if tk then do
    Pg.wr r {c with t:=c.t.put p .u}.av
    pure (.l .y sz (sub es lo n))
   else do
    Pg.wr r {c with t:=c.t.put p (.l .n sz (bO es))}.av
    pure (.l .n sz (sub (bO es) lo n))
 |_=>.fail
def mU (tk:Bool):List Cell->Pg (List T)
 |[]=>pure []
 |.x t::cs=>do
  let ts <-mU tk cs
  pure (t::ts)
 |.w r k p z lo n::cs=>do
  let t <-jX tk r k p lo n
  let ts <-mU tk cs
  pure (t::ts)
def Cell.lY:Cell->Bool
 |.x t=> !t.loose
 |_=>false
def gJ (e:Nat) (tk:Bool) (x:aL):Pg (List T):=do
 match <-raw e x with
 |.x t=>if t.yn then pure [t] else .fail
 |.own _ t=>if t.pinned then .fail else(kill x).bind fun _=>pure [t]
 |.w r k p z lo n=>do
  let c <-jX tk r k p lo n
  pure [c]
 |.st cs=>if cs.any Cell.lY then(kill x).bind fun _=>mU tk cs else mU tk cs
 |_=>.fail
def addr (e:Nat) (x:aL):Pg AV:=do
 match <-look e x with
 |.ptr r k p off=>pure (.ptr r k p off)
 |.q t off=>pure (.q t off)
 |.x (.p t)=>pure (.q t 0)
 |_=>.fail
def seen (r:Nat) (k:K) (p:List Nat) (off:Nat) (node:T) (t:T):Cell:=
 match t with
 |.l .n sz es=>.x (.l .n sz es)
 |.l _ sz es=>.w r k (match node with|.a _=>p++[off]|_=>p) sz 0 es.length
 |.a _=>.x .u
 |t=>.x t
def seenCells (r:Nat) (k:K) (p:List Nat) (node:T):Nat->List T->List Cell
 |_,[]=>[]
 |off,t::ts=>seen r k p off node t::seenCells r k p node (off+1) ts
def Cell.av:Cell->AV
 |.x t=>.x t
 |.w r k p z lo n=>.w r k p z lo n
def load (e:Nat) (agg:Option Nat) (x:aL):Pg AV:=do
 match <-addr e x with
 |.q t off=>
  match agg with
  |none=>match t.cells[off]? with
   |some c=>pure (.x c)
   |none=>.fail
  |some n=>if off+n<=t.cells.length then pure (.st ((sub t.cells off n).map .x)) else .fail
 |.ptr r k p off=>do
  let c <-oW r k p
  match c.t.aM p with
  |none=>.fail
  |some node=>
   match agg with
   |none=>match node.cells[off]? with
    |some t=>pure (seen r c.k p off node t).av
    |none=>.fail
   |some n=>match node with
    |.a cs=>if off+n<=cs.length then pure (.st (seenCells r c.k p node off (sub cs off n))) else .fail
    |_=>.fail
 |_=>.fail
def RC.rH (c:RC) (p:List Nat):Bool:=
 match c.dh,p with
 |true,[]=>true
 |true,i::_::_=>(match c.t.bA i with|some (.l _ _ _)=>true|_=>false)
 |false,_::_=>true
 |_,_=>false
def bump (e:Nat) (c:RC) (p:List Nat):K:=
 match c.dh,p with
 |true,[]=>{c.k with h:=e}
 |_,_=>{c.k with d:=e}
def putCells (e:Nat) (c:RC) (p:List Nat) (off:Nat) (new:List T):Option RC:=
 match c.t.aM p with
 |none=>none
 |some node=>
  if c.rH p&&c.t.eO p&&decide (off+new.length<=node.cells.length)&& !new.isEmpty&&new.all T.yn&& !(new.any T.pinned) then
   some {c with
    k:=if(sub node.cells off new.length).all T.scalar&&new.all T.scalar then c.k else bump e c p
    t:=c.t.put p (node.jo (fG node.cells off new))}
  else none
def store (e n:Nat) (tk:Bool) (x v:aL):Pg Unit:=do
 let new <-gJ e tk v
 if new.length=n then do
  match <-addr e x with
  |.ptr r k p off=>do
   let c <-oW r k p
   match putCells e c p off new with
   |some c'=>Pg.wr r c'.av
   |none=>.fail
  |_=>.fail
 else .fail
def zI:Bool->AV->Option Int
 |false,.x (.l _ _ es)=>some es.length
 |true,.x (.s b)=>some b.size
 |false,.own _ (.l _ _ es)=>some es.length
 |false,.w _ _ _ _ _ n=>some n
 |_,_=>none
def indexAddr (e:Nat) (sz:Nat) (x ix:aL):Pg AV:=do
 match <-raw e ix with
 |.x (.i _ i)=>
  match <-look e x with
  |.x (.l _ qK es)=>if 0<=i/\qK=sz then(match es[i.toNat]? with|some t=>pure (.q t 0)|none=>.fail) else .fail
  |.w r k p z lo n=>if 0<=i/\i<n/\z=sz then pure (.ptr r k (p++[lo+i.toNat]) 0) else .fail
  |_=>.fail
 |_=>.fail
def cQ:Nat:=4294967296
def nk (e:Nat) (x:aL):Pg T:=do
 match <-raw e x with
 |.own _ t=>if t.pinned then .fail else(kill x).bind fun _=>pure t
 |.w r k p z lo n=>do
  let c <-kc r k p
  match c.t.aM p with
  |some (.l .y _ es)=>if lo=0/\n=es.length then jX true r k p lo n else .fail
  |_=>.fail
 |_=>.fail
def append (e sz:Nat) (tk:Bool) (d:Nat) (x y:aL):Pg Unit:=do
 match <-nk e x with
 |.l .y uq es=>do
  let v <-raw e y
  match <-lX v with
  |.l _ nQ bQ=>
   if uq=sz/\nQ=sz/\es.length+bQ.length<cQ then
    if mR bQ then gd d (.own ⟨e,e,e⟩ (.l .y sz (es++bQ)))
    else do
     match <-gJ e tk y with
     |[.l _ Bq iu]=>if Bq=sz/\es.length+iu.length<cQ then gd d (.own ⟨e,e,e⟩ (.l .y sz (es++iu))) else .fail
     |_=>.fail
   else .fail
  |_=>.fail
 |_=>.fail
inductive Arg where
 |x (t:T) -- Tp
 |bx (cs:List T) -- a pointer to a box
 |own (t:T) -- alZ CE
 |os (cs:List T) -- a struct,alZ CE
 |mu (t:T) -- Tp for atM:its au4 elements
 |st (cs:List T) -- a struct,Tp
 |ms (cs:List T) -- a struct,its au3 Tp for atM
 |fb (g:Nat) -- a aug value atG au6 the first atY box with it
structure Out where
 dG:List RV
 back:List (List T)
abbrev aB:=List Arg->Option Out
inductive fN where
 |S|P|C|M|F
 deriving DecidableEq
inductive Bs where
 |o|b|p
 deriving DecidableEq
inductive jr where
 |mv (x:aL)
 |uW (x:aL)
 |pick (c a b:aL)
 |alloc (cs:List T)
 |box (tk:Bool) (x:aL)
 |fa (x:aL) (off:Nat)
 |ia (sz:Nat) (x ix:aL)
 |ld (agg:Option Nat) (x:aL)
 |kQ (n:Nat) (tk:Bool) (x v:aL)
 |bin (op:BinOp) (g:Bs) (x y:aL)
 |un (op:UnOp) (x:aL)
 |J6 (k:IntKind) (x:aL)
 |atH (x:aL)
 |L4 (x:aL)
 |v7 (sz:Nat) (agg:Bool) (zero:List T) (len cap:aL)
 |qJ (sz:Nat) (tk:Bool) (x:aL) (lo hi:Option aL)
 |jU (zero:List T) (tk:Bool) (parts:List (Nat×Nat×aL))
 |dN (sz:Nat) (agg:Bool) (zero:List T) (len:Nat) (tk:Bool) (parts:List (Nat×Nat×aL))
 |ext (x:aL) (j:Nat)
 |len (str:Bool) (x:aL)
 |dk (sz:Nat) (agg:Bool) (zero:List T) (tk:Bool) (x y:aL)
 |mn (xs:List aL)
 |mx (xs:List aL)
 |call (g:Nat) (F:aB) (args:List (fN×aL))
 |tK (x:aL) (lI:List (Nat×aB)) (args:List (fN×aL))
 |fn (g:Nat) (eR:List aL)
 |qE (x:aL)
 |iq (g:Nat) (F:aB) (x:aL) (args:List (fN×aL))
 |CF (x:aL)
 |GS (x:aL)
 |xO (n sz:Nat) (x ix:aL)
 |oB (m:jr)
 |J9 (g:Nat) (x:aL)
 |CC (sz:Nat) (agg:Bool) (zero:List T) (x y:aL)
 |bad
def q9 (op:BinOp) (g:Bs) (x y:T):Option T:=
 match g,x,y with
 |.o,.i k a,.i k' b=>
  match op with
  |.shl=>if b<0 then none else some (.i k (k.wrap (a*2^min b.toNat k.bits)))
  |.shr=>if b<0 then none else some (.i k (a.fdiv (2^min b.toNat k.bits)))
  |_=>
   if k=k' then
    match op with
    |.add=>some (.i k (k.wrap (a+b)))
    |.sub=>some (.i k (k.wrap (a-b)))
    |.mul=>some (.i k (k.wrap (a*b)))
    |.quo=>if b=0 then none else some (.i k (k.wrap (a.tdiv b)))
    |.rem=>if b=0 then none else some (.i k (a.tmod b))
    |.and=>some (.i k (k.wrap (BitVec.ofInt k.bits a &&& BitVec.ofInt k.bits b).toNat))
    |.or=>some (.i k (k.wrap (BitVec.ofInt k.bits a ||| BitVec.ofInt k.bits b).toNat))
    |.xor=>some (.i k (k.wrap (BitVec.ofInt k.bits a ^^^ BitVec.ofInt k.bits b).toNat))
    |.eql=>some (.b (a==b))
    |.neq=>some (.b (a !=b))
    |.lss=>some (.b (a<b))
    |.leq=>some (.b (a<=b))
    |.gtr=>some (.b (a>b))
    |.geq=>some (.b (a>=b))
    |_=>none
   else none
 |.o,.s a,.s b=>
  match op with
  |.add=>if(a.size+b.size:Nat)<9223372036854775807 then some (.s (a++b)) else none
  |.eql=>some (.b (a.toList==b.toList))
  |.neq=>some (.b (!(a.toList==b.toList)))
  |_=>none
 |.b,.b a,.b b=>
  match op with
  |.eql=>some (.b (a==b))
  |.neq=>some (.b (!(a==b)))
  |_=>none
 |.p,.a [.i .i64 a1,.i .i64 a2],.a [.i .i64 b1,.i .i64 b2]=>
  match op with
  |.eql=>some (.b (a1==b1&&a2==b2))
  |.neq=>some (.b (!(a1==b1&&a2==b2)))
  |_=>none
 |_,_,_=>none
def sb:List T->Option (List Int)
 |[]=>some []
 |.i .u8 n::ts=>(sb ts).map (n::·)
 |_::_=>none
def strOf (ns:List Int):ByteArray:=ns.foldl (fun r n=>r.push (UInt8.ofNat n.toNat)) ByteArray.empty
def Uw (op:UnOp) (x:T):Option T:=
 match op,x with
 |.not,.b a=>some (.b !a)
 |.neg,.i k n=>some (.i k (k.wrap (0-n)))
 |_,_=>none
def plain (e:Nat) (x:aL):Pg T:=do
 let v <-raw e x
 lX v
def num (e:Nat) (x:aL):Pg Int:=do
 match <-raw e x with
 |.x (.i .i64 n)=>pure n
 |_=>.fail
def qj (e:Nat) (P7:Nat):Option aL->Pg Nat
 |none=>pure P7
 |some x=>do
  match <-raw e x with
  |.x (.i _ n)=>if 0<=n then pure n.toNat else .fail
  |_=>.fail
def LF (e:Nat):T->AV
 |.l .y sz es=>.own ⟨e,e,e⟩ (.l .y sz es)
 |t=>.x t
def slice (e sz:Nat) (tk:Bool) (x:aL) (lo hi:Option aL):Pg AV:=do
 match <-look e x with
 |.x (.l .n qK es)=>do
  let h <-qj e es.length hi
  let l <-qj e 0 lo
  if qK=sz/\0<sz/\l<=h/\h<=es.length then pure (.x (.l .n sz (sub es l (h-l)))) else .fail
 |.w r k p z xS n=>do
  let h <-qj e n hi
  let l <-qj e 0 lo
  if z=sz/\0<sz/\l<=h/\h<=n then
   if tk then(jX true r k p (xS+l) (h-l)).bind fun t=>pure (LF e t)
   else pure (.w r k p z (xS+l) (h-l))
  else .fail
 |_=>.fail
def GY (e:Nat):List aL->Pg (List Int)
 |[]=>pure []
 |x::xs=>do
  let n <-num e x
  let ns <-GY e xs
  pure (n::ns)
def wk (e:Nat) (s:Nat):Pg AV:=do
 match <-Pg.rd s with
 |.dj _=>.fail
 |.box _ _=>.fail
 |.own k t=>(Pg.wr s .u).bind fun _=>pure (.own ⟨e,e,e⟩ t)
 |.st cs=>if cs.any Cell.lY then(Pg.wr s .u).bind fun _=>pure (.st cs) else pure (.st cs)
 |v=>pure v
def Lk (e:Nat) (s d:Nat):Nat->Pg Unit
 |0=>pure ()
 |n+1=>do
  Lk e s d n
  if n<7 then do
   let v <-wk (e+n+1) (vt s n)
   Pg.wr (vt d n) v
  else .fail
def Lj (e:Nat) (d:Nat) (x:aL):Pg Unit:=do
 match x with
 |.k c=>gd d (sd e c)
 |.t s=>do
  match <-Pg.rd s with
  |.dj n=>if s=d then .fail else(gd d (.dj n)).bind fun _=>Lk e s d n
  |_=>do
   let v <-wk e s
   gd d v
def fill (tk:Bool) (e:Nat):List (Nat×Nat×aL)->List T->Pg (List T)
 |[],cs=>pure cs
 |(off,n,x)::ps,cs=>do
  let new <-gJ e tk x
  if new.length=n/\off+n<=cs.length then fill tk e ps (fG cs off new) else .fail
def sf (agg:Bool) (cs:List T):T:=if agg then .a cs else cs.headD .u
def rJ (agg:Bool) (sz:Nat):Nat->List T->List T
 |0,_=>[]
 |n+1,cs=>sf agg (cs.take sz)::rJ agg sz n (cs.drop sz)
def DK (e:Nat) (x:aL):Pg T:=do
 match <-raw e x with
 |.st _=>do
  let ts <-gJ e true x
  pure (.a ts)
 |_=>do
  match <-nk e x with
  |.l o sz es=>pure (.l o sz es)
  |_=>.fail
def ny (e:Nat):List (fN×aL)->Pg (List (Option T))
 |[]=>pure []
 |(m,x)::xs=>do
  match m with
  |.C=>do
   let t <-DK e x
   let ts <-ny e xs
   pure (some t::ts)
  |_=>do
   let ts <-ny e xs
   pure (none::ts)
def Cell.iI:Cell->List Nat
 |.w r _ _ _ _ _=>[r]
 |_=>[]
def sa (x:aL):AV->List Nat
 |.w r _ _ _ _ _=>[r]
 |.own _ _=>match x with|.t n=>[n]|.k _=>[]
 |.st cs=>(match x with|.t n=>if cs.any Cell.lY then[n] else[]|.k _=>[])++cs.flatMap Cell.iI
 |_=>[]
structure Hand where
 arg:Arg
 iI:List Nat:=[]
 box:Option Nat:=none
 cap:Option Nat:=none
def hand (e:Nat) (m:fN) (x:aL) (t:Option T):Pg Hand:=do
 match m with
 |.S=>do
  let v <-raw e x
  let t <-lX v
  match v,t with
  |.st _,.a cs=>pure {arg:=.st cs,iI:=sa x v}
  |.st _,_=>.fail
  |_,t=>pure {arg:=.x t,iI:=sa x v}
 |.P=>do
  match <-look e x with
  |.ptr r k [] 0=>do
   match <-oW r k [] with
   |⟨true,_,.a cs⟩=>if r<1000 then pure {arg:=.bx cs,box:=some r} else .fail
   |_=>.fail
  |_=>.fail
 |.F=>do
  match <-raw e x with
  |.fb g r k=>do
   match <-oW r k [] with
   |⟨true,_,.a _⟩=>pure {arg:=.fb g,cap:=some r}
   |_=>.fail
  |_=>.fail
 |.C=>match t with
  |some (.a cs)=>pure {arg:=.os cs}
  |some t=>pure {arg:=.own t}
  |none=>.fail
 |.M=>do
  match <-raw e x with
  |.w r k [] _ 0 n=>do
   match <-kc r k [] with
   |⟨false,_,.l .y sz es⟩=>if n=es.length/\r<1000 then pure {arg:=.mu (.l .y sz es),box:=some r} else .fail
   |_=>.fail
  |_=>.fail
def ml (e:Nat):List (fN×aL)->List (Option T)->Pg (List Hand)
 |[],_=>pure []
 |(m,x)::xs,ts=>do
  let a <-hand e m x ts.head?.join
  let as <-ml e xs ts.tail
  pure (a::as)
def apart (hs:List Hand):Bool:=
 let bs:=hs.filterMap Hand.box
 decide bs.Nodup&&((bs.all fun b=> !(hs.any fun h=>h.iI.contains b))&&hs.all fun h=>h.cap.isNone||h.cap==hs.head?.bind Hand.box)
def rM (e:Nat):List Hand->List (List T)->Pg Unit
 |[],[]=>pure ()
 |[],_=>.fail
 |h::hs,back=>match h.box with
  |none=>rM e hs back
  |some r=>match back with
   |[]=>.fail
   |cs::back=>do
    match <-Pg.rd r with
    |.box k _=>do
     Pg.wr r (.box ⟨k.e,e,e⟩ cs)
     rM e hs back
    |.own _ _=>match cs with
     |[.l .y sz es]=>do
      Pg.wr r (.own ⟨e,e,e⟩ (.l .y sz es))
      rM e hs back
     |_=>.fail
    |_=>.fail
def RV.closed:RV->Bool
 |.one t=>t.closed
 |.st cs=>cP cs
 |.bx cs=>cP cs
def RV.lO:RV->Bool
 |.one (.l .y _ _)=>true
 |.one t=>t.loose
 |.st _=>true
 |.bx _=>true
def RV.av (e:Nat):RV->AV
 |.one (.l .y sz es)=>.own ⟨e,e,e⟩ (.l .y sz es)
 |.one t=>.x t
 |.st cs=>.st (cs.map .x)
 |.bx cs=>.box ⟨e,e,e⟩ cs
def Bh (e:Nat) (d:Nat):Nat->List RV->Pg Unit
 |_,[]=>pure ()
 |j,r::rs=>do
  if j<7 then do
   Pg.wr (vt d j) (r.av (e+j+1))
   Bh e d (j+1) rs
  else .fail
def results (e:Nat) (d:Option Nat) (rs:List RV):Pg Unit:=
 match d,rs with
 |none,_=>pure ()
 |some d,[r]=>gd d (r.av (e+1))
 |some d,rs=>(gd d (.dj rs.length)).bind fun _=>Bh e d 0 rs
def se (e:Nat) (d:Option Nat) (F:aB) (args:List (fN×aL)) (env:List T):Pg Unit:=do
 let ts <-ny e args
 let vS <-ml e args ts
 let hs:=vS++env.map fun t=>{arg:=.x t}
 if apart hs then
  match F (hs.map Hand.arg) with
  |some o=>
   if((hs.all fun h=>h.iI.isEmpty)||(o.dG.all RV.closed&&o.back.all cP))&&o.dG.all RV.lO then do
    rM e hs o.back
    results e d o.dG
   else .fail
  |none=>.fail
 else .fail
def zJ (cs:List T):T:=match bO cs with|[c]=>c|cs=>.a cs
def Qe (s:Nat):Pg T:=do
 match <-Pg.rd s with
 |.box _ cs=>(Pg.wr s (.x (.p (zJ cs)))).bind fun _=>pure (.p (zJ cs))
 |.x (.p t)=>pure (.p t)
 |_=>.fail
def Fl:List aL->Pg (List T)
 |[]=>pure []
 |.t s::xs=>do
  let t <-Qe s
  let ts <-Fl xs
  pure (t::ts)
 |.k _::_=>.fail
def dE (d:Option Nat) (v:AV):Pg Unit:=
 match d with
 |some d=>gd d v
 |none=>pure ()
def ql:Cell->Option (Option (Nat×List Nat))
 |.x t=>if t.scalar then some none else none
 |.w r _ p _ 0 _=>some (some (r,p))
 |.w _ _ _ _ (_+1) _=>none
def lJ:List Cell->Option (List (Option (Nat×List Nat)))
 |[]=>some []
 |c::cs=>match ql c,lJ cs with
  |some x,some xs=>some (x::xs)
  |_,_=>none
def AV.G7:AV->Option (List (Option (Nat×List Nat)))
 |.w r k p z lo n=>lJ [.w r k p z lo n]
 |.st cs=>lJ cs
 |_=>none
def AV.Hm:AV->List Cell
 |.w r k p z lo n=>[.w r k p z lo n]
 |.st cs=>cs
 |_=>[]
def rootOf:List (Option (Nat×List Nat))->Option Nat
 |[]=>none
 |none::ps=>rootOf ps
 |some (r,_)::ps=>if ps.all (fun x=>match x with|some (r',_)=>r'==r|none=>true) then some r else none
def rh:List Cell->Pg Unit
 |[]=>pure ()
 |.x _::cs=>rh cs
 |.w r k p _ _ n::cs=>do
  let c <-kc r k p
  match c.t.aM p with
  |some (.l .y _ es)=>if es.length=n then rh cs else .fail
  |_=>.fail
def qF:List (List Nat×T)->T->Option T
 |[],t=>some t
 |(p,x)::ls,t=>match t.aM p with
  |some .u=>if t.eO p&& !p.isEmpty&&ls.all (fun m=> !(p.isPrefixOf m.1)) then qF ls (t.put p x) else none
  |_=>none
def ng:List (Option (Nat×List Nat))->List T->List (List Nat×T)
 |some (_,p)::ps,t::ts=>(p,t)::ng ps ts
 |none::ps,_::ts=>ng ps ts
 |_,_=>[]
def zG (v:AV) (ts:List T):Option Arg:=match v,ts with
 |.w _ _ _ _ _ _,[.l .y sz es]=>some (.mu (.l .y sz es))
 |.st _,ts=>some (.ms ts)
 |_,_=>none
def xY (v:AV):Option (List (Option (Nat×List Nat))×Nat):=match v.G7 with
 |some ps=>match rootOf ps with
  |some r=>some (ps,r)
  |none=>none
 |none=>none
def Dw (e r:Nat) (ls:List (List Nat×T)):Pg Unit:=do
 let av <-Pg.rd r
 match av.rc with
 |some c=>match qF ls c.t with
  |some t'=>Pg.wr r ({c with k:=⟨c.k.e,e,e⟩,t:=t'}:RC).av
  |none=>.fail
 |none=>.fail
def P0 (o:Out) (n:Nat):Option (List T):=match o.back with
 |[cs]=>if o.dG.all RV.lO&&cs.length==n then some cs else none
 |_=>none
def Arg.rE:Arg->Bool
 |.x _=>true
 |.st _=>true
 |_=>false
def Du (F:aB) (v:AV) (ts:List T) (hs:List Hand) (n:Nat):Option (Out×List T):=
 if hs.all (fun h=>h.iI.isEmpty&&h.box.isNone&&h.arg.rE) then
  match zG v ts with
  |some x=>match F (x::hs.map Hand.arg) with
   |some o=>match P0 o n with
    |some cs=>some (o,cs)
    |none=>none
   |none=>none
  |none=>none
 else none
def LY (r:Nat) (c0 c2:RC):Cell->Cell
 |.x t=>.x t
 |.w r0 k p z lo n=>match p,c0.t.aM p,c2.t.aM p with
  |[_],some (.l _ _ _),some (.l _ sz _)=>if r0=r/\c0.dh=true/\c2.dh=true/\c0.k.ok k 1=true/\sz=z then .w r0 c2.k p z lo n else .w r0 k p z lo n
  |p,_,_=>.w r0 k p z lo n
def DE (r:Nat) (c0:RC):Pg Unit:=do
 let v <-Pg.rd 0
 let av <-Pg.rd r
 match v,av.rc with
 |.st cells,some c2=>if r=0 then pure () else gd 0 (.st (cells.map (LY r c0 c2)))
 |_,_=>pure ()
def Fg (e:Nat) (d:Option Nat) (F:aB) (x:aL) (args:List (fN×aL)):Pg Unit:=do
 let v <-raw e x
 match xY v with
 |some (ps,r)=>do
  rh v.Hm
  let av <-Pg.rd r
  match av.rc with
  |some c0=>do
   let ts <-gJ e true x
   let hs <-ml e args (args.map fun _=>none)
   match Du F v ts hs ps.length with
   |some (o,cs)=>do
    Dw e r (ng ps cs)
    DE r c0
    results e d o.dG
   |none=>.fail
  |none=>.fail
 |none=>.fail
def wj (d:Nat) (k:K):Nat->List T->Option (List Cell)
 |_,[]=>some []
 |j,t::ts=>match t,wj d k (j+1) ts with
  |.l _ sz es,some cs=>some (.w d k [j] sz 0 es.length::cs)
  |t,some cs=>if t.scalar then some (.x t::cs) else none
  |_,none=>none
def aai (e d s:Nat):Pg Unit:=do
 let v <-Pg.rd s
 match v with
 |.st _=>if s=d then .fail else do
  let cs <-gJ e true (.t s)
  match wj d ⟨e,e,e⟩ 0 cs with
  |some cells=>do
   gd d (.box ⟨e,e,e⟩ cs)
   gd s (.st cells)
  |none=>.fail
 |_=>.fail
def pk (s:Nat):Pg (Option K):=.wb s .ret
def gC (s c:Nat):Pg (Option T):=.vm s c .ret
def sC (s c:Nat) (t:T):Pg Unit:=.jD s c t (.ret ())
def Qb (n off:Nat) (d:Option Nat):Pg Unit:=do
 match <-pk n with
 |some k=>dE d (.ptr n k [] off)
 |none=>.fail
def zQ (Fe:Bool) (r:Nat) (k:K) (c n:Nat):Pg T:=do
 match <-pk r with
 |some kk=>match kk.ok k 1 with
  |false=>.fail
  |true=>do
   match <-gC r c with
   |some (.l .y sz es)=>match Fe with
    |false=>(sC r c .u).bind fun _=>pure (.l .y sz (sub es 0 n))
    |true=>if n=es.length then(sC r c .u).bind fun _=>pure (.l .y sz es) else .fail
   |_=>.fail
 |none=>.fail
def Fj:List Cell->Pg (List T)
 |[]=>pure []
 |.x t::cs=>do
  let ts <-Fj cs
  pure (t::ts)
 |.w r k [c] _ 0 n::cs=>do
  let t <-zQ false r k c n
  let ts <-Fj cs
  pure (t::ts)
 |_::_=>.fail
def xr (e:Nat) (d:Option Nat):jr->Pg Unit
 |.mv (.t n)=>Qb n 0 d
 |.fa (.t n) off=>Qb n off d
 |.ld none (.t x)=>do
  match <-Pg.rd x with
  |.ptr r k [] off=>do
   match <-pk r with
   |some kk=>match kk.ok k 0 with
    |false=>.fail
    |true=>do
     match <-gC r off with
     |some t=>dE d (seen r kk [] off (.a []) t).av
     |none=>.fail
   |none=>.fail
  |_=>.fail
 |.kQ n true (.t x) (.t v)=>do
  match <-Pg.rd v with
  |.st cells=>if cells.any Cell.lY=true then .fail else do
   let new <-Fj cells
   if new.length=n then do
    match <-addr e (.t x) with
    |.ptr r k p off=>do
     let c <-oW r k p
     match putCells e c p off new with
     |some c'=>Pg.wr r c'.av
     |none=>.fail
    |_=>.fail
   else .fail
  |_=>.fail
 |.dk sz _ _ tk (.t x) y=>match d with
  |some d=>do
   match <-Pg.rd x with
   |.w r k [c] _ 0 n=>do
    match <-zQ true r k c n with
    |.l .y uq es=>do
     let v <-raw e y
     match <-lX v with
     |.l _ nQ bQ=>
      if uq=sz/\nQ=sz/\es.length+bQ.length<cQ then
       if mR bQ then gd d (.own ⟨e,e,e⟩ (.l .y sz (es++bQ)))
       else do
        match <-gJ e tk y with
        |[.l _ Bq iu]=>if Bq=sz/\es.length+iu.length<cQ then gd d (.own ⟨e,e,e⟩ (.l .y sz (es++iu))) else .fail
        |_=>.fail
      else .fail
     |_=>.fail
    |_=>.fail
   |_=>.fail
  |none=>.fail
 |_=>.fail
def T.oF:T->T
 |.a cs=>.a (cs.map fun _=>.u)
 |_=>.u
def CY (r:Nat) (k:K) (p:List Nat) (lo n:Nat):Pg T:=do
 let c <-kc r k p
 match c.t.aM p with
 |some (.l .y sz es)=>(Pg.wr r ({c with t:=c.t.put p (.l .y sz (es.take lo++((sub es lo n).map T.oF++es.drop (lo+n))))}:RC).av).bind fun _=>pure (.l .n sz (sub es lo n))
 |_=>.fail
def JY (e sz:Nat) (d:Nat) (x y:aL):Pg Unit:=do
 match <-nk e x with
 |.l .y uq es=>do
  match <-raw e y with
  |.w r k p _ lo n=>do
   match <-CY r k p lo n with
   |.l _ nQ bQ=>if uq=sz/\nQ=sz/\es.length+bQ.length<cQ then gd d (.own ⟨e,e,e⟩ (.l .y sz (es++bQ))) else .fail
   |_=>.fail
  |_=>.fail
 |_=>.fail
def exec (e:Nat) (d:Option Nat):jr->Pg Unit
 |.mv x=>do
  let v <-look e x
  match v with
  |.dj _=>match d with
   |some d=>Lj e d x
   |none=>.fail
  |.st cs=>if cs.any Cell.lY then .fail else dE d (.st cs)
  |_=>dE d v
 |.uW x=>match d with
  |some d=>Lj e d x
  |none=>.fail
 |.pick c a b=>do
  match <-raw e c with
  |.x (.b t)=>do
   let v <-raw e (if t then a else b)
   match v with
   |.x v=>dE d (.x v)
   |_=>.fail
  |_=>.fail
 |.alloc cs=>dE d (.box ⟨e,e,e⟩ cs)
 |.box tk x=>do
  let cs <-gJ e tk x
  dE d (.box ⟨e,e,e⟩ cs)
 |.fa x off=>do
  match <-addr e x with
  |.ptr r k p o=>dE d (.ptr r k p (o+off))
  |.q t o=>dE d (.q t (o+off))
  |_=>.fail
 |.ia sz x ix=>do
  let v <-indexAddr e sz x ix
  dE d v
 |.ld agg x=>do
  let v <-load e agg x
  dE d v
 |.kQ n tk x v=>store e n tk x v
 |.bin op g x y=>do
  let a <-plain e x
  let b <-plain e y
  match q9 op g a b with
  |some t=>dE d (.x t)
  |none=>.fail
 |.un op x=>do
  let a <-plain e x
  match Uw op a with
  |some t=>dE d (.x t)
  |none=>.fail
 |.J6 k x=>do
  match <-raw e x with
  |.x (.i _ n)=>dE d (.x (.i k (k.wrap n)))
  |_=>.fail
 |.L4 x=>do
  let v <-raw e x
  match <-lX v with
  |.l _ 1 es=>match sb es with
   |some ns=>dE d (.x (.s (strOf ns)))
   |none=>.fail
  |_=>.fail
 |.len str x=>do
  let v <-look e x
  match zI str v with
  |some n=>dE d (.x (.i .i64 n))
  |none=>.fail
 |.v7 sz agg zero len cap=>do
  let n <-num e len
  let c <-num e cap
  if 0<=n/\n=c/\n<cQ then dE d (.own ⟨e,e,e⟩ (.l .y sz (List.replicate n.toNat (sf agg zero)))) else .fail
 |.jU zero tk parts=>do
  let cs <-fill tk e parts zero
  dE d (.st (cs.map .x))
 |.dN sz agg zero len tk parts=>do
  let cs <-fill tk e parts (List.replicate len zero).flatten
  dE d (.own ⟨e,e,e⟩ (.l .y sz (rJ agg sz len cs)))
 |.ext x j=>match x with
  |.t s=>do
   match <-Pg.rd s with
   |.dj n=>if j<n then(wk e (vt s j)).bind fun v=>dE d v else .fail
   |_=>.fail
  |.k _=>.fail
 |.dk sz _ _ tk x y=>match d with
  |some d=>append e sz tk d x y
  |none=>.fail
 |.qJ sz tk x lo hi=>do
  let v <-slice e sz tk x lo hi
  dE d v
 |.mn xs=>do
  match <-GY e xs with
  |n::ns=>dE d (.x (.i .i64 (ns.foldl (fun a b=>if b<a then b else a) n)))
  |[]=>.fail
 |.mx xs=>do
  match <-GY e xs with
  |n::ns=>dE d (.x (.i .i64 (ns.foldl (fun a b=>if b>a then b else a) n)))
  |[]=>.fail
 |.call _ F args=>se e d F args []
 |.tK x lI args=>do
  match <-raw e x with
  |.x (.f g env)=>match lI.find? (fun c=>c.1==g) with
   |some c=>se e d c.2 args env
   |none=>.fail
  |.fb g r k=>do
   match <-oW r k [] with
   |⟨true,_,.a _⟩=>match lI.find? (fun c=>c.1==g) with
    |some c=>if r<1000 then se e d c.2 (args++[(.P,.t r)]) [] else .fail
    |none=>.fail
   |_=>.fail
  |_=>.fail
 |.iq _ F x args=>Fg e d F x args
 |.CF x=>match d,x with
  |some d,.t s=>aai e d s
  |_,_=>.fail
 |.fn g eR=>do
  let ts <-Fl eR
  dE d (.x (.f g ts))
 |.J9 g x=>do
  match <-look e x with
  |.ptr r k [] 0=>dE d (.fb g r k)
  |_=>.fail
 |.qE x=>do
  match <-look e x with
  |.ptr r k p o=>dE d (.ptr r k p o)
  |.q t o=>dE d (.q t o)
  |_=>.fail
 |.oB m=>xr e d m
 |.CC sz _ _ x y=>match d with
  |some d=>JY e sz d x y
  |none=>.fail
 |.GS x=>do
  match <-load e none x with
  |.w r k p _ lo n=>(jX true r k p lo n).bind fun t=>dE d (LF e t)
  |_=>.fail
 |.xO n sz x ix=>do
  match <-raw e ix with
  |.x (.i _ i)=>do
   match <-addr e x with
   |.ptr r k p o=>if 0<=i/\i<(n:Int) then dE d (.ptr r k p (o+i.toNat*sz)) else .fail
   |.q t o=>if 0<=i/\i<(n:Int) then dE d (.q t (o+i.toNat*sz)) else .fail
   |_=>.fail
  |_=>.fail
 |_=>.fail
structure aY where
 d:Option Nat
 op:jr
 guard:Option (Nat×Bool)
 kl:List Nat
def aY.go (e:Nat) (o:aY):Pg Unit:=
 match o.guard with
 |none=>Wr.exec e o.d o.op
 |some (s,want)=>do
  match <-Pg.rd s with
  |.x (.b t)=>if t=want then Wr.exec e o.d o.op else dE o.d (.dj 0)
  |.dj 0=>dE o.d (.dj 0)
  |_=>.fail
def Qf (s:Nat):Pg Unit:=do
 match <-look 0 (.t s) with
 |.w r k p _ lo n=>(jX false r k p lo n).bind fun t=>bif r==s then pure () else gd s (.x t)
 |_=>pure ()
def forget:List Nat->Pg Unit
 |[]=>pure ()
 |s::ss=>(bif Nat.blt s 1000 then gd s .u else Qf (s-1000)).bind fun _=>forget ss
def aY.exec (e:Nat) (o:aY):Pg Unit:=(o.go e).bind fun _=>forget o.kl
inductive eB where
 |sk
 |sR (id:Nat) (draw:Option (List (List Nat×List Nat))) (ops:List aY)
 |seq (a b:eB)
 |cond (c:aL) (a b:eB)
 |aO (id:Nat) (c:eB)
 |loop (bY:List Nat) (c:eB)
 |exit (id:Nat)
 |ret
 |bad
inductive Ex where
 |nx
 |exit (id:Nat)
 |ret
def zO (id:Nat):Nat->List aY->Pg Unit
 |_,[]=>pure ()
 |i,o::os=>do
  o.exec ((id*1000+i+1)*8)
  zO id (i+1) os
def Pg.within {α:Type} (rs ws:List Nat):Pg α->Pg α
 |.ret a=>.ret a
 |.fail=>.fail
 |.get s k=>if rs.contains s then .get s fun v=>(k v).within rs ws else .fail
 |.set s v k=>if ws.contains s then .set s v (k.within rs ws) else .fail
 |.bind p f=>.bind (p.within rs ws) fun x=>(f x).within rs ws
 |.wb s k=>if(rs.contains s||(Nat.blt s 100000&&rs.contains (100000+s)))=true then .wb s fun v=>(k v).within rs ws else .fail
 |.vm s c k=>if(rs.contains s||(Nat.blt s 100000&&rs.contains (100000*(c+2)+s)))=true then .vm s c fun v=>(k v).within rs ws else .fail
 |.jD s c t k=>if((rs.contains s||(Nat.blt s 100000&&rs.contains (100000+s)))&&(ws.contains s||(Nat.blt s 100000&&ws.contains (100000*(c+2)+s))))=true then .jD s c t (k.within rs ws) else .fail
def xq (id:Nat):Nat->List aY->List (List Nat×List Nat)->Pg Unit
 |_,[],_=>pure ()
 |i,o::os,(rs,ws)::fs=>do
  (o.exec ((id*1000+i+1)*8)).within rs ws
  xq id (i+1) os fs
 |_,_::_,[]=>.fail
def afU (id:Nat) (dr:Option (List (List Nat×List Nat))) (ops:List aY):Pg Unit:=
 match dr with
 |none=>zO id 0 ops
 |some fs=>xq id 0 ops fs
structure Sg where
 σ:St
 us:List Nat
def pJ (bY:List Nat) (σ:St) (r:Nat) (k:K) (Ld:Bool->Nat):Option K:=
 if bY.contains r then
  match(σ r).rc with
  |some c=>if c.k.ok k (Ld c.dh) then some ⟨0,0,0⟩ else none
  |none=>none
 else none
def renew (bY:List Nat) (σ:St):AV->AV
 |.own _ t=>.own ⟨0,0,0⟩ t
 |.box _ cs=>.box ⟨0,0,0⟩ cs
 |.w r k p z lo n=>match pJ bY σ r k (ic · p) with|some k'=>.w r k' p z lo n|none=>.u
 |.ptr r k p off=>match pJ bY σ r k (j8 · p) with|some k'=>.ptr r k' p off|none=>.u
 |.fb g r k=>match pJ bY σ r k (j8 · []) with|some k'=>.fb g r k'|none=>.u
 |.st _=>.u
 |.dj _=>.u
 |v=>v
def gy (bY:List Nat) (σ:St):St:=bY.foldr (fun s τ=>if s<1000 then bi τ s (renew bY σ (σ s)) else τ) (fun _=>.u)
noncomputable section
open Classical
def iter (f:Sg->Option (Ex×Sg)):Nat->Sg->Option (Ex×Sg)
 |0,_=>none
 |n+1,s=>match f s with
  |some (.nx,s')=>iter f n s'
  |r=>r
def rounds (f:Sg->Option (Ex×Sg)) (s:Sg):Option (Ex×Sg):=
 if h:∃n,(iter f n s).isSome then iter f h.choose s else none
def den:eB->Sg->Option (Ex×Sg)
 |.sk,s=>some (.nx,s)
 |.sR id dr ops,s=>
  if s.us.contains id then none
  else match(afU id dr ops).run s.σ with
   |some (_,σ)=>some (.nx,⟨σ,id::s.us⟩)
   |none=>none
 |.seq a b,s=>match den a s with
  |some (.nx,s')=>den b s'
  |r=>r
 |.cond c a b,s=>match(raw 0 c).run s.σ with
  |some (.x (.b t),_)=>if t then den a s else den b s
  |_=>none
 |.aO id c,s=>match den c s with
  |some (.exit jJ,s')=>if jJ=id then some (.nx,s') else some (.exit jJ,s')
  |r=>r
 |.loop bY c,s=>rounds (fun s=>den c ⟨gy bY s.σ,[]⟩) s
 |.exit id,s=>some (.exit id,s)
 |.ret,s=>some (.ret,s)
 |.bad,_=>none
end
inductive wF where
 |tmp (s:Nat)
 |cell (s:Nat) (agg:Option Nat)
structure aI where
 code:eB
 dG:List wF
 cO:List Nat
 ar:Nat
def Arg.av (i:Nat):Arg->AV
 |.x t=>.x t
 |.bx cs=>.box ⟨0,0,0⟩ cs
 |.own t=>.own ⟨0,0,0⟩ t
 |.os cs=>.st (cs.map .x)
 |.mu t=>.own ⟨0,0,0⟩ t
 |.st cs=>.st (cs.map .x)
 |.ms cs=>.st (cs.map .x)
 |.fb g=>.fb g 0 ⟨0,0,0⟩
def pB:Nat->List Arg->St->St
 |_,[],σ=>σ
 |i,a::as,σ=>pB (i+1) as (bi σ i (a.av i))
def LX:wF->Pg RV
 |.tmp s=>do
  let v <-Pg.rd s
  match v with
  |.box _ cs=>(Pg.wr s .u).bind fun _=>pure (.bx cs)
  |.ptr r k [] 0=>do
   match <-Pg.rd r with
   |.box kk cs=>if kk.e=k.e then(Pg.wr r .u).bind fun _=>pure (.bx cs) else .fail
   |_=>.fail
  |v=>do
   let ts <-gJ 0 true (.t s)
   match v,ts with
   |.st _,ts=>pure (.st ts)
   |_,[t]=>pure (.one t)
   |_,_=>.fail
 |.cell s agg=>do
  match <-Pg.rd s with
  |.box _ cs=>match agg,cs with
   |none,[t]=>(Pg.wr s .u).bind fun _=>pure (.one t)
   |some n,cs=>if cs.length=n then(Pg.wr s .u).bind fun _=>pure (.st cs) else .fail
   |_,_=>.fail
  |_=>.fail
def Hg:List wF->Pg (List RV)
 |[]=>pure []
 |x::xs=>do
  let r <-LX x
  let rs <-Hg xs
  pure (r::rs)
def E8:List Nat->Pg (List (List T))
 |[]=>pure []
 |i::is=>do
  match <-Pg.rd i with
  |.box k cs=>if k.e=0 then(E8 is).bind fun bs=>pure (cs::bs) else .fail
  |_=>.fail
def leave (f:aI):Pg Out:=do
 let rs <-Hg f.dG
 let bs <-E8 f.cO
 pure ⟨rs,bs⟩
def rI:Nat->List Arg->List Nat
 |_,[]=>[]
 |i,.bx _::as=>i::rI (i+1) as
 |i,_::as=>rI (i+1) as
def Arg.oB:Arg->Bool
 |.own (.l .y _ _)=>true
 |.own _=>false
 |.mu _=>false
 |.ms _=>false
 |_=>true
def Arg.y6:Arg->Bool
 |.fb _=>true
 |_=>false
def P9:List Arg->Bool
 |.bx _::as=>true
 |as=> !as.any Arg.y6
def E6 (f:aI) (as:List Arg):Bool:=as.length==f.ar&&rI 0 as==f.cO&&(as.all Arg.oB&&P9 as)
noncomputable def aQ (f:aI):aB:=fun as=>
 if E6 f as=true then
 match den f.code ⟨pB 0 as fun _=>.u,[]⟩ with
 |some (.nx,s)|some (.ret,s)=>(match(leave f).run s.σ with|some (o,_)=>some o|none=>none)
 |_=>none
 else none
def Arg.GQ:Arg->Bool
 |.mu (.l .y _ _)=>true
 |.ms _=>true
 |_=>false
def E7 (f:aI) (as:List Arg):Bool:=as.length==f.ar&&f.cO==[0]&&match as with
 |x::as=>x.GQ&&as.all Arg.rE
 |[]=>false
def ZW:Pg (List T):=do
 let v <-Pg.rd 0
 match v with
 |.own _ (.l .y sz es)=>pure [.l .y sz es]
 |.st _=>gJ 0 true (.t 0)
 |_=>.fail
def AX (f:aI):Pg Out:=do
 let rs <-Hg f.dG
 let cs <-ZW
 pure ⟨rs,[cs]⟩
noncomputable def nu (f:aI):aB:=fun as=>
 if E7 f as=true then
 match den f.code ⟨pB 0 as fun _=>.u,[]⟩ with
 |some (.nx,s)|some (.ret,s)=>(match(AX f).run s.σ with|some (o,_)=>some o|none=>none)
 |_=>none
 else none
structure Cx where
 P:Program
 ae:Nat->FuncId
 mv:Nat->Value
 w0:World
 ga:Nat->Ow
 n:Nat
 args:Array Value
 cO:List Nat
def bL (a:Act) (s:Nat):Value:=
 if s<1000 then a.tmps.getD s undef
 else match a.tmps.getD (s%1000) undef with
  |.tuple vs=>vs.getD (s/1000-1) undef
  |_=>undef
def cE (w:World):T->Nat->Nat->List Nat->Option (Nat×Nat)
 |_,b,o,[]=>some (b,o)
 |.a cs,b,o,k::p=>match cs[k]? with
  |some t=>cE w t b (o+k) p
  |none=>none
 |.l _ sz es,b,o,i::p=>match w.cell? ⟨b,o,none⟩,es[i]? with
  |some (.slice (some ad) _ _),some t=>cE w t ad.block (ad.off+i*sz) p
  |_,_=>none
 |_,_,_,_=>none
def eY (w:World):T->Option Addr->List Nat->Option (Nat×Nat)
 |.l _ sz es,some ad,i::p=>match es[i]? with
  |some t=>cE w t ad.block (ad.off+i*sz) p
  |none=>none
 |_,_,_=>none
def place (w:World) (c:RC) (v:Value) (p:List Nat):Option (Nat×Nat):=
 match c.dh,v with
 |true,.pointer (some ad)=>cE w c.t ad.block 0 p
 |false,.slice A _ _=>eY w c.t A p
 |_,_=>none
def fE (w:World) (c:RC) (v:Value) (p:List Nat):Option Value:=
 if !c.dh&&p.isEmpty then some v
 else match place w c v p with
  |some bo=>w.cell? ⟨bo.1,bo.2,none⟩
  |none=>none
def Ed (hv:Value) (sz lo n:Nat) (v:Value):Prop:=
 ∃A N C A' c',hv=.slice A N C/\v=.slice A' n c'/\n<=c'/\lo+c'<=C/\
  ((A'=A/\(lo=0\/c'=0))\/∃ad x,A=some ad/\A'=some ⟨ad.block,x,none⟩/\(x=ad.off+lo*sz\/(c'=0/\x<=ad.off+C*sz)))/\(lo=0->n=N->v=hv)
def At (w:World) (b o:Nat) (vs:List Value):Prop:=∀j v,vs[j]?=some v->w.cell? ⟨b,o+j,none⟩=some v
section
variable (X:Cx)
def wE (σ:St) (a:Act) (w:World) (r:Nat) (k:K) (p:List Nat) (off:Nat) (v:Value):Prop:=
 (∃b o,v=.pointer (some ⟨b,o,none⟩))/\∀c,(σ r).rc=some c->c.k.ok k (j8 c.dh p)=true->∀bo,place w c (bL a r) p=some bo->v=.pointer (some ⟨bo.1,bo.2+off,none⟩)
def kz (σ:St) (a:Act) (w:World) (r:Nat) (k:K) (p:List Nat) (z lo n:Nat) (v:Value):Prop:=
 (∃A C,v=.slice A n C/\n<=C/\(0<n->∃b o,A=some ⟨b,o,none⟩))/\∀c,(σ r).rc=some c->c.k.ok k (ic c.dh p)=true->(∀cs,c.t.aM p≠some (.a cs))/\∀o sz es,c.t.aM p=some (.l o sz es)->
  ∀A N C,fE w c (bL a r) p=some (.slice A N C)->sz=z/\lo+n<=es.length/\Ed (.slice A N C) sz lo n v
def lx (σ:St) (a:Act) (w:World) (ow:Nat->Ow) (s j:Nat):Cell->Value->Prop
 |.x t,v=>ay X.ae X.mv w ow (some (.sl s,[j])) t [v]
 |.w r k p z lo n,v=>kz σ a w r k p z lo n v
def o5 (σ:St) (a:Act) (w:World) (ow:Nat->Ow) (s:Nat):Nat->List Cell->List Value->Prop
 |_,[],vs=>vs=[]
 |j,c::cs,vs=>∃v rest,vs=v::rest/\lx X σ a w ow s j c v/\o5 σ a w ow s (j+1) cs rest
def wm (aG:Array Value) (fr:Nat×Nat):Prop:=fr.2<=fr.1\/aG.size<=fr.1
def sV (sz:Nat) (aG:Array Value) (fr:Nat×Nat):Prop:=fr.2<=fr.1\/sz=1/\aG.size<=fr.1
theorem sV.un {sz:Nat}{aG:Array Value}{fr:Nat×Nat} (h:sV sz aG fr):wm aG fr:=h.imp id And.right
def UA (w:World) (ow:Nat->Ow) (s:Nat) (cs:List T) (v:Value):Prop:=
 ∃b aG ty fr,v=.pointer (some ⟨b,0,none⟩)/\ow b=.own (.sl s) []/\w.heap[b]?=some (.cells aG ty fr)/\wm aG fr/\
  bZ X.ae X.mv w ow (some (.sl s,[])) 0 cs aG.toList
def cK (σ:St) (a:Act) (w:World) (ow:Nat->Ow) (s:Nat):AV->Value->Prop
 |.u,_=>True
 |.x t,v=>ay X.ae X.mv w ow none t [v]
 |.own _ t,v=>(∃o sz es,t=.l o sz es/\o.own=true)/\ay X.ae X.mv w ow (some (.sl s,[])) t [v]
 |.w r k p z lo n,v=>kz σ a w r k p z lo n v
 |.st cs,v=>∃vs:Array Value,v=.agg vs/\o5 X σ a w ow s 0 cs vs.toList
 |.box _ cs,v=>UA X w ow s cs v
 |.ptr r k p off,v=>wE σ a w r k p off v
 |.q t off,v=>∃b o vs,v=.pointer (some ⟨b,o+off,none⟩)/\ow b=.z/\At w b o vs/\ay X.ae X.mv w ow none t vs
 |.dj n,v=>∃vs:Array Value,v=.tuple vs/\vs.size=n
 |.fb g r k,v=>∃u,v=.func (.func (X.ae g)) #[] #[u]/\wE σ a w r k [] 0 u
def Cell.stamps (U:Nat->Prop):Cell->Prop
 |.w _ k _ _ _ _=>U k.e/\U k.h/\U k.d
 |_=>True
def AV.stamps (U:Nat->Prop):AV->Prop
 |.w _ k _ _ _ _=>U k.e/\U k.h/\U k.d
 |.ptr _ k _ _=>U k.e/\U k.h/\U k.d
 |.fb _ _ k=>U k.e/\U k.h/\U k.d
 |.st cs=>∀c∈cs,c.stamps U
 |.own k _=>U k.e/\U k.h/\U k.d
 |.box k _=>U k.e/\U k.h/\U k.d
 |_=>True
structure Rel (U:Nat->Prop) (J:Nat) (σ:St) (a:Act) (w:World) (ow:Nat->Ow):Prop where
 size:a.tmps.size=X.n
 small:X.n<=1000
 defers:a.defers=[]
 slot:∀s,cK X σ a w ow s (σ s) (bL a s)
 fh:∀s,(σ s).stamps U
 low:∀b,ow b≠.no->b<w.heap.size
 dw:∀b i q,ow b=.own (.ar i) q->i<J
 grown:X.w0.heap.size<=w.heap.size
 same:∀b,b<X.w0.heap.size->(∀r q,X.ga b≠.own r q)->w.heap[b]?=X.w0.heap[b]?/\ow b=X.ga b
 os:w.os=X.w0.os
 output:w.output=X.w0.output
 cO:∀i∈X.cO,a.tmps[i]?=X.args[i]?
 pR:∀s,1000<=s->σ s≠.u->∃n,σ (s%1000)=.dj n/\s/1000<=n
end
theorem JQ {a:Act}{d s:Nat}{v:Value} (h:s≠d) (h2:1000<=s->s%1000≠d):bL (a.put (some d) v) s=bL a s:=by
 unfold bL Act.put;split
 ·simp[Array.getElem?_setIfInBounds_ne (Ne.symm h)]
 ·rename_i hs;have:=h2 (by omega);simp[Array.getElem?_setIfInBounds_ne (Ne.symm this)]
theorem ZO {a:Act}{d:Nat}{v:Value} (h:d<a.tmps.size) (h2:d<1000):bL (a.put (some d) v) d=v:=by
 unfold bL Act.put;simp[h2,h]
theorem ZP {a:Act}{d j:Nat}{vs:Array Value} (h:d<a.tmps.size) (h2:d<1000):bL (a.put (some d) (.tuple vs)) (vt d j)=vs.getD j undef:=by
 unfold bL Act.put vt;have h3:¬(d+1000*(j+1)<1000):=by omega
 have h4:(d+1000*(j+1))%1000=d:=by omega
 have h5:(d+1000*(j+1))/1000-1=j:=by omega
 simp only[h3,if_false,h4,h5];simp[h]
theorem At.cons {w:World}{b o:Nat}{v:Value}{vs:List Value} (h:At w b o (v::vs)):w.cell? ⟨b,o,none⟩=some v/\At w b (o+1) vs:=
 ⟨by simpa using h 0 v rfl,fun j u hu=>by have:=h (j+1) u (by simpa using hu);rw[fK,Nat.add_comm 1 j];exact this⟩
theorem At.dk {w:World}{b o:Nat}{u vs:List Value} (h:At w b o (u++vs)):At w b o u/\At w b (o+u.length) vs:=
 ⟨fun j v hv=>h j v (by rw[nl (bt.1 hv).1];exact hv),
  fun j v hv=>by
  have:=h (u.length+j) v (by rw[kD (by omega)];simpa using hv);rw[fK];exact this⟩
theorem iZ {w:World}{b:Nat}{aG:Array Value}{ty:TypeId}{fr:Nat×Nat} (h:w.heap[b]?=some (.cells aG ty fr)) (o:Nat):
  w.cell? ⟨b,o,none⟩=aG[o]?:=by
 simp[World.cell?,h]
theorem U7 {w:World}{b:Nat}{aG:Array Value}{ty:TypeId}{fr:Nat×Nat} (h:w.heap[b]?=some (.cells aG ty fr)) (o:Nat) (vs:List Value)
  (hv:∀j v,vs[j]?=some v->aG[o+j]?=some v):At w b o vs:=fun j v hj=>by
 rw[iZ h];exact hv j v hj
theorem uI {w:World}{b:Nat}{aG:Array Value}{ty:TypeId}{fr:Nat×Nat} (h:w.heap[b]?=some (.cells aG ty fr)):At w b 0 aG.toList:=
 U7 h 0 _ fun j v hj=>by simpa using hj
theorem ol {ae:Nat->FuncId}{mv:Nat->Value}{w:World}{ow:Nat->Ow}{c:Loc}:∀{ts:List T}{k:Nat}{vs:List Value},bZ ae mv w ow c k ts vs->vs.length=ts.length
 |[],_,_,h=>by simp only[bZ]at h;simp[h]
 |t::ts,k,vs,h=>by
  simp only[bZ]at h;obtain⟨v,rest,rfl,_,h2⟩:=h;simp[ol h2]
theorem kT {ae:Nat->FuncId}{mv:Nat->Value}{w:World}{ow:Nat->Ow}{c:Loc}:∀{ts:List T}{k:Nat}{vs:List Value},bZ ae mv w ow c k ts vs->
  ∀{j:Nat}{t:T},ts[j]?=some t->∃v,vs[j]?=some v/\ay ae mv w ow (c.push (k+j)) t [v]
 |[],_,_,_,j,t,ht=>by simp at ht
 |t::ts,k,vs,h,j,t',ht=>by
  simp only[bZ]at h;obtain⟨v,rest,rfl,h1,h2⟩:=h;cases j with
  |zero=>simp at ht;subst ht;exact⟨v,rfl,h1⟩
  |succ j=>
   obtain⟨v',hv,hr⟩:=kT h2 (j:=j) (by simpa using ht);exact⟨v',by simpa using hv,by rw[show k+(j+1)=k+1+j by omega];exact hr⟩
theorem om {ae:Nat->FuncId}{mv:Nat->Value}{w:World}{ow:Nat->Ow}{c:Loc}{sz:Nat}:∀{es:List T}{k:Nat}{vs:List Value},cw ae mv w ow c sz k es vs->
  ∀{j:Nat}{t:T},es[j]?=some t->∃v1,v1.length=sz/\ay ae mv w ow (c.push (k+j)) t v1/\(∀i v,v1[i]?=some v->vs[j*sz+i]?=some v)
 |[],_,_,_,j,t,ht=>by simp at ht
 |e::es,k,vs,h,j,t',ht=>by
  simp only[cw]at h;obtain⟨v1,rest,rfl,hl,h1,h2⟩:=h;cases j with
  |zero=>
   simp at ht;subst ht;refine⟨v1,hl,h1,fun i v hv=>?_⟩;rw[Nat.zero_mul,db,nl (bt.1 hv).1];exact hv
  |succ j=>
   obtain⟨lv,kr,hr,hv⟩:=om h2 (j:=j) (by simpa using ht);refine⟨lv,kr,by rw[show k+(j+1)=k+1+j by omega];exact hr,fun i v hi=>?_⟩;rw[kD (by rw[hl,iW];omega)];rw[show(j+1)*sz+i-v1.length=j*sz+i by rw[hl,iW];omega];exact hv i v hi
def T.fF:T->Loc->List Nat->Loc
 |_,c,[]=>c
 |.a cs,c,k::ks=>match cs[k]? with|some t=>t.fF (c.push k) ks|none=>none
 |.l o _ es,c,k::ks=>match es[k]? with|some t=>t.fF ((o.loc c).push k) ks|none=>none
 |_,_,_::_=>none
section
variable {ae:Nat->FuncId}{mv:Nat->Value}{w:World}{ow:Nat->Ow}
theorem gU (r:aJ) (p:List Nat) (k:Nat):Loc.push (some (r,p)) k=some (r,p++[k]):=rfl
theorem O1:∀(p:List Nat) (t:T) (r:aJ) (q:List Nat),t.eO p=true->t.fF (some (r,q)) p=some (r,q++p)
 |[],t,r,q,_=>by simp[T.fF]
 |k::p,t,r,q,h=>by
  cases t<;>simp only[T.eO,cX]at h
  case a cs=>
   simp only[T.fF];split at h<;>rename_i he
   ·simp only[he,gU,O1 p _ r _ h,gY,gf,eC]
   ·cases h
  case l o sz es=>
   simp only[T.fF];simp only[Y8]at h;obtain⟨ho,h⟩:=h;split at h<;>rename_i he
   ·simp only[he,Ob.loc,ho,if_true,gU,O1 p _ r _ h,gY,gf,eC]
   ·cases h
theorem mO {c:Loc}{o:Ob}{sz:Nat}{es:List T}{vs:List Value} (h:ay ae mv w ow c (.l o sz es) vs):
  ∃A cap,vs=[.slice A es.length cap]/\es.length<=cap/\∀ad,A=some ad->(o.own=true\/es≠[])->ad.spot=none/\ow ad.block=(o.loc c).ow/\
   ∃aG ty fr bE,w.heap[ad.block]?=some (.cells aG ty fr)/\(o.own=true->sV sz aG fr/\ad.off+cap*sz<=aG.size)/\
    (∀j v,bE[j]?=some v->aG[ad.off+j]?=some v)/\cw ae mv w ow (o.loc c) sz 0 es bE:=by
 simp only[ay]at h;obtain⟨_,A,cap,rfl,hc,_,h⟩:=h;refine⟨A,cap,rfl,hc,fun ad hA jZ=>?_⟩;subst hA;exact h jZ
theorem oo {c:Loc}{o:Ob}{sz:Nat}{es:List T}{vs:List Value} (h:ay ae mv w ow c (.l o sz es) vs) (bC:es≠[]):
  ∃ad cap,vs=[.slice (some ad) es.length cap]/\es.length<=cap/\ad.spot=none/\ow ad.block=(o.loc c).ow/\
   ∃aG ty fr bE,w.heap[ad.block]?=some (.cells aG ty fr)/\(o.own=true->sV sz aG fr/\ad.off+cap*sz<=aG.size)/\
    (∀j v,bE[j]?=some v->aG[ad.off+j]?=some v)/\cw ae mv w ow (o.loc c) sz 0 es bE:=by
 have h':=h;simp only[ay]at h';obtain⟨_,A,cap,rfl,hc,_,h2⟩:=h';cases A with
 |none=>
  simp only at h2;subst h2;exact absurd (iY.1 (Nat.le_zero.1 hc)) bC
 |some ad=>
  obtain⟨hs,hb,rest⟩:=h2 (.inr bC);exact⟨ad,cap,rfl,hc,hs,hb,rest⟩
theorem I3:∀(p:List Nat) (t:T) {c:Loc}{vs:List Value}{b o:Nat}{node:T},ay ae mv w ow c t vs->At w b o vs->t.aM p=some node->
  ∃b' o' bE,cE w t b o p=some (b',o')/\At w b' o' bE/\ay ae mv w ow (t.fF c p) node bE
 |[],t,c,vs,b,o,node,h,ha,hn=>by
  simp only[T.aM,aR]at hn;subst hn;exact⟨b,o,vs,by cases t<;>rfl,ha,by cases t<;>exact h⟩
 |k::p,t,c,vs,b,o,node,h,ha,hn=>by
  cases t<;>simp only[T.aM,T.bA,yQ,reduceCtorEq]at hn
  case a cs=>
   obtain⟨t',bG,hn⟩:=gG.1 hn;simp only[ay]at h;obtain⟨v,hv,hr⟩:=kT h bG;rw[db]at hr;have vu:At w b (o+k) [v]:=fun j u hu=>by
    cases j with
    |zero=>simp at hu;subst hu;exact ha k v hv
    |succ j=>simp at hu
   obtain⟨b',o',bE,h1,h2,h3⟩:=I3 p t' hr vu hn;exact⟨b',o',bE,by simp only[cE,bG,h1],h2,by simp only[T.fF,bG];exact h3⟩
  case l ob sz es=>
   obtain⟨t',bG,hn⟩:=gG.1 hn;have bC:es≠[]:=by intro he;subst he;simp at bG
   obtain⟨ad,cap,rfl,hc,hs,hb,aG,ty,fr,bE,hh,eA,bP,cg⟩:=oo h bC;obtain⟨v1,hl,hr,hv⟩:=om cg bG;rw[db]at hr;have dR:=(ha.cons).1;have vu:At w ad.block (ad.off+k*sz) v1:=fun j u hu=>by
    rw[iZ hh,fK];exact bP _ _ (hv j u hu)
   obtain⟨b',o',Hn,h1,h2,h3⟩:=I3 p t' hr vu hn;exact⟨b',o',Hn,by simp only[cE,dR,bG,h1],h2,by simp only[T.fF,bG];exact h3⟩
end
structure wG (w w':World) (B O:Nat) (new:List Value):Prop where
 other:∀b,b≠B->w'.heap[b]?=w.heap[b]?
 aO:∃aG fy ty fr,w.heap[B]?=some (.cells aG ty fr)/\w'.heap[B]?=some (.cells fy ty fr)/\fy.size=aG.size/\
  ∀j,fy[j]?=if O<=j/\j<O+new.length then new[j-O]? else aG[j]?
theorem wG.cell {w w':World}{B O:Nat}{new:List Value} (h:wG w w' B O new) {b o:Nat} (hb:b=B->o<O\/O+new.length<=o):
  w'.cell? ⟨b,o,none⟩=w.cell? ⟨b,o,none⟩:=by
 by_cases hB:b=B
 ·subst hB;obtain⟨aG,fy,ty,fr,h1,h2,_,h4⟩:=h.aO;rw[iZ h1,iZ h2,h4 o,if_neg (by have:=hb rfl;omega)]
 ·simp only[World.cell?,h.other b hB]
theorem wG.new {w w':World}{B O:Nat}{new:List Value} (h:wG w w' B O new) {j:Nat}{v:Value} (hv:new[j]?=some v):
  w'.cell? ⟨B,O+j,none⟩=some v:=by
 obtain⟨aG,fy,ty,fr,h1,h2,_,h4⟩:=h.aO;have hj:=(bt.1 hv).1;rw[iZ h2,h4,if_pos ⟨by omega,by omega⟩,Nat.add_sub_cancel_left];exact hv
section
variable {ae:Nat->FuncId}{mv:Nat->Value}{w w':World}{ow ap:Nat->Ow}
theorem pj {c:Loc}:∀{ts:List T}{k:Nat}{vs:List Value},vs.length=ts.length->(∀j t v,ts[j]?=some t->vs[j]?=some v->ay ae mv w ow (c.push (k+j)) t [v])->bZ ae mv w ow c k ts vs
 |[],k,vs,hl,_=>by simp only[bZ];exact iY.1 hl
 |t::ts,k,[],hl,_=>by simp at hl
 |t::ts,k,v::vs,hl,h=>by
  simp only[bZ];refine⟨v,vs,rfl,by simpa using h 0 t v rfl rfl,pj (by simpa using hl) fun j t' v' h1 h2=>?_⟩;have:=h (j+1) t' v' (by simpa using h1) (by simpa using h2);rw[show k+(j+1)=k+1+j by omega]at this;exact this
theorem qW {c:Loc}{sz:Nat}:∀{es:List T}{k:Nat}{vs:List Value},cw ae mv w ow c sz k es vs->vs.length=es.length*sz
 |[],_,_,h=>by simp only[cw]at h;simp[h]
 |e::es,k,vs,h=>by
  simp only[cw]at h;obtain⟨v1,rest,rfl,hl,_,h2⟩:=h;simp[hl,qW h2,iW];omega
theorem Ch {c:Loc}{sz:Nat}:∀{es:List T}{k:Nat}{vs:List Value},cw ae mv w ow c sz k es vs->
  ∀{bW:List T}{c':Loc}{bE:List Value}{w':World}{ap:Nat->Ow},bW.length=es.length->bE.length=vs.length->
   (∀j t v1,es[j]?=some t->v1.length=sz->ay ae mv w ow (c.push (k+j)) t v1->(∀i v,v1[i]?=some v->vs[j*sz+i]?=some v)->
    ∃t' lv,bW[j]?=some t'/\lv.length=sz/\ay ae mv w' ap (c'.push (k+j)) t' lv/\∀i v,lv[i]?=some v->bE[j*sz+i]?=some v)->
   cw ae mv w' ap c' sz k bW bE
 |[],k,vs,h,bW,c',bE,w',ap,hl,dC,_=>by
  simp only[cw]at h;subst h;have:bW=[]:=iY.1 hl;subst this;simp only[cw];exact iY.1 dC
 |e::es,k,vs,h,bW,c',bE,w',ap,hl,dC,dD=>by
  have hlen:=qW h;simp only[cw]at h;obtain⟨v1,rest,rfl,dp,h1,h2⟩:=h;obtain⟨t',lv,bG,kr,py,eX⟩:=dD 0 e v1 rfl dp (by simpa using h1) (fun i v hv=>by
   rw[Nat.zero_mul,db,nl (bt.1 hv).1];exact hv)
  cases bW with
  |nil=>simp at bG
  |cons e' auf=>
   simp at bG;subst bG;have dW:sz<=bE.length:=by rw[dC,hlen,dH,iW];omega
   have GJ:bE.take sz=lv:=by
    apply uB;intro i;by_cases hi:i<sz
    ·rw[wO hi];have:i<lv.length:=by omega
     have h3:=eX i lv[i] (by simp[this]);rw[Nat.zero_mul,db]at h3;rw[h3];simp[this]
    ·rw[pe (by simp;omega),pe (by omega)]
   simp only[cw];refine⟨lv,bE.drop sz,by rw[<-GJ,uG],kr,by simpa using py,?_⟩;refine Ch h2 (by simpa using hl) (by simp[dC,dp]) fun j t v2 hj AG hr hv=>?_;obtain⟨t'',v2',h5,h6,h7,h8⟩:=dD (j+1) t v2 (by simpa using hj) AG (by rw[show k+(j+1)=k+1+j by omega];exact hr) (fun i v vH=>by
    rw[kD (by rw[dp,iW];omega),show(j+1)*sz+i-v1.length=j*sz+i by rw[dp,iW];omega];exact hv i v vH)
   refine⟨t'',v2',by simpa using h5,h6,by rw[show k+1+j=k+(j+1) by omega];exact h7,fun i v vH=>?_⟩;rw[rT];have:=h8 i v vH;rw[iW]at this;rw[show sz+(j*sz+i)=j*sz+sz+i by omega];exact this
end
theorem uT {α:Type} (cs:List α) (off:Nat) (new:List α) (h:off+new.length<=cs.length):(fG cs off new).length=cs.length:=by
 simp[fG];omega
theorem pn {α:Type} (cs:List α) (off:Nat) (new:List α) (h:off+new.length<=cs.length) (j:Nat):
  (fG cs off new)[j]?=if off<=j/\j<off+new.length then new[j-off]? else cs[j]?:=by
 unfold fG;have ht:(cs.take off).length=off:=by simp;omega
 by_cases h1:j<off
 ·rw[if_neg (by omega),gY,nl (by omega),wO h1]
 ·by_cases h2:j<off+new.length
  ·rw[if_pos ⟨by omega,h2⟩,gY,kD (by omega),ht,nl (by omega)]
  ·rw[if_neg (by omega),kD (by simp;omega),rT]
   congr 1
   simp;omega
section
variable {ae:Nat->FuncId}{mv:Nat->Value}{w w':World}{ow ap:Nat->Ow}
theorem xc {c:Loc}{t:T}{vs:List Value} (h:ay ae mv w ow c t vs) (hn:∀cs,t≠.a cs):vs.length=1:=by
 cases t<;>simp only[ay]at h
 case a cs=>exact absurd rfl (hn cs)
 case l o sz es=>obtain⟨_,A,cap,rfl,_⟩:=h;rfl
 case f=>obtain⟨_,rfl,_⟩:=h;rfl
 case p=>obtain⟨_,_,_,_,rfl,_⟩:=h;rfl
 case u=>obtain⟨_,rfl,_⟩:=h;rfl
 all_goals (subst h;rfl)
mutual
theorem xb:∀(t:T) {c:Loc}{vs:List Value},ay ae mv w ow c t vs->vs.all oT=true
 |.i _ _,_,_,h=>by simp only[ay]at h;subst h;rfl
 |.b _,_,_,h=>by simp only[ay]at h;subst h;rfl
 |.s _,_,_,h=>by simp only[ay]at h;subst h;rfl
 |.u,_,_,h=>by simp only[ay]at h;obtain⟨v,rfl,h⟩:=h;simp[h]
 |.a cs,c,vs,h=>by simp only[ay]at h;exact X0 cs h
 |.f _ _,_,_,h=>by simp only[ay]at h;obtain⟨_,rfl,_⟩:=h;rfl
 |.p _,_,_,h=>by simp only[ay]at h;obtain⟨_,_,_,_,rfl,_⟩:=h;rfl
 |.l _ _ _,_,_,h=>by simp only[ay]at h;obtain⟨_,_,_,rfl,_⟩:=h;rfl
theorem X0:∀(cs:List T) {c:Loc}{k:Nat}{vs:List Value},bZ ae mv w ow c k cs vs->vs.all oT=true
 |[],_,_,_,h=>by simp only[bZ]at h;subst h;rfl
 |t::ts,c,k,vs,h=>by
  simp only[bZ]at h;obtain⟨v,rest,rfl,h1,h2⟩:=h;have h3:=xb t h1;have h4:=X0 ts h2;simp only[nV,s6,lB]at h3;simp[h3,h4]
end
theorem Jv {c:Loc}{sz:Nat}:∀{es:List T}{k:Nat}{vs:List Value},cw ae mv w ow c sz k es vs->vs.all oT=true
 |[],_,_,h=>by simp only[cw]at h;subst h;rfl
 |t::ts,k,vs,h=>by
  simp only[cw]at h;obtain⟨v1,rest,rfl,_,h1,h2⟩:=h;rw[List.all_append,xb t h1,Jv h2];rfl
def xl (node:T) (r:aJ) (q:List Nat) (k:Nat):Loc:=
 match node with
 |.a _=>some (r,q++[k])
 |_=>some (r,q)
theorem XP {B O off:Nat}{j9:List T}{pF:List Value}{r:aJ}{node:T}
  (hz:∀b,ow b=.z->ap b=.z/\b≠B) (gN:∀b q',ow b=.own r q'->ap b=.own r q') (hu:wG w w' B (O+off) pF)
  (hlen:pF.length=j9.length) (bC:j9≠[]) (qx:off+j9.length<=node.cells.length):
  ∀(p:List Nat) (t:T) {q:List Nat}{b o:Nat}{vs:List Value}{hb:List Nat},ay ae mv w ow (some (r,q)) t vs->At w b o vs->ow b=.own r hb->
   (hb.length<q.length\/((∃cs,t=.a cs)/\hb.length<=q.length))->t.eO p=true->t.aM p=some node->cE w t b o p=some (B,O)->
   (∀j x v,j9[j]?=some x->pF[j]?=some v->ay ae mv w' ap (xl node r (q++p) (off+j)) x [v])->
   ∃bE,ay ae mv w' ap (some (r,q)) (t.put p (node.jo (fG node.cells off j9))) bE/\At w' b o bE/\bE.length=vs.length/\
    ((∃ob sz es,t=.l ob sz es)->p≠[]->bE=vs)/\
    ((B=b/\o<=O+off/\O+off+pF.length<=o+vs.length)\/(B≠b/\∃h,ow B=.own r (q++h))):=by
 have j5:Zs w ow w' ap:=fun b hb=>⟨(hz b hb).1,hu.other b (hz b hb).2⟩
 have other:∀(q2:List Nat),(∀h,ow B≠.own r (q2++h))->Tr w ow w' ap (some (r,q2)) (some (r,q2)):=fun q2 hq b q' hb=>
  ⟨gN b _ hb,hu.other b fun hB=>hq q' (hB▸hb)⟩
 intro p
 induction p with
 |nil=>
  intro t q b o vs hb h ha eF aF _ hn hl eh;simp only[T.aM,aR]at hn;subst hn;have kr:(b,o)=(B,O):=by cases t<;>simpa[cE]using hl
  obtain⟨rfl,rfl⟩:=Prod.mk.inj kr;by_cases GI:∃cs,t=.a cs
  ·obtain⟨cs,rfl⟩:=GI;simp only[T.cells]at qx;simp only[ay]at h;have dC:=ol h;refine⟨fG vs off pF,?_,?_,uT _ _ _ (by omega),(fun⟨_,_,_,e⟩=>by cases e),.inl ⟨rfl,by omega,by omega⟩⟩
   ·simp only[T.put,T.jo,T.cells,ay];refine pj (by rw[uT _ _ _ (by omega),uT _ _ _ qx,dC]) fun j x v hx hv=>?_;rw[pn _ _ _ qx]at hx;rw[pn _ _ _ (by omega),hlen]at hv;rw[db,gU];by_cases hj:off<=j/\j<off+j9.length
    ·rw[if_pos hj]at hx hv;have:=eh (j-off) x v hx hv;simp only[xl,nW]at this;rw[show off+(j-off)=j by omega]at this;exact this
    ·rw[if_neg hj]at hx hv;obtain⟨v',eX,hr⟩:=kT h hx;rw[db,gU]at hr;have:v'=v:=by rw[eX]at hv;exact Option.some.inj hv
     subst this;refine cB j5 x (other _ fun h' hB=>?_) hr;rw[eF]at hB;have:=(Ow.own.inj hB).2;have:=congrArg List.length this;rcases aF with aF|⟨_,aF⟩<;>simp at this<;>omega
   ·intro j v hv;rw[pn _ _ _ (by omega)]at hv;by_cases hj:off<=j/\j<off+pF.length
    ·rw[if_pos hj]at hv;have:=hu.new hv;rw[show o+off+(j-off)=o+j by omega]at this;exact this
    ·rw[if_neg hj]at hv;rw[hu.cell (fun _=>by omega)];exact ha j v hv
  ·have K4:∀cs,t≠.a cs:=fun cs e=>GI ⟨cs,e⟩;have eu:t.cells=[t]:=by cases t<;>first|rfl|exact absurd rfl (K4 _)
   rw[eu]at qx;have qw:j9.length=1/\off=0:=by
    have:0<j9.length:=BS.2 bC;simp at qx;omega
   obtain⟨tY,rfl⟩:=qw;obtain⟨x,rfl⟩:=s7.1 tY;obtain⟨v,rfl⟩:=s7.1 (hlen.trans tY);have gW:=xc h K4;refine⟨[v],?_,?_,by simp[gW],fun _ e=>absurd rfl e,.inl ⟨rfl,by omega,by simp[gW]⟩⟩
   ·have h1:=eh 0 x v rfl rfl;have dV:xl t r (q++[]) (0+0)=some (r,q):=by cases t<;>first|exact absurd rfl (K4 _)|simp[xl]
    rw[dV]at h1;have mo:t.put [] (t.jo (fG t.cells 0 [x]))=x:=by
     rw[eu];cases t<;>first|rfl|exact absurd rfl (K4 _)
    rw[mo];exact h1
   ·intro j u hj;have:=hu.new (j:=j) hj;rw[pc]at this;exact this
 |cons k p ih=>
  intro t q b o vs hb h ha eF aF hm hn hl eh;cases t<;>simp only[T.aM,T.bA,yQ,reduceCtorEq]at hn
  case a cs=>
   obtain⟨t',bG,hn⟩:=gG.1 hn;simp only[T.eO,bG]at hm;simp only[cE,bG]at hl;simp only[ay]at h;have dC:=ol h;obtain⟨v,hv,hr⟩:=kT h bG;rw[db,gU]at hr;have vu:At w b (o+k) [v]:=fun j u hu=>by
    cases j with
    |zero=>simp at hu;subst hu;exact ha k v hv
    |succ j=>simp at hu
   have hk:k<cs.length:=(bt.1 bG).1;have aut:hb.length<=q.length:=by rcases aF with aF|⟨_,aF⟩<;>omega
   obtain⟨bE,h1,h2,h3,h4,h5⟩:=ih t' hr vu eF (.inl (by simp;omega)) hm hn hl (fun j x v hx hv=>by
    have:=eh j x v hx hv;rw[gY];exact this)
   obtain⟨v',rfl⟩:∃v',bE=[v']:=s7.1 h3;refine⟨vs.set k v',?_,?_,by simp,(fun⟨_,_,_,e⟩=>by cases e),?_⟩
   ·simp only[T.put,T.bA,bG,T.dP,ay];refine pj (by simp[dC]) fun j x u hx jz=>?_;rw[db,gU];by_cases hj:j=k
    ·subst hj;rw[il hk]at hx;rw[il (by omega)]at jz;simp at hx jz;subst hx jz;exact h1
    ·rw[jQ (Ne.symm hj)]at hx jz;obtain⟨u',aoz,py⟩:=kT h hx;rw[db,gU]at py;have:u'=u:=by rw[aoz]at jz;exact Option.some.inj jz
     subst this;refine cB j5 x (other _ fun h' hB=>?_) py;rcases h5 with⟨Ai,_⟩|⟨_,h6,p4⟩
     ·subst Ai;rw[eF]at hB;have:=congrArg List.length (Ow.own.inj hB).2;simp at this;omega
     ·rw[hB]at p4;have h7:=(Ow.own.inj p4).2;rw[gY,gY]at h7;have h8:=List.append_cancel_left h7;simp at h8;exact hj h8.1
   ·intro j u hj;by_cases jI:j=k
    ·subst jI;rw[il (by omega)]at hj;simp at hj;subst hj;simpa using h2 0 v' rfl
    ·rw[jQ (Ne.symm jI)]at hj;rw[hu.cell (fun e=>by
      rcases h5 with⟨Ai,h6,h7⟩|⟨Ai,_⟩
      ·simp at h7;omega
      ·exact absurd e.symm Ai)]
     exact ha j u hj
   ·rcases h5 with⟨h6,h7,h8⟩|⟨h6,h7,h8⟩
    ·exact .inl ⟨h6,by omega,by simp at h8;omega⟩
    ·exact .inr ⟨h6,[k]++h7,by rw[h8,gY]⟩
  case l ob sz es=>
   obtain⟨t',bG,hn⟩:=gG.1 hn;have AI:es≠[]:=by intro he;subst he;simp at bG
   simp only[T.eO,bG,Y8]at hm;obtain⟨dq,hm⟩:=hm;have mY:Ob.loc ob (some (r,q))=some (r,q):=by simp[Ob.loc,dq]
   have h':=h;simp only[ay]at h';obtain⟨h0,A,cap,rfl,hc,ct,ei⟩:=h';have dR:=(ha.cons).1;cases A with
   |none=>simp only at ei;subst ei;exact absurd (iY.1 (Nat.le_zero.1 hc)) AI
   |some ad=>
    obtain⟨hs,cW,aG,ty,fr,bE,hh,eA,bP,cg⟩:=ei (.inr AI);rw[mY]at cW cg;simp only[Loc.ow]at cW;simp only[cE,dR,bG]at hl;obtain⟨v1,dp,hr,hv⟩:=om cg bG;rw[db,gU]at hr;have vu:At w ad.block (ad.off+k*sz) v1:=fun j u hu=>by
     rw[iZ hh,fK];exact bP _ _ (hv j u hu)
    obtain⟨lv,h1,h2,h3,_,h5⟩:=ih t' hr vu cW (.inl (by simp)) hm hn hl (fun j x v hx hv=>by
     have:=eh j x v hx hv;rw[gY];exact this)
    have Ao:ad.block≠b:=by
     intro e;rw[e,eF]at cW;have:=congrArg List.length (Ow.own.inj cW).2;rcases aF with aF|⟨⟨cs,e'⟩,_⟩
     ·omega
     ·cases e'
    have Ai:B≠b:=by
     rcases h5 with⟨h6,_⟩|⟨_,h7,h8⟩
     ·rw[h6];exact Ao
     ·intro e;rw[e,eF]at h8;have:=congrArg List.length (Ow.own.inj h8).2;rcases aF with aF|⟨⟨cs,e'⟩,_⟩
      ·simp at this;omega
      ·cases e'
    have hk:k<es.length:=(bt.1 bG).1;have dC:=qW cg;obtain⟨fy,lf,Gg,R4⟩:∃fy,w'.heap[ad.block]?=some (.cells fy ty fr)/\fy.size=aG.size/\
      ∀j u,(j<ad.off+k*sz\/ad.off+k*sz+sz<=j)->aG[j]?=some u->fy[j]?=some u:=by
     by_cases hB:ad.block=B
     ·obtain⟨a1,a2,Uv,Qc,h6,h7,h8,h9⟩:=hu.aO;rw[<-hB,hh]at h6;cases h6;refine⟨a2,hB▸h7,h8,fun j u hj jz=>?_⟩;rw[h9,if_neg]
      ·exact jz
      ·rcases h5 with⟨_,eU,lP⟩|⟨eU,_⟩
       ·rw[dp]at lP;omega
       ·exact absurd hB.symm eU
     ·exact⟨aG,(hu.other _ hB).trans hh,rfl,fun _ _ _ h=>h⟩
    refine⟨[.slice (some ad) es.length cap],?_,?_,rfl,fun _ _=>rfl,.inr ⟨Ai,?_⟩⟩
    ·simp only[T.put,T.bA,bG,T.dP,ay];refine⟨h0,some ad,cap,by simp,by simpa using hc,fun k' lU=>by simpa using ct k' lU,fun _=>⟨hs,?_,fy,ty,fr,fG bE (k*sz) lv,lf,?_,?_,?_⟩⟩
     ·rw[mY];exact gN _ _ cW
     ·intro x;exact⟨by rw[Gg];exact(eA x).1,by rw[Gg];exact(eA x).2⟩
     ·have hle:k*sz+lv.length<=bE.length:=by
       rw[h3,dp,dC];have:(k+1)*sz<=es.length*sz:=kC _ hk;rw[iW]at this;exact this
      intro j u hj;rw[pn _ _ _ hle,h3,dp]at hj;by_cases xH:k*sz<=j/\j<k*sz+sz
      ·rw[if_pos xH]at hj;have:=h2 _ u hj;rw[iZ lf]at this;rw[<-this];congr 1;omega
      ·rw[if_neg xH]at hj;exact R4 _ u (by omega) (bP j u hj)
     ·rw[mY];have hle:k*sz+lv.length<=bE.length:=by
       rw[h3,dp,dC];have:(k+1)*sz<=es.length*sz:=kC _ hk;rw[iW]at this;exact this
      refine Ch cg (by simp) (uT _ _ _ hle) fun j t2 v2 hj dy dS gQ=>?_;rw[db,gU]at dS⊢;have idx:∀i,i<sz->(k*sz<=j*sz+i/\j*sz+i<k*sz+sz<->j=k):=fun i hi=>by
       constructor
       ·rintro⟨a1,a2⟩;rcases Nat.lt_trichotomy j k with h|h|h
        ·have:(j+1)*sz<=k*sz:=kC _ h;rw[iW]at this;omega
        ·exact h
        ·have:(k+1)*sz<=j*sz:=kC _ h;rw[iW]at this;omega
       ·rintro rfl;omega
      by_cases jI:j=k
      ·subst jI;refine⟨_,lv,il hk,by omega,h1,fun i u hi=>?_⟩;have mW:i<sz:=by have:=(bt.1 hi).1;omega
       rw[pn _ _ _ hle,h3,dp,if_pos (by omega)];rw[show j*sz+i-j*sz=i by omega];exact hi
      ·refine⟨t2,v2,by rw[jQ (Ne.symm jI)];exact hj,dy,cB j5 t2 (other _ fun h' hB=>?_) dS,fun i u hi=>?_⟩
       ·rcases h5 with⟨h6,_⟩|⟨_,h7,h8⟩
        ·rw[h6,cW]at hB;have:=congrArg List.length (Ow.own.inj hB).2;simp at this
        ·rw[hB]at h8;have h9:=(Ow.own.inj h8).2;rw[gY,gY]at h9;have eU:=List.append_cancel_left h9;simp at eU;exact jI eU.1
       ·have mW:i<sz:=by have:=(bt.1 hi).1;omega
        rw[pn _ _ _ hle,h3,dp,if_neg (fun hx=>jI ((idx i mW).1 hx))];exact gQ i u hi
    ·intro j u hj;cases j with
     |zero=>
      simp at hj;subst hj;rw[pc,hu.cell (fun e=>absurd e.symm Ai)];exact dR
     |succ j=>simp at hj
    ·rcases h5 with⟨h6,_⟩|⟨_,h7,h8⟩
     ·exact⟨[],by rw[h6,cW];simp⟩
     ·exact⟨[k]++h7,by rw[h8,gY]⟩
end
section
variable {ae:Nat->FuncId}{mv:Nat->Value}{w w':World}{ow ap:Nat->Ow}
theorem I2 (hz:∀b,ow b=.z->w'.heap[b]?=w.heap[b]?):∀(p:List Nat) (t:T) {c:Loc}{vs:List Value}{b o:Nat},
  (∀r q,c=some (r,q)->∀b q',ow b=.own r (q++q')->w'.heap[b]?=w.heap[b]?)->
  ay ae mv w ow c t vs->At w b o vs->w'.heap[b]?=w.heap[b]?->cE w' t b o p=cE w t b o p
 |[],t,_,_,_,_,_,_,_,_=>by cases t<;>rfl
 |k::p,t,c,vs,b,o,hc,h,ha,hb=>by
  cases t<;>try rfl
  case a cs=>
   simp only[cE];cases ht:cs[k]? with
   |none=>rfl
   |some t'=>
    simp only;simp only[ay]at h;obtain⟨v,hv,hr⟩:=kT h ht;refine I2 hz p t' (fun r q hq b' q' cU=>?_) hr (fun j u hj=>?_) hb
    ·rcases c with _|⟨r0,q0⟩
     ·cases hq
     ·simp only[gU,aR,di]at hq;obtain⟨rfl,rfl⟩:=hq;exact hc _ _ rfl b' ((0+k)::q') (by simpa using cU)
    ·cases j with
     |zero=>simp at hj;subst hj;exact ha k v hv
     |succ j=>simp at hj
  case l ob sz es=>
   simp only[cE];have dR:w'.cell? ⟨b,o,none⟩=w.cell? ⟨b,o,none⟩:=by simp only[World.cell?,hb]
   rw[dR];cases ht:es[k]? with
   |none=>split<;>simp_all
   |some t'=>
    have bC:es≠[]:=by intro he;subst he;simp at ht
    obtain⟨ad,cap,rfl,_,_,cW,aG,ty,fr,bE,hh,_,bP,cg⟩:=oo h bC;have dR:=(ha.cons).1;simp only[dR];obtain⟨v1,_,hr,hv⟩:=om cg ht;have cN:∀r q,Ob.loc ob c=some (r,q)->∀b q',ow b=.own r (q++q')->w'.heap[b]?=w.heap[b]?:=fun r q hq=>by
     unfold Ob.loc at hq;split at hq
     ·exact hc r q hq
     ·cases hq
    refine I2 hz p t' (fun r q hq b' q' cU=>?_) hr (fun j u hj=>?_) ?_
    ·rcases dq:Ob.loc ob c with _|⟨r0,q0⟩
     ·rw[dq]at hq;cases hq
     ·rw[dq]at hq;simp only[gU,aR,di]at hq;obtain⟨rfl,rfl⟩:=hq;exact cN _ _ dq b' ((0+k)::q') (by simpa using cU)
    ·rw[iZ hh,fK];exact bP _ _ (hv j u hj)
    ·rcases dq:Ob.loc ob c with _|⟨r0,q0⟩
     ·rw[dq]at cW;exact hz _ cW
     ·rw[dq]at cW;exact cN _ _ dq _ [] (by simpa[Loc.ow]using cW)
theorem EH:∀(p:List Nat) (t:T) {c:Loc}{vs:List Value}{b o b' o':Nat},ay ae mv w ow c t vs->At w b o vs->cE w t b o p=some (b',o')->
  b'=b\/ow b'=.z\/∃r q q',c=some (r,q)/\ow b'=.own r (q++q')
 |[],t,_,_,_,_,_,_,_,_,hl=>by
  have:cE w t _ _ []=_:=hl;cases t<;>simp only[cE,aR,di]at this<;>exact .inl this.1.symm
 |k::p,t,c,vs,b,o,b',o',h,ha,hl=>by
  cases t<;>simp only[cE,reduceCtorEq]at hl
  case a cs=>
   split at hl<;>rename_i he
   ·simp only[ay]at h;obtain⟨v,hv,hr⟩:=kT h he;rcases EH p _ hr (fun j u hj=>by
     cases j with
     |zero=>simp at hj;subst hj;exact ha k v hv
     |succ j=>simp at hj) hl with h1|h1|⟨r,q,q',h1,h2⟩
    ·exact .inl h1
    ·exact .inr (.inl h1)
    ·rcases c with _|⟨r0,q0⟩
     ·cases h1
     ·simp only[gU,aR,di]at h1;obtain⟨rfl,rfl⟩:=h1;exact .inr (.inr ⟨_,_,[0+k]++q',rfl,by rw[h2,gY]⟩)
   ·cases hl
  case l ob sz es=>
   split at hl<;>rename_i iL xG
   ·rename_i ad N C t';have bC:es≠[]:=by intro he;subst he;simp at xG
    obtain⟨ot,cap,rfl,_,_,cW,aG,ty,fr,bE,hh,_,bP,cg⟩:=oo h bC;have dR:=(ha.cons).1;rw[dR]at iL;cases iL;obtain⟨v1,_,hr,hv⟩:=om cg xG;have h3:ow ad.block=.z\/∃r q q',c=some (r,q)/\ow ad.block=.own r (q++q'):=by
     unfold Ob.loc at cW;split at cW
     ·rcases c with _|⟨r0,q0⟩
      ·exact .inl cW
      ·exact .inr ⟨r0,q0,[],rfl,by simpa[Loc.ow]using cW⟩
     ·exact .inl cW
    rcases EH p _ hr (fun j u hj=>by rw[iZ hh,fK];exact bP _ _ (hv j u hj)) hl with h1|h1|⟨r,q,q',h1,h2⟩
    ·rw[h1];exact .inr h3
    ·exact .inr (.inl h1)
    ·unfold Ob.loc at h1;split at h1
     ·rcases c with _|⟨r0,q0⟩
      ·cases h1
      ·simp only[gU,aR,di]at h1;obtain⟨rfl,rfl⟩:=h1;exact .inr (.inr ⟨_,_,[0+k]++q',rfl,by rw[h2,gY]⟩)
     ·cases h1
   ·cases hl
end
section
variable {X:Cx}{U:Nat->Prop}{J:Nat}{σ aj:St}{a a':Act}{w w':World}{ow ap:Nat->Ow}
structure dn (U:Nat->Prop) (σ:St) (a:Act) (w:World) (aj:St) (a':Act) (w':World) (r:Nat):Prop where
 ptr:∀(k:K) p bo c',U k.e->U k.h->U k.d->(aj r).rc=some c'->c'.k.ok k (j8 c'.dh p)=true->place w' c' (bL a' r) p=some bo->
  ∃c,(σ r).rc=some c/\c.k.ok k (j8 c.dh p)=true/\place w c (bL a r) p=some bo
 view:∀(k:K) p o' sz bW A N C c',U k.e->U k.h->U k.d->(aj r).rc=some c'->c'.k.ok k (ic c'.dh p)=true->c'.t.aM p=some (.l o' sz bW)->
  fE w' c' (bL a' r) p=some (.slice A N C)->
  ∃c o es,(σ r).rc=some c/\c.k.ok k (ic c.dh p)=true/\c.t.aM p=some (.l o sz es)/\es.length=bW.length/\fE w c (bL a r) p=some (.slice A N C)
 str:∀(k:K) p cA c',U k.e->U k.h->U k.d->(aj r).rc=some c'->c'.k.ok k (ic c'.dh p)=true->c'.t.aM p=some (.a cA)->
  ∃c cs,(σ r).rc=some c/\c.k.ok k (ic c.dh p)=true/\c.t.aM p=some (.a cs)
theorem dn.LH {r:Nat} (h:dn U σ a w aj a' w' r) {k:K}{p:List Nat}{off:Nat}{v:Value} (h1:U k.e) (h2:U k.h) (h3:U k.d)
  (hp:wE σ a w r k p off v):wE aj a' w' r k p off v:=⟨hp.1,fun c' cN hk bo eF=>by
 obtain⟨c,hc,lU,nz⟩:=h.ptr k p bo c' h1 h2 h3 cN hk eF;exact hp.2 c hc lU bo nz⟩
theorem dn.yu {r:Nat} (h:dn U σ a w aj a' w' r) {k:K}{p:List Nat}{z lo n:Nat}{v:Value} (h1:U k.e) (h2:U k.h) (h3:U k.d)
  (hp:kz σ a w r k p z lo n v):kz aj a' w' r k p z lo n v:=⟨hp.1,fun c' cN hk=>⟨fun cA hn=>by
  obtain⟨c,cs,hc,lU,na⟩:=h.str k p cA c' h1 h2 h3 cN hk hn;exact(hp.2 c hc lU).1 cs na,fun o' sz bW hn A N C hhv=>by
  obtain⟨c,o,es,hc,lU,na,kr,anb⟩:=h.view k p o' sz bW A N C c' h1 h2 h3 cN hk hn hhv;rw[<-kr];exact(hp.2 c hc lU).2 o sz es na A N C anb⟩⟩
theorem K.TJ {c k:K}{n:Nat} (h:c.ok k n=true):c.e=k.e:=by
 unfold K.ok at h;split at h<;>simp at h
 ·exact h
 ·exact h.1
 ·exact h.1.1
theorem dn.fresh {r:Nat} (h:∀c',(aj r).rc=some c'->¬U c'.k.e):dn U σ a w aj a' w' r:=
 ⟨fun k p bo c' h1 _ _ hc hk _=>absurd (K.TJ hk▸h1) (h c' hc),fun k p o' sz bW A N C c' h1 _ _ hc hk _ _=>absurd (K.TJ hk▸h1) (h c' hc),
  fun k p cA c' h1 _ _ hc hk _=>absurd (K.TJ hk▸h1) (h c' hc)⟩
theorem dn.trans {aga:St}{ZT:Act}{gS:World}{r:Nat} (h:dn U σ a w aj a' w' r) (h':dn U aj a' w' aga ZT gS r):dn U σ a w aga ZT gS r where
 ptr:=fun k p bo E9 h1 h2 h3 hc hk hp=>by
  obtain⟨c',cN,lU,hp'⟩:=h'.ptr k p bo E9 h1 h2 h3 hc hk hp;exact h.ptr k p bo c' h1 h2 h3 cN lU hp'
 view:=fun k p o' sz bW A N C E9 h1 h2 h3 hc hk hn hh=>by
  obtain⟨c',o1,es1,cN,lU,na,kr,lf⟩:=h'.view k p o' sz bW A N C E9 h1 h2 h3 hc hk hn hh;obtain⟨c,o2,bQ,dx,vI,gK,dy,lS⟩:=h.view k p o1 sz es1 A N C c' h1 h2 h3 cN lU na lf;exact⟨c,o2,bQ,dx,vI,gK,dy.trans kr,lS⟩
 str:=fun k p cA E9 h1 h2 h3 hc hk hn=>by
  obtain⟨c',kB,cN,lU,na⟩:=h'.str k p cA E9 h1 h2 h3 hc hk hn;exact h.str k p kB c' h1 h2 h3 cN lU na
theorem Pb {r:Nat}{c:RC}{v:Value} (hc:(σ r).rc=some c) (hs:cK X σ a w ow r (σ r) v) (hz:∀b,ow b=.z->w'.heap[b]?=w.heap[b]?)
  (ho:∀b q,ow b=.own (.sl r) q->w'.heap[b]?=w.heap[b]?) (p:List Nat):place w' c v p=place w c v p:=by
 rcases aV:σ r with _|_|⟨k,t⟩|_|_|⟨k,cs⟩|_|_|_<;>rw[aV]at hc hs<;>simp only[AV.rc,reduceCtorEq,aR]at hc
 ·subst hc;simp only[cK]at hs;obtain⟨⟨o,sz,es,rfl,gN⟩,hr⟩:=hs;cases p with
  |nil=>cases v<;>first|rfl|(rename_i A _ _;cases A<;>rfl)
  |cons i p=>
   cases ht:es[i]? with
   |none=>cases v<;>first|rfl|(rename_i A _ _;cases A<;>simp only[place,eY,ht])
   |some t=>
    have bC:es≠[]:=by intro he;subst he;simp at ht
    obtain⟨ad,cap,hv,_,_,cW,aG,ty,fr,bE,hh,_,bP,cg⟩:=oo hr bC;obtain rfl:v=.slice (some ad) es.length cap:=by simpa using hv
    simp only[place,eY,ht];obtain⟨v1,_,dO,gW⟩:=om cg ht;have hl:Ob.loc o (some (aJ.sl r,[]))=some (aJ.sl r,[]):=by simp[Ob.loc,gN]
    rw[hl]at cW dO;refine I2 hz p t (fun r' q hq b q' hb=>?_) dO (fun j u hj=>?_) (ho _ _ cW)
    ·simp only[gU,aR,di]at hq;obtain⟨rfl,rfl⟩:=hq;exact ho b _ hb
    ·rw[iZ hh,fK];exact bP _ _ (gW j u hj)
 ·subst hc;simp only[cK]at hs;obtain⟨b,aG,ty,fr,rfl,hb,hh,_,hr⟩:=hs;simp only[place];refine I2 (c:=some (.sl r,[])) hz p (.a cs) (fun r' q hq b q' hb=>?_) (by simp only[ay];exact hr) (uI hh) (ho _ _ hb);simp only[aR,di]at hq;obtain⟨rfl,rfl⟩:=hq;exact ho b _ hb
theorem Jx {r:Nat}{c:RC}{v:Value} (hc:(σ r).rc=some c) (hs:cK X σ a w ow r (σ r) v) {p:List Nat}{node:T} (hn:c.t.aM p=some node)
  (hp:c.dh=true\/p≠[]):∃b o vs,place w c v p=some (b,o)/\At w b o vs/\ay X.ae X.mv w ow (c.t.fF (some (.sl r,[])) p) node vs:=by
 rcases aV:σ r with _|_|⟨k,t⟩|_|_|⟨k,cs⟩|_|_|_<;>rw[aV]at hc hs<;>simp only[AV.rc,reduceCtorEq,aR]at hc
 ·subst hc;simp only[cK]at hs;obtain⟨⟨o,sz,es,rfl,gN⟩,hr⟩:=hs;cases p with
  |nil=>simp at hp
  |cons i p=>
   simp only[T.aM,T.bA]at hn;obtain⟨t,ht,hn⟩:=gG.1 hn;have bC:es≠[]:=by intro he;subst he;simp at ht
   obtain⟨ad,cap,hv,_,_,cW,aG,ty,fr,bE,hh,_,bP,cg⟩:=oo hr bC;obtain rfl:v=.slice (some ad) es.length cap:=by simpa using hv
   obtain⟨v1,_,dO,gW⟩:=om cg ht;rw[db]at dO;obtain⟨b',o',Hn,h1,h2,h3⟩:=I3 p t dO (b:=ad.block) (o:=ad.off+i*sz) (fun j u hj=>by
    rw[iZ hh,fK];exact bP _ _ (gW j u hj)) hn
   exact⟨b',o',Hn,by simp only[place,eY,ht,h1],h2,by simp only[T.fF,ht];exact h3⟩
 ·subst hc;simp only[cK]at hs;obtain⟨b,aG,ty,fr,rfl,hb,hh,_,hr⟩:=hs;obtain⟨b',o',Hn,h1,h2,h3⟩:=I3 p (.a cs) (c:=some (.sl r,[])) (by simp only[ay];exact hr) (uI hh) hn;exact⟨b',o',Hn,by simp only[place,h1],h2,h3⟩
theorem xd {r:Nat}{c:RC}{v:Value} (hc:(σ r).rc=some c) (hs:cK X σ a w ow r (σ r) v) {p:List Nat}{o:Ob}{sz:Nat}{es:List T}
  (hn:c.t.aM p=some (.l o sz es)):∃hv,fE w c v p=some hv/\ay X.ae X.mv w ow (c.t.fF (some (.sl r,[])) p) (.l o sz es) [hv]:=by
 by_cases hp:c.dh=true\/p≠[]
 ·obtain⟨b,o',vs,h1,h2,h3⟩:=Jx hc hs hn hp;obtain⟨A,cap,rfl,_,_⟩:=mO h3;refine⟨_,?_,h3⟩;unfold fE;rw[if_neg (by
   rcases hp with hp|hp
   ·simp[hp]
   ·cases p<;>simp at hp⊢),h1]
  exact(h2.cons).1
 ·have h1:c.dh=false:=by cases h:c.dh<;>simp[h]at hp⊢
  have h2:p=[]:=by
   cases p with
   |nil=>rfl
   |cons=>simp at hp
  subst h2;refine⟨v,by simp[fE,h1],?_⟩;rcases aV:σ r with _|_|⟨k,t⟩|_|_|⟨k,cs⟩|_|_|_<;>rw[aV]at hc hs<;>simp only[AV.rc,reduceCtorEq,aR]at hc
  ·subst hc;simp only[cK]at hs;simp only[T.aM,aR]at hn;obtain⟨⟨o',qK,bW,rfl,gN⟩,hr⟩:=hs;cases hn;exact hr
  ·subst hc;cases h1
theorem XA {r:Nat}{c:RC}{v:Value} (hc:(σ r).rc=some c) (hs:cK X σ a w ow r (σ r) v) {p:List Nat}{bo:Nat×Nat} (hp:place w c v p=some bo):
  ow bo.1=.z\/∃q,ow bo.1=.own (.sl r) q:=by
 obtain⟨b',o'⟩:=bo;rcases aV:σ r with _|_|⟨k,t⟩|_|_|⟨k,cs⟩|_|_|_<;>rw[aV]at hc hs<;>simp only[AV.rc,reduceCtorEq,aR]at hc
 ·subst hc;simp only[cK]at hs;obtain⟨⟨o,sz,es,rfl,gN⟩,hr⟩:=hs;cases p with
  |nil=>cases v<;>first|(simp only[place,reduceCtorEq]at hp;done)|(rename_i A _ _;cases A<;>simp only[place,eY,reduceCtorEq]at hp)
  |cons i p=>
   cases ht:es[i]? with
   |none=>cases v<;>first|(simp only[place,reduceCtorEq]at hp;done)|(rename_i A _ _;cases A<;>simp only[place,eY,ht,reduceCtorEq]at hp)
   |some t=>
    have bC:es≠[]:=by intro he;subst he;simp at ht
    obtain⟨ad,cap,hv,_,_,cW,aG,ty,fr,bE,hh,_,bP,cg⟩:=oo hr bC;obtain rfl:v=.slice (some ad) es.length cap:=by simpa using hv
    simp only[place,eY,ht]at hp;obtain⟨v1,_,dO,gW⟩:=om cg ht;have hl:Ob.loc o (some (aJ.sl r,[]))=some (aJ.sl r,[]):=by simp[Ob.loc,gN]
    rw[hl]at cW dO;rcases EH p t dO (fun j u hj=>by rw[iZ hh,fK];exact bP _ _ (gW j u hj)) hp with h1|h1|⟨r',q,q',h1,h2⟩
    ·exact .inr ⟨_,h1▸cW⟩
    ·exact .inl h1
    ·simp only[gU,aR,di]at h1;obtain⟨rfl,rfl⟩:=h1;exact .inr ⟨_,h2⟩
 ·subst hc;simp only[cK]at hs;obtain⟨b,aG,ty,fr,rfl,hb,hh,_,hr⟩:=hs;simp only[place]at hp;rcases EH p (.a cs) (c:=some (.sl r,[])) (by simp only[ay];exact hr) (uI hh) hp with h1|h1|⟨r',q,q',h1,h2⟩
  ·exact .inr ⟨_,h1▸hb⟩
  ·exact .inl h1
  ·simp only[aR,di]at h1;obtain⟨rfl,rfl⟩:=h1;exact .inr ⟨_,h2⟩
theorem Zap {r:Nat}{c:RC}{v:Value} (hc:(σ r).rc=some c) (hs:cK X σ a w ow r (σ r) v) (hz:∀b,ow b=.z->w'.heap[b]?=w.heap[b]?)
  (ho:∀b q,ow b=.own (.sl r) q->w'.heap[b]?=w.heap[b]?) {p:List Nat}{o:Ob}{sz:Nat}{es:List T} (hn:c.t.aM p=some (.l o sz es)):fE w' c v p=fE w c v p:=by
 unfold fE;split
 ·rfl
 ·rw[Pb hc hs hz ho p];cases hp:place w c v p with
  |none=>rfl
  |some bo=>
   simp only;have hb:ow bo.1=.z\/∃q,ow bo.1=.own (.sl r) q:=XA hc hs hp;have hh:w'.heap[bo.1]?=w.heap[bo.1]?:=by
    rcases hb with hb|⟨q,hb⟩
    ·exact hz _ hb
    ·exact ho _ _ hb
   simp only[World.cell?,hh]
end
section
variable {ae:Nat->FuncId}{mv:Nat->Value}{w w':World}{ow ap:Nat->Ow}
theorem Jq (hz:Zs w ow w' ap) {node fM:T}:∀(p:List Nat) (t:T) {c:Loc}{vs:List Value},ay ae mv w ow c t vs->t.aM p=some node->
  (∀bE,ay ae mv w ow (t.fF c p) node bE->ay ae mv w' ap (t.fF c p) fM bE)->
  (∀r q,c=some (r,q)->∀b q',ow b=.own r (q++q')->¬p <+: q'->ap b=.own r (q++q')/\w'.heap[b]?=w.heap[b]?)->
  ay ae mv w' ap c (t.put p fM) vs
 |[],t,c,vs,h,hn,eh,_=>by
  simp only[T.aM,aR]at hn;subst hn;have:=eh vs (by cases t<;>exact h);cases t<;>exact this
 |k::p,t,c,vs,h,hn,eh,jY=>by
  have Bo:∀j,j≠k->Tr w ow w' ap (c.push j) (c.push j):=fun j hj=>by
   rcases c with _|⟨r,q⟩
   ·trivial
   ·intro b q' hb;have cU:ow b=.own r (q++(j::q')):=by rw[hb];simp
    obtain⟨h1,h2⟩:=jY r q rfl b (j::q') cU (by simp[Ne.symm hj]);exact⟨by rw[h1];simp,h2⟩
  have down:∀r q,c.push k=some (r,q)->∀b q',ow b=.own r (q++q')->¬p <+: q'->ap b=.own r (q++q')/\w'.heap[b]?=w.heap[b]?:=fun r q hq b q' hb vP=>by
   rcases c with _|⟨r0,q0⟩
   ·cases hq
   ·simp only[gU,aR,di]at hq;obtain⟨rfl,rfl⟩:=hq;have cU:ow b=.own r0 (q0++(k::q')):=by rw[hb];simp
    obtain⟨h1,h2⟩:=jY r0 q0 rfl b (k::q') cU (by simpa using vP);exact⟨by rw[h1];simp,h2⟩
  cases t<;>simp only[T.aM,T.bA,yQ,reduceCtorEq]at hn
  case a cs=>
   obtain⟨t',bG,gK⟩:=gG.1 hn;simp only[T.fF,bG]at eh;simp only[ay]at h;have dC:=ol h;have hk:k<cs.length:=(bt.1 bG).1;simp only[T.put,T.bA,bG,T.dP,ay];refine pj (by simp[dC]) fun j x u hx hu=>?_;obtain⟨u',jz,hr⟩:∃u',vs[j]?=some u'/\∀y,cs[j]?=some y->ay ae mv w ow (c.push (0+j)) y [u']:=by
    obtain⟨y,hy⟩:∃y,cs[j]?=some y:=by
     have:=(bt.1 hx).1;exact⟨_,bF (by simpa using this)⟩
    obtain⟨u',h1,h2⟩:=kT h hy;exact⟨u',h1,fun y' GM=>by rw[hy]at GM;cases GM;exact h2⟩
   rw[jz]at hu;cases hu;rw[db]at hr⊢;by_cases hj:j=k
   ·subst hj;rw[il hk]at hx;cases hx;exact Jq hz p t' (hr t' bG) gK eh down
   ·rw[jQ (Ne.symm hj)]at hx;exact cB hz x (Bo j hj) (hr x hx)
  case l o sz es=>
   obtain⟨t',bG,gK⟩:=gG.1 hn;simp only[T.fF,bG]at eh;simp only[T.put,T.bA,bG,T.dP];simp only[ay]at h⊢;obtain⟨h0,A,cap,rfl,hc,hm,ei⟩:=h;have hk:k<es.length:=(bt.1 bG).1;refine⟨h0,A,cap,by simp,by simpa using hc,by simpa using hm,?_⟩;cases A with
   |none=>exact ei
   |some ad=>
    intro _;have bC:es≠[]:=by intro he;subst he;simp at bG
    obtain⟨hs,hb,aG,ty,fr,bE,hh,eA,bP,cg⟩:=ei (.inr bC);have cW:ap ad.block=(o.loc c).ow/\w'.heap[ad.block]?=w.heap[ad.block]?:=by
     unfold Ob.loc at hb⊢;split at hb<;>rename_i ho
     ·rw[if_pos ho];rcases c with _|⟨r,q⟩
      ·exact hz _ hb
      ·have:=jY r q rfl ad.block [] (by simpa[Loc.ow]using hb) (by simp);simpa[Loc.ow]using this
     ·rw[if_neg ho];exact hz _ hb
    refine⟨hs,cW.1,aG,ty,fr,bE,cW.2▸hh,eA,bP,?_⟩;refine Ch cg (by simp) rfl fun j t2 v2 hj dy dS gQ=>?_;rw[db]at dS⊢;by_cases jI:j=k
    ·subst jI;rw[bG]at hj;cases hj;refine⟨_,v2,il hk,dy,Jq hz p t' dS gK eh ?_,gQ⟩;intro r q hq;unfold Ob.loc at hq;split at hq
     ·exact down r q hq
     ·cases hq
    ·refine⟨t2,v2,by rw[jQ (Ne.symm jI)];exact hj,dy,cB hz t2 ?_ dS,gQ⟩;unfold Ob.loc;split
     ·exact Bo j jI
     ·trivial
theorem X8 {c:Loc}{sz:Nat}:∀{es:List T}{k:Nat}{vs:List Value},vs.length=es.length*sz->
  (∀j t,es[j]?=some t->∃v1,v1.length=sz/\ay ae mv w ow (c.push (k+j)) t v1/\∀i v,v1[i]?=some v->vs[j*sz+i]?=some v)->cw ae mv w ow c sz k es vs
 |[],k,vs,hl,_=>by simp only[cw];exact iY.1 (by simpa using hl)
 |e::es,k,vs,hl,h=>by
  obtain⟨v1,dp,hr,hv⟩:=h 0 e rfl;have dW:sz<=vs.length:=by rw[hl,dH,iW];omega
  have GJ:vs.take sz=v1:=by
   apply uB;intro i;by_cases hi:i<sz
   ·rw[wO hi];have:i<v1.length:=by omega
    have h3:=hv i v1[i] (by simp[this]);rw[Nat.zero_mul,db]at h3;rw[h3];simp[this]
   ·rw[pe (by simp;omega),pe (by omega)]
  simp only[cw];refine⟨v1,vs.drop sz,by rw[<-GJ,uG],dp,by simpa using hr,X8 (by simp[hl,iW]) fun j t hj=>?_⟩;obtain⟨v2,h5,h6,h7⟩:=h (j+1) t (by simpa using hj);refine⟨v2,h5,by rw[show k+1+j=k+(j+1) by omega];exact h6,fun i v hi=>?_⟩;rw[rT];have:=h7 i v hi;rw[iW]at this;rw[show sz+(j*sz+i)=j*sz+sz+i by omega];exact this
theorem xf {α:Type} (es:List α) (lo n j:Nat):(sub es lo n)[j]?=if j<n then es[lo+j]? else none:=by
 unfold sub;by_cases h:j<n
 ·rw[if_pos h,wO h,rT]
 ·rw[if_neg h,pe (by simp;omega)]
theorem tH {α:Type} (es:List α) (lo n:Nat) (h:lo+n<=es.length):(sub es lo n).length=n:=by
 simp[sub];omega
theorem Cj (hz:Zs w ow w' ap) {c c':Loc}{o:Ob}{sz:Nat}{es:List T}{hv v:Value}{lo n:Nat} (hm:∀k,o≠.m k) (h:ay ae mv w ow c (.l o sz es) [hv])
  (hs:Ed hv sz lo n v) (hl:lo+n<=es.length) (cN:o.own=true->c'≠none)
  (hb:∀b,ow b=(o.loc c).ow->ap b=(o.loc c').ow/\w'.heap[b]?=w.heap[b]?)
  (ht:∀i,i<n->Tr w ow w' ap ((o.loc c).push (lo+i)) ((o.loc c').push i)):ay ae mv w' ap c' (.l o sz (sub es lo n)) [v]:=by
 obtain⟨A,N,C,A',uY,rfl,rfl,vL,hQ,hA,KI⟩:=hs;have fg:=tH es lo n hl;simp only[ay]at h⊢;obtain⟨_,A1,at2,he,nB,_,ei⟩:=h;simp only[fq,Value.slice.injEq,and_true]at he;obtain⟨rfl,rfl,rfl⟩:=he;refine⟨cN,A',uY,by rw[fg],by rw[fg];exact vL,fun k hk=>absurd hk (hm k),?_⟩;have key:∀ad ot:Addr,A=some ad->ot.block=ad.block->ot.spot=none->(ot.off=ad.off+lo*sz\/(ot.off<=ad.off+C*sz/\uY=0))->(o.own=true\/sub es lo n≠[])->
   ot.spot=none/\ap ot.block=(o.loc c').ow/\∃(aG:Array Value) (ty:TypeId) (fr:Nat×Nat) (bE:List Value),w'.heap[ot.block]?=some (.cells aG ty fr)/\
    (o.own=true->(fr.2<=fr.1\/sz=1/\aG.size<=fr.1)/\ot.off+uY*sz<=aG.size)/\(∀j v,bE[j]?=some v->aG[ot.off+j]?=some v)/\
    cw ae mv w' ap (o.loc c') sz 0 (sub es lo n) bE:=by
  intro ad ot hAd cW dg qx jZ;subst hAd;have SM:o.own=true\/es≠[]:=by
   rcases jZ with x|x
   ·exact .inl x
   ·refine .inr fun e=>x ?_;subst e;simp[sub]
  obtain⟨auO,jd,aG,ty,fr,bE,hh,eA,bP,cg⟩:=ei SM;obtain⟨eN,dt⟩:=hb _ jd;have dC:=qW cg;have hmul:(lo+uY)*sz<=C*sz:=kC _ hQ;have anD:(lo+n)*sz<=es.length*sz:=kC _ hl;rw[Nat.add_mul]at hmul anD;refine⟨dg,cW▸eN,aG,ty,fr,sub bE (lo*sz) (n*sz),by rw[cW,dt];exact hh,fun x=>⟨(eA x).1,?_⟩,fun j u hj=>?_,?_⟩
  ·have:=(eA x).2;rcases qx with e|⟨e,e2⟩
   ·rw[e];omega
   ·rw[e2];omega
  ·rw[xf]at hj;split at hj
   ·rename_i nG;rcases qx with e|⟨e,e2⟩
    ·rw[e,fK];exact bP _ u hj
    ·have:n=0:=by omega
     subst this;simp at nG
   ·cases hj
  ·refine X8 (by rw[tH _ _ _ (by omega),fg]) fun j t hj=>?_;rw[xf]at hj;split at hj
   ·rename_i nG;obtain⟨v1,h1,h2,h3⟩:=om cg hj;rw[db]at h2⊢;refine⟨v1,h1,cB hz t (ht j nG) h2,fun i u hi=>?_⟩;have mW:=(bt.1 hi).1;have lQ:(j+1)*sz<=n*sz:=kC _ nG;rw[iW]at lQ;rw[xf,if_pos (by omega)];have:=h3 i u hi;rw[Nat.add_mul]at this;rw[<-this];congr 1;omega
   ·cases hj
 cases A' with
 |none=>
  rcases hA with⟨e,_⟩|⟨ad,x,_,e,_⟩
  ·subst e;simp only at ei⊢;omega
  ·cases e
 |some ot=>
  intro jZ;rcases hA with⟨e,iC⟩|⟨ad,x,e1,e2,e3⟩
  ·have SM:o.own=true\/es≠[]:=by
    rcases jZ with x|x
    ·exact .inl x
    ·refine .inr fun e=>x ?_;subst e;simp[sub]
   subst e;have dg:=(ei SM).1;refine key ot ot rfl rfl dg ?_ jZ;rcases iC with rfl|h0
   ·left;simp
   ·exact .inr ⟨Nat.le_add_right _ _,h0⟩
  ·cases e2;exact key ad _ e1 rfl rfl (e3.imp id (fun y=>⟨y.2,y.1⟩)) jZ
end
section
variable {X:Cx}{U:Nat->Prop}{J:Nat}{σ aj:St}{a a':Act}{w w':World}{ow ap:Nat->Ow}
theorem ph {r:Nat} (hs:cK X σ a w ow r (σ r) (bL a r)) (h1:aj r=σ r) (h2:bL a' r=bL a r) (hz:Zs w ow w' ap)
  (ho:∀b q,ow b=.own (.sl r) q->w'.heap[b]?=w.heap[b]?):dn U σ a w aj a' w' r where
 ptr:=fun k p bo c' _ _ _ hc hk hp=>by
  rw[h1]at hc;rw[h2,Pb hc hs (fun b hb=>(hz b hb).2) ho]at hp;exact⟨c',hc,hk,hp⟩
 view:=fun k p o' sz bW A N C c' _ _ _ hc hk hn hh=>by
  rw[h1]at hc;rw[h2,Zap hc hs (fun b hb=>(hz b hb).2) ho hn]at hh;exact⟨c',o',bW,hc,hk,hn,rfl,hh⟩
 str:=fun k p cA c' _ _ _ hc hk hn=>by
  rw[h1]at hc;exact⟨c',cA,hc,hk,hn⟩
theorem At.same {b o:Nat}{vs:List Value} (h:At w b o vs) (hb:w'.heap[b]?=w.heap[b]?):At w' b o vs:=fun j v hj=>by
 have:=h j v hj;simp only[World.cell?,hb]at this⊢;exact this
theorem Vt {s:Nat} (bD:∀c:Cell,c.stamps U->∀j v,lx X σ a w ow s j c v->lx X aj a' w' ap s j c v):
  ∀(cs:List Cell) (j:Nat) (vs:List Value),(∀c∈cs,c.stamps U)->o5 X σ a w ow s j cs vs->o5 X aj a' w' ap s j cs vs
 |[],_,_,_,h=>h
 |c::cs,j,vs,hs,h=>by
  simp only[o5]at h⊢;obtain⟨v,rest,rfl,h1,h2⟩:=h;exact⟨v,rest,rfl,bD c (hs c (by simp)) j v h1,Vt bD cs (j+1) rest (fun c' cN=>hs c' (by simp[cN])) h2⟩
theorem qg {s:Nat}{v:AV}{x:Value} (hs:cK X σ a w ow s v x) (bD:v.stamps U) (hz:Zs w ow w' ap) (hr:∀r,dn U σ a w aj a' w' r)
  (ht:∀b q,ow b=.own (.sl s) q->ap b=.own (.sl s) q/\w'.heap[b]?=w.heap[b]?):cK X aj a' w' ap s v x:=by
 have tr:∀q,Tr w ow w' ap (some (.sl s,q)) (some (.sl s,q)):=fun q b q' hb=>ht b _ hb;cases v<;>simp only[cK]at hs⊢
 case x t=>exact cB hz t (c:=none) trivial hs
 case own k t=>exact⟨hs.1,cB hz t (tr []) hs.2⟩
 case w r k p z lo n=>exact(hr r).yu bD.1 bD.2.1 bD.2.2 hs
 case st cs=>
  obtain⟨vs,rfl,h⟩:=hs;refine⟨vs,rfl,Vt (fun c hc j v hv=>?_) cs 0 vs.toList bD h⟩;cases c<;>simp only[lx]at hv⊢
  ·exact cB hz _ (tr _) hv
  ·exact(hr _).yu hc.1 hc.2.1 hc.2.2 hv
 case box k cs=>
  obtain⟨b,aG,ty,fr,rfl,hb,hh,hf,hc⟩:=hs;obtain⟨h1,h2⟩:=ht b [] hb;exact⟨b,aG,ty,fr,rfl,h1,h2▸hh,hf,lG hz cs (tr []) hc⟩
 case ptr r k p off=>exact(hr r).LH bD.1 bD.2.1 bD.2.2 hs
 case fb g r k=>exact hs.elim fun u hu=>⟨u,hu.1,(hr r).LH bD.1 bD.2.1 bD.2.2 hu.2⟩
 case q t off=>
  obtain⟨b,o,vs,rfl,hb,ha,h⟩:=hs;obtain⟨h1,h2⟩:=hz b hb;exact⟨b,o,vs,rfl,h1,ha.same h2,cB hz t (c:=none) trivial h⟩
 case dj n=>exact hs
end
def Hs (w' w:World):Prop:=∀b o A N C,w'.cell? ⟨b,o,none⟩=some (.slice A N C)->w.cell? ⟨b,o,none⟩=some (.slice A N C)
theorem Hs.refl (w:World):Hs w w:=fun _ _ _ _ _ h=>h
structure Sh (w':World) (x:T) (w:World) (y:T):Prop where
 loc:∀b o p bo,cE w' x b o p=some bo->cE w y b o p=some bo
 vec:∀A p bo,eY w' x A p=some bo->eY w y A p=some bo
 aM:∀p o' sz bW,x.aM p=some (.l o' sz bW)->∃o es,y.aM p=some (.l o sz es)/\es.length=bW.length
 str:∀p cA,x.aM p=some (.a cA)->∃cs,y.aM p=some (.a cs)
theorem wZ {w' w:World} (h:Hs w' w):∀(p:List Nat) (t:T) (b o:Nat) (bo:Nat×Nat),cE w' t b o p=some bo->cE w t b o p=some bo
 |[],t,b,o,bo,hl=>by cases t<;>exact hl
 |k::p,t,b,o,bo,hl=>by
  cases t<;>simp only[cE,reduceCtorEq]at hl
  case a cs=>
   simp only[cE];split at hl
   ·rename_i t' ht;exact wZ h p t' _ _ _ hl
   ·cases hl
  case l ob sz es=>
   simp only[cE];split at hl
   ·rename_i ad N C t' h1 h2;rw[h _ _ _ _ _ h1,h2];exact wZ h p t' _ _ _ hl
   ·cases hl
theorem Zeb {w' w:World} (h:Hs w' w) (A:Option Addr) (p:List Nat) (t:T) (bo:Nat×Nat) (hl:eY w' t A p=some bo):eY w t A p=some bo:=by
 cases t<;>simp only[eY,reduceCtorEq]at hl;cases A<;>cases p<;>simp only[eY,reduceCtorEq]at hl⊢;split at hl
 ·rename_i t' ht;exact wZ h _ t' _ _ _ hl
 ·cases hl
theorem Sh.refl {w' w:World} (h:Hs w' w) (t:T):Sh w' t w t:=⟨fun b o p bo hl=>wZ h p t b o bo hl,fun A p bo hl=>Zeb h A p t bo hl,fun p o sz es hn=>⟨o,es,hn,rfl⟩,fun p cs hn=>⟨cs,hn⟩⟩
theorem Sh.scalar {w' w:World}{x:T} (y:T) (hx:∀k,x.bA k=none) (hl:∀o sz es,x≠.l o sz es) (ha:∀cs,x≠.a cs):Sh w' x w y where
 loc:=fun b o p bo h=>by
  cases p with
  |nil=>cases x<;>cases y<;>exact h
  |cons k p=>
   cases x<;>simp only[cE,reduceCtorEq]at h
   case a cs=>have:=hx k;simp only[T.bA]at this;simp[this]at h
   case l o' sz es=>exact absurd rfl (hl _ _ _)
 vec:=fun A p bo h=>by
  cases x<;>simp only[eY,reduceCtorEq]at h;exact absurd rfl (hl _ _ _)
 aM:=fun p o sz es h=>by
  cases p with
  |nil=>simp only[T.aM,aR]at h;exact absurd h (hl _ _ _)
  |cons k p=>simp[T.aM,hx k]at h
 str:=fun p cs h=>by
  cases p with
  |nil=>simp only[T.aM,aR]at h;exact absurd h (ha _)
  |cons k p=>simp[T.aM,hx k]at h
theorem Sh.put {w' w:World} (hs:Hs w' w) {x node:T} (h:Sh w' x w node):∀(p:List Nat) (t:T),t.aM p=some node->Sh w' (t.put p x) w t
 |[],t,hn=>by
  simp only[T.aM,aR]at hn;subst hn;cases t<;>exact h
 |k::p,t,hn=>by
  cases t<;>simp only[T.aM,T.bA,yQ,reduceCtorEq]at hn
  case a cs=>
   obtain⟨t',bG,gK⟩:=gG.1 hn;have ih:=Sh.put hs h p t' gK;have hk:k<cs.length:=(bt.1 bG).1;simp only[T.put,T.bA,bG,T.dP];constructor
   ·intro b o q bo hl;cases q with
    |nil=>exact hl
    |cons j q=>
     simp only[cE]at hl⊢;by_cases hj:j=k
     ·subst hj;rw[il hk]at hl;rw[bG];exact ih.loc _ _ _ _ hl
     ·rw[jQ (Ne.symm hj)]at hl;split at hl
      ·rename_i t2 h2;exact wZ hs _ _ _ _ _ hl
      ·cases hl
   ·intro A q bo hl;simp only[eY,reduceCtorEq]at hl
   ·intro q o sz es hq;cases q with
    |nil=>simp[T.aM]at hq
    |cons j q=>
     simp only[T.aM,T.bA]at hq⊢;by_cases hj:j=k
     ·subst hj;rw[il hk]at hq;rw[bG];exact ih.aM _ _ _ _ hq
     ·rw[jQ (Ne.symm hj)]at hq;exact⟨o,es,hq,rfl⟩
   ·intro q cA hq;cases q with
    |nil=>exact⟨cs,rfl⟩
    |cons j q=>
     simp only[T.aM,T.bA]at hq⊢;by_cases hj:j=k
     ·subst hj;rw[il hk]at hq;rw[bG];exact ih.str _ _ hq
     ·rw[jQ (Ne.symm hj)]at hq;exact⟨cA,hq⟩
  case l ob L1 dm=>
   obtain⟨t',bG,gK⟩:=gG.1 hn;have ih:=Sh.put hs h p t' gK;have hk:k<dm.length:=(bt.1 bG).1;simp only[T.put,T.bA,bG,T.dP];constructor
   ·intro b o q bo hl;cases q with
    |nil=>exact hl
    |cons j q=>
     simp only[cE]at hl⊢;split at hl
     ·rename_i ad N C t2 h1 h2;rw[hs _ _ _ _ _ h1];by_cases hj:j=k
      ·subst hj;rw[il hk]at h2;cases h2;rw[bG];exact ih.loc _ _ _ _ hl
      ·rw[jQ (Ne.symm hj)]at h2;rw[h2];exact wZ hs _ _ _ _ _ hl
     ·cases hl
   ·intro A q bo hl;cases A<;>cases q<;>simp only[eY,reduceCtorEq]at hl⊢;rename_i ad j q;by_cases hj:j=k
    ·subst hj;rw[il hk]at hl;rw[bG];exact ih.loc _ _ _ _ hl
    ·rw[jQ (Ne.symm hj)]at hl;split at hl
     ·rename_i t2 h2;exact wZ hs _ _ _ _ _ hl
     ·cases hl
   ·intro q o sz es hq;cases q with
    |nil=>
     simp only[T.aM,aR,T.l.injEq]at hq;obtain⟨rfl,rfl,rfl⟩:=hq;exact⟨ob,dm,rfl,by simp⟩
    |cons j q=>
     simp only[T.aM,T.bA]at hq⊢;by_cases hj:j=k
     ·subst hj;rw[il hk]at hq;rw[bG];exact ih.aM _ _ _ _ hq
     ·rw[jQ (Ne.symm hj)]at hq;exact⟨o,es,hq,rfl⟩
   ·intro q cA hq;cases q with
    |nil=>simp[T.aM]at hq
    |cons j q=>
     simp only[T.aM,T.bA]at hq⊢;by_cases hj:j=k
     ·subst hj;rw[il hk]at hq;rw[bG];exact ih.str _ _ hq
     ·rw[jQ (Ne.symm hj)]at hq;exact⟨cA,hq⟩
theorem Ep (ts:List T) (k:Nat):(bO ts)[k]?=(ts[k]?).map T.fz:=by
 rw[Er,iX]
theorem I8:∀(p:List Nat) (t:T),t.fz.aM p=(t.aM p).map T.fz
 |[],t=>rfl
 |k::p,t=>by
  cases t<;>simp only[T.fz,T.aM,T.bA,yQ,Option.map_none]
  case a cs=>
   rw[Ep];cases cs[k]? with
   |none=>rfl
   |some t'=>exact I8 p t'
  case l o sz es=>
   rw[Ep];cases es[k]? with
   |none=>rfl
   |some t'=>exact I8 p t'
theorem IZ (w:World):∀(p:List Nat) (t:T) (b o:Nat),cE w t.fz b o p=cE w t b o p
 |[],t,b,o=>by cases t<;>rfl
 |k::p,t,b,o=>by
  cases t<;>simp only[T.fz,cE]
  case a cs=>
   rw[Ep];cases cs[k]? with
   |none=>rfl
   |some t'=>exact IZ w p t' _ _
  case l ob sz es=>
   rw[Ep];cases es[k]? with
   |none=>simp only[Option.map_none]
   |some t'=>
    simp only[s5];split
    ·rename_i ad N C t2 h1 h2;cases h2;rw[h1];exact IZ w p t' _ _
    ·rename_i h1;split
     ·rename_i ad N C t2 h3 h4;exact absurd rfl (h1 ad N C t'.fz h3)
     ·rfl
theorem Sh.fz (w:World) (t:T):Sh w t.fz w t where
 loc:=fun b o p bo h=>by rw[IZ]at h;exact h
 vec:=fun A p bo h=>by
  cases t<;>simp only[T.fz,eY,reduceCtorEq]at h;cases A<;>cases p<;>simp only[eY,reduceCtorEq]at h⊢;rw[Ep]at h;split at h
  ·rename_i t' h1;obtain⟨t2,h2,rfl⟩:=jm.1 h1;rw[h2];rw[IZ]at h;exact h
  ·cases h
 aM:=fun p o sz es h=>by
  rw[I8]at h;obtain⟨t',h1,h2⟩:=jm.1 h;cases t'<;>simp only[T.fz,reduceCtorEq,T.l.injEq]at h2;obtain⟨_,rfl,rfl⟩:=h2;exact⟨_,_,h1,(zb _).symm⟩
 str:=fun p cs h=>by
  rw[I8]at h;obtain⟨t',h1,h2⟩:=jm.1 h;cases t'<;>simp only[T.fz,reduceCtorEq,T.a.injEq]at h2;exact⟨_,h1⟩
theorem XB {w' w:World}{c c':RC} (hb:c'.dh=c.dh) (hs:Sh w' c'.t w c.t) (hh:Hs w' w) {v:Value}{p:List Nat}{bo:Nat×Nat} (h:place w' c' v p=some bo):
  place w c v p=some bo:=by
 obtain⟨ib,k,t⟩:=c;obtain⟨ib',k',t'⟩:=c';simp only at hb hs;subst hb;cases ib'
 ·cases v<;>simp only[place,reduceCtorEq]at h⊢;exact hs.vec _ _ _ h
 ·cases v<;>simp only[place,reduceCtorEq]at h;rename_i A;cases A<;>simp only[place,reduceCtorEq]at h⊢;exact hs.loc _ _ _ _ h
section
variable {X:Cx}{U:Nat->Prop}{J:Nat}{σ aj:St}{a a':Act}{w w':World}{ow ap:Nat->Ow}
theorem Jt {r:Nat}{c c':RC} (hc:(σ r).rc=some c) (cN:(aj r).rc=some c') (hb:c'.dh=c.dh) (hk:c'.k=c.k) (hs:Sh w' c'.t w c.t) (hh:Hs w' w)
  (hv:bL a' r=bL a r):dn U σ a w aj a' w' r where
 ptr:=fun k p bo c2 _ _ _ h1 h2 h3=>by
  rw[cN]at h1;cases h1;rw[hv]at h3;exact⟨c,hc,by rw[<-hk,<-hb];exact h2,XB hb hs hh h3⟩
 view:=fun k p o' sz bW A N C c2 _ _ _ h1 h2 h3 h4=>by
  rw[cN]at h1;cases h1;obtain⟨o,es,h5,h6⟩:=hs.aM p o' sz bW h3;refine⟨c,o,es,hc,by rw[<-hk,<-hb];exact h2,h5,h6,?_⟩;unfold fE at h4⊢;rw[hv,hb]at h4;split
  ·rename_i h7;rw[if_pos h7]at h4;exact h4
  ·rename_i h7;rw[if_neg h7]at h4;split at h4
   ·rename_i bo h8;rw[XB hb hs hh h8];exact hh _ _ _ _ _ h4
   ·cases h4
 str:=fun k p cA c2 _ _ _ h1 h2 h3=>by
  rw[cN]at h1;cases h1;obtain⟨cs,h5⟩:=hs.str p cA h3;exact⟨c,cs,hc,by rw[<-hk,<-hb];exact h2,h5⟩
end
theorem EG (r:aJ):∀(p:List Nat) (t:T) (q:List Nat),t.fF (some (r,q)) p=none\/t.fF (some (r,q)) p=some (r,q++p)
 |[],t,q=>by right;cases t<;>simp[T.fF]
 |k::p,t,q=>by
  cases t<;>simp only[T.fF,true_or]
  case a cs=>
   split
   ·rename_i t' _;rw[gU];rcases EG r p t' (q++[k]) with h|h
    ·exact .inl h
    ·exact .inr (by rw[h];simp)
   ·exact .inl rfl
  case l o sz es=>
   split
   ·rename_i t' _;unfold Ob.loc;split
    ·rw[gU];rcases EG r p t' (q++[k]) with h|h
     ·exact .inl h
     ·exact .inr (by rw[h];simp)
    ·left;exact(go t' p)
   ·exact .inl rfl
 where
 go:∀(t:T) (p:List Nat),t.fF none p=none
 |t,[]=>by cases t<;>rfl
 |t,k::p=>by
  cases t<;>simp only[T.fF]
  ·split
   ·exact go _ p
   ·rfl
  ·split
   ·unfold Ob.loc;split<;>exact go _ p
   ·rfl
section
variable {X:Cx}{U:Nat->Prop}{J J':Nat}{σ aj aX:St}{a a2:Act}{w w' w2:World}{ow ap aU:Nat->Ow}
theorem ju {v:AV}{c:RC} (h:v.rc=some c):(c.dh=true/\∃cs,c.t=.a cs/\v=.box c.k cs)\/(c.dh=false/\v=.own c.k c.t):=by
 cases v<;>simp only[AV.rc,reduceCtorEq,aR]at h
 ·subst h;exact .inr ⟨rfl,rfl⟩
 ·subst h;exact .inl ⟨rfl,_,rfl,rfl⟩
theorem Pu {r:Nat}{c:RC}{v:Value} (hc:(σ r).rc=some c) (hs:cK X σ a w ow r (σ r) v) {p:List Nat}{node fM:T} (hn:c.t.aM p=some node)
  (hp:c.dh=true\/p≠[]) (fk:c.dh=true->p≠[]) (hz:Zs w ow w' ap)
  (eh:∀bE,ay X.ae X.mv w ow (c.t.fF (some (.sl r,[])) p) node bE->ay X.ae X.mv w' ap (c.t.fF (some (.sl r,[])) p) fM bE)
  (jY:∀b q',ow b=.own (.sl r) q'->¬p <+: q'->ap b=.own (.sl r) q'/\w'.heap[b]?=w.heap[b]?):
  ({c with t:=c.t.put p fM}:RC).av.rc=some {c with t:=c.t.put p fM}/\cK X aX a2 w' ap r ({c with t:=c.t.put p fM}:RC).av v:=by
 have SU:p≠[]:=by
  rcases hp with h|h
  ·exact fk h
  ·exact h
 obtain⟨k,p,rfl⟩:∃k q,p=k::q:=by
  cases p with
  |nil=>exact absurd rfl SU
  |cons k q=>exact⟨k,q,rfl⟩
 have Gu:∀(r':aJ) (q:List Nat),some (aJ.sl r,([]:List Nat))=some (r',q)->∀b q',ow b=.own r' (q++q')->¬(k::p) <+: q'->
   ap b=.own r' (q++q')/\w'.heap[b]?=w.heap[b]?:=fun r' q hq b q' hb vP=>by
  simp only[aR,di]at hq;obtain⟨rfl,rfl⟩:=hq;exact jY b q' hb vP
 rcases ju hc with⟨hb,cs,ht,hv⟩|⟨hb,hv⟩
 ·obtain⟨ib,kk,t⟩:=c;simp only at hb ht hn eh hv⊢;subst hb ht;rw[hv]at hs;simp only[cK]at hs;obtain⟨b,aG,ty,fr,rfl,cW,hh,hf,hr⟩:=hs;simp only[T.aM,T.bA]at hn;have na:=hn;obtain⟨t',bG,gK⟩:=gG.1 hn;have mo:(T.a cs).put (k::p) fM=.a (cs.set k (t'.put p fM)):=by simp only[T.put,T.bA,bG,T.dP]
  have h1:=Jq hz (node:=node) (fM:=fM) (k::p) (.a cs) (c:=some (.sl r,[])) (vs:=aG.toList) (by simp only[ay];exact hr) (by simp only[T.aM,T.bA];exact na) eh Gu;rw[mo]at h1⊢;simp only[ay]at h1;obtain⟨h2,h3⟩:=jY b [] cW (by simp);exact⟨rfl,b,aG,ty,fr,rfl,h2,h3▸hh,hf,h1⟩
 ·obtain⟨ib,kk,t⟩:=c;simp only at hb hn eh hv⊢;subst hb;rw[hv]at hs;simp only[cK]at hs;obtain⟨⟨o,sz,es,rfl,ho⟩,hr⟩:=hs;have h1:=Jq hz (node:=node) (fM:=fM) (k::p) (.l o sz es) (c:=some (.sl r,[])) hr hn eh Gu;simp only[T.aM,T.bA]at hn;obtain⟨t',bG,gK⟩:=gG.1 hn;have mo:(T.l o sz es).put (k::p) fM=.l o sz (es.set k (t'.put p fM)):=by simp only[T.put,T.bA,bG,T.dP]
  rw[mo]at h1⊢;cases o with
  |n=>simp[Ob.own]at ho
  |y=>exact⟨rfl,⟨_,_,_,rfl,rfl⟩,h1⟩
  |m j=>exact⟨rfl,⟨_,_,_,rfl,rfl⟩,h1⟩
theorem qT (h:Rel X U J σ a w ow) {r:Nat}{v':AV} (rC:cK X (bi σ r v') a w ap r v' (bL a r)) (bD:v'.stamps U) (hz:Zs w ow w ap)
  (sG:∀b r' q,r'≠.sl r->ow b=.own r' q->ap b=.own r' q) (dK:∀b,ow b=.no->ap b=.no) (cT:∀b i q,ap b=.own (.ar i) q->i<J')
  (GG:dn U σ a w (bi σ r v') a w r) (bC:σ r≠.u) (vN:∀n,σ r≠.dj n):Rel X U J' (bi σ r v') a w ap/\∀r',dn U σ a w (bi σ r v') a w r':=by
 have dD:∀r',dn U σ a w (bi σ r v') a w r':=fun r'=>by
  by_cases hr:r'=r
  ·subst hr;exact GG
  ·exact ph (h.slot r') (by simp[bi,hr]) rfl hz (fun _ _ _=>rfl)
 refine⟨⟨h.size,h.small,h.defers,fun s=>?_,fun s=>?_,fun b hb=>h.low b fun e=>hb (dK b e),cT,h.grown,fun b hb hr=>?_,h.os,h.output,h.cO,fun s hs hu=>?_⟩,dD⟩
 ·by_cases hs:s=r
  ·subst hs;simpa[bi]using rC
  ·have:=qg (aj:=bi σ r v') (a':=a) (h.slot s) (h.fh s) hz dD (fun b q hb=>⟨sG b _ q (by simpa using hs) hb,rfl⟩);simpa[bi,hs]using this
 ·by_cases hs:s=r
  ·subst hs;simpa[bi]using bD
  ·simpa[bi,hs]using h.fh s
 ·obtain⟨h1,h2⟩:=h.same b hb hr;refine⟨h1,?_⟩;cases h3:ow b with
  |no=>rw[dK b h3,<-h2,h3]
  |z=>rw[(hz b h3).1,<-h2,h3]
  |own r' q=>rw[h3]at h2;exact absurd h2.symm (hr r' q)
 ·obtain⟨n,h1,h2⟩:=h.pR s hs (by
   by_cases oN:s=r
   ·subst oN;exact bC
   ·simpa[bi,oN]using hu)
  refine⟨n,?_,h2⟩;have:s%1000≠r:=fun e=>vN n (e▸h1);simpa[bi,this]using h1
structure Gh (X:Cx) (U:Nat->Prop) (J J':Nat) (σ:St) (a:Act) (w:World) (ow:Nat->Ow) (aj:St) (ap:Nat->Ow):Prop where
 rel:Rel X U J' aj a w ap
 z:Zs w ow w ap
 dw:∀b i q,i<J->ow b=.own (.ar i) q->ap b=.own (.ar i) q
 refs:∀r,dn U σ a w aj a w r
theorem Gh.refl (h:Rel X U J σ a w ow) (hJ:J<=J'):Gh X U J J' σ a w ow σ ow:=
 ⟨{h with dw:=fun b i q hb=>iF (h.dw b i q hb) hJ},fun b hb=>⟨hb,rfl⟩,fun _ _ _ _ hb=>hb,
  fun r=>ph (h.slot r) rfl rfl (fun b hb=>⟨hb,rfl⟩) (fun _ _ _=>rfl)⟩
theorem Gh.trans {J2:Nat} (h:Gh X U J J' σ a w ow aj ap) (h2:Gh X U J' J2 aj a w ap aX aU) (hJ:J<=J'):Gh X U J J2 σ a w ow aX aU:=
 ⟨h2.rel,fun b hb=>⟨(h2.z b (h.z b hb).1).1,rfl⟩,fun b i q hi hb=>h2.dw b i q (by omega) (h.dw b i q hi hb),fun r=>(h.refs r).trans (h2.refs r)⟩
theorem pg {v:AV}{c:RC} (h:v.rc=some c):v≠.u/\∀n,v≠.dj n:=by
 cases v<;>simp[AV.rc]at h⊢
theorem Cl {r:Nat}{k:K}{p:List Nat}{c:RC} (h:(kc r k p).run σ=some (c,aj)):aj=σ/\(σ r).rc=some c/\c.k.ok k (ic c.dh p)=true:=by
 unfold kc at h;simp only[Bind.bind,Pg.bind,Pg.rd,Pg.run]at h;cases hc:(σ r).rc with
 |none=>simp[hc,Pg.run]at h
 |some c'=>
  simp only[hc]at h;split at h
  ·rename_i hk;simp only[Pure.pure,Pg.run,aR,di]at h;obtain⟨rfl,rfl⟩:=h;exact⟨rfl,rfl,hk⟩
  ·simp[Pg.run]at h
theorem ER {r:Nat}{k:K}{p:List Nat}{c:RC} (h:(oW r k p).run σ=some (c,aj)):aj=σ/\(σ r).rc=some c/\c.k.ok k (j8 c.dh p)=true/\(c.dh=true\/p≠[]):=by
 unfold oW at h;simp only[Bind.bind,Pg.bind,Pg.rd,Pg.run]at h;cases hc:(σ r).rc with
 |none=>simp[hc,Pg.run]at h
 |some c'=>
  simp only[hc]at h;split at h
  ·rename_i hk;simp only[Pure.pure,Pg.run,aR,di]at h;obtain⟨rfl,rfl⟩:=h;simp only[Y8,pW,lC,List.isEmpty_eq_false_iff]at hk;exact⟨rfl,rfl,hk.1,hk.2⟩
  ·simp[Pg.run]at h
theorem run_bind {α β:Type} (m:Pg α) (f:α->Pg β) (σ:St):(m>>=f).run σ=(m.run σ).bind fun x=>(f x.1).run x.2:=by
 simp only[Bind.bind,Pg.run];cases m.run σ<;>rfl
theorem aW {α β:Type}{m:Pg α}{f:α->Pg β}{σ aX:St}{y:β} (h:(m>>=f).run σ=some (y,aX)):∃x aZ,m.run σ=some (x,aZ)/\(f x).run aZ=some (y,aX):=by
 rw[run_bind]at h;obtain⟨⟨x,aZ⟩,h1,h2⟩:=gG.1 h;exact⟨x,aZ,h1,h2⟩
theorem bS {α:Type}{x y:α}{σ aX:St} (h:(pure x:Pg α).run σ=some (y,aX)):y=x/\aX=σ:=by
 simp only[Pure.pure,Pg.run,aR,di]at h;exact⟨h.1.symm,h.2.symm⟩
theorem rZ {s:Nat}{v:AV}{σ aX:St}{y:Unit} (h:(Pg.wr s v).run σ=some (y,aX)):aX=bi σ s v:=by
 simp only[Pg.wr,Pg.run,aR,di]at h;exact h.2.symm
theorem jv {s:Nat}{v:AV}{σ aX:St} (h:(Pg.rd s).run σ=some (v,aX)):v=σ s/\aX=σ:=by
 simp only[Pg.rd,Pg.run,aR,di]at h;exact⟨h.1.symm,h.2.symm⟩
theorem Et {tk:Bool}{r:Nat}{k:K}{p:List Nat}{lo n:Nat}{t:T} (h:(jX tk r k p lo n).run σ=some (t,aj)):
  ∃c o sz es,(σ r).rc=some c/\c.k.ok k (ic c.dh p)=true/\c.t.aM p=some (.l o sz es)/\
   ((o=.n/\t=.l .n sz (sub es lo n)/\aj=σ)\/
    (o=.y/\t=.l .y sz (sub es lo n)/\aj=bi σ r ({c with t:=c.t.put p .u}:RC).av)\/
    (o=.y/\t=.l .n sz (sub (bO es) lo n)/\aj=bi σ r ({c with t:=c.t.put p (.l .n sz (bO es))}:RC).av)):=by
 unfold jX at h;obtain⟨c,aZ,h1,h2⟩:=aW h;obtain⟨rfl,hc,hk⟩:=Cl h1;cases hn:c.t.aM p with
 |none=>simp[hn,Pg.run]at h2
 |some node=>
  simp only[hn]at h2;cases node<;>simp only[Pg.run,reduceCtorEq]at h2;rename_i o sz es;cases o<;>simp only at h2
  ·obtain⟨rfl,rfl⟩:=bS h2;exact⟨c,_,sz,es,hc,hk,hn,.inl ⟨rfl,rfl,rfl⟩⟩
  ·split at h2
   ·obtain⟨_,aX,h3,h4⟩:=aW h2;obtain⟨rfl,rfl⟩:=bS h4;exact⟨c,_,sz,es,hc,hk,hn,.inr (.inl ⟨rfl,rfl,rZ h3⟩)⟩
   ·obtain⟨_,aX,h3,h4⟩:=aW h2;obtain⟨rfl,rfl⟩:=bS h4;exact⟨c,_,sz,es,hc,hk,hn,.inr (.inr ⟨rfl,rfl,rZ h3⟩)⟩
  ·simp[Pg.run]at h2
end
section
variable {X:Cx}{U:Nat->Prop}{J J':Nat}{σ aj aX:St}{a a2:Act}{w w' w2:World}{ow ap aU:Nat->Ow}
def kv (ow:Nat->Ow) (r:Nat) (p:List Nat) (J lo n:Nat):Nat->Ow:=fun b=>
 match ow b with
 |.own (.sl r') q=>if r'=r/\p <+: q then
   (match q.drop p.length with
    |[]=>.own (.ar J) []
    |i::q2=>if lo<=i/\i<lo+n then .own (.ar J) ((i-lo)::q2) else .no)
   else .own (.sl r') q
 |o=>o
def kW (ow:Nat->Ow) (r:Nat) (p:List Nat):Nat->Ow:=fun b=>
 match ow b with
 |.own (.sl r') q=>if r'=r/\p <+: q then .z else .own (.sl r') q
 |o=>o
theorem Cu {r:Nat}{p:List Nat}{lo n:Nat}:Zs w ow w (kv ow r p J lo n):=fun b hb=>⟨by simp[kv,hb],rfl⟩
theorem tg {r:Nat}{p:List Nat}:Zs w ow w (kW ow r p):=fun b hb=>⟨by simp[kW,hb],rfl⟩
theorem YZ {r:Nat}{p:List Nat}{lo n b:Nat}{r':aJ}{q:List Nat} (hr:r'≠.sl r) (hb:ow b=.own r' q):kv ow r p J lo n b=.own r' q:=by
 unfold kv;rw[hb];cases r' with
 |sl x=>simp only;rw[if_neg (fun h=>hr (by rw[h.1]))]
 |ar x=>rfl
 |rs x=>rfl
theorem IK {r:Nat}{p:List Nat}{b:Nat}{r':aJ}{q:List Nat} (hr:r'≠.sl r) (hb:ow b=.own r' q):kW ow r p b=.own r' q:=by
 unfold kW;rw[hb];cases r' with
 |sl x=>simp only;rw[if_neg (fun h=>hr (by rw[h.1]))]
 |ar x=>rfl
 |rs x=>rfl
theorem Zr5 {r:Nat}{p:List Nat}{lo n b:Nat}{q:List Nat} (hb:ow b=.own (.sl r) q) (hq:¬p <+: q):kv ow r p J lo n b=.own (.sl r) q:=by
 unfold kv;rw[hb];simp only;rw[if_neg (fun h=>hq h.2)]
theorem Z91 {r:Nat}{p:List Nat}{b:Nat}{q:List Nat} (hb:ow b=.own (.sl r) q) (hq:¬p <+: q):kW ow r p b=.own (.sl r) q:=by
 unfold kW;rw[hb];simp only;rw[if_neg (fun h=>hq h.2)]
theorem ZA {r:Nat}{p:List Nat}{lo n b:Nat} (hb:ow b=.own (.sl r) p):kv ow r p J lo n b=.own (.ar J) []:=by
 unfold kv;rw[hb];simp
theorem YY {r:Nat}{p:List Nat}{lo n b i:Nat}{q:List Nat} (hb:ow b=.own (.sl r) (p++(lo+i)::q)) (hi:i<n):kv ow r p J lo n b=.own (.ar J) (i::q):=by
 unfold kv;rw[hb];simp[hi]
theorem OG {r:Nat}{p:List Nat}{b:Nat}{q:List Nat} (hb:ow b=.own (.sl r) (p++q)):kW ow r p b=.z:=by
 unfold kW;rw[hb];simp
theorem Zr4 {r:Nat}{p:List Nat}{lo n b i:Nat}{q:List Nat} (h:kv ow r p J lo n b=.own (.ar i) q):i=J\/ow b=.own (.ar i) q:=by
 unfold kv at h;cases hb:ow b with
 |no=>simp[hb]at h
 |z=>simp[hb]at h
 |own r' q'=>
  rw[hb]at h;cases r' with
  |sl x=>
   simp only at h;split at h
   ·split at h
    ·simp at h;exact .inl h.1.symm
    ·split at h
     ·simp at h;exact .inl h.1.symm
     ·cases h
   ·cases h
  |ar x=>exact .inr h
  |rs x=>cases h
theorem Wf {r:Nat}{p:List Nat}{b i:Nat}{q:List Nat} (h:kW ow r p b=.own (.ar i) q):ow b=.own (.ar i) q:=by
 unfold kW at h;cases hb:ow b with
 |no=>simp[hb]at h
 |z=>simp[hb]at h
 |own r' q'=>
  rw[hb]at h;cases r' with
  |sl x=>
   simp only at h;split at h<;>cases h
  |ar x=>exact h
  |rs x=>cases h
theorem Ph {r:Nat}{c:RC}{p:List Nat}{o:Ob}{sz:Nat}{es:List T} (hc:(σ r).rc=some c) (hn:c.t.aM p=some (.l o sz es)):c.dh=true->p≠[]:=fun hb hp=>by
 subst hp;rcases ju hc with⟨_,cs,ht,_⟩|⟨h,_⟩
 ·rw[ht]at hn;simp[T.aM]at hn
 ·rw[hb]at h;cases h
theorem B5 (h:Rel X U J σ a w ow) {tk:Bool}{r:Nat}{k:K}{p:List Nat}{z lo n:Nat}{t:T}{v:Value} (hv:kz σ a w r k p z lo n v)
  (aq:(jX tk r k p lo n).run σ=some (t,aj)):
  ∃ap,Gh X U J (J+1) σ a w ow aj ap/\ay X.ae X.mv w ap (some (.ar J,[])) t [v]:=by
 obtain⟨c,o,sz,es,hc,hk,hn,kK⟩:=Et aq;obtain⟨cC,hh,cJ⟩:=xd (w:=w) (v:=bL a r) hc (h.slot r) hn;obtain⟨A,C,rfl⟩:∃A C,cC=.slice A es.length C:=by
  obtain⟨A,C,e,_⟩:=mO cJ;exact⟨A,C,by simpa using e⟩
 obtain⟨_,hl,mz⟩:=(hv.2 c hc hk).2 o sz es hn _ _ _ hh;have mY:=EG (.sl r) p c.t [];rw[eC]at mY;rcases kK with⟨rfl,rfl,rfl⟩|⟨rfl,rfl,rfl⟩|⟨rfl,rfl,rfl⟩
 ·refine⟨ow,Gh.refl h (by omega),?_⟩;exact Cj (fun b hb=>⟨hb,rfl⟩) (fun _=>by simp) cJ mz hl (fun x=>by simp[Ob.own]at x) (fun b hb=>⟨by simpa[Ob.loc,Ob.own]using hb,rfl⟩) (fun i _=>by simp[Ob.loc,Ob.own,Loc.push,Tr])
 ·-- taken
  have AH:c.t.fF (some (.sl r,[])) p=some (.sl r,p):=by
   rcases mY with e|e
   ·rw[e]at cJ;simp[ay,Ob.own]at cJ
   ·exact e
  rw[AH]at cJ;have dp:Ob.loc .y (some (aJ.sl r,p))=some (aJ.sl r,p):=rfl;have dy:Ob.loc .y (some (aJ.ar J,([]:List Nat)))=some (aJ.ar J,[]):=rfl;have anL:∀b q,ow b≠.own (.ar J) q:=fun b q e=>Nat.lt_irrefl _ (h.dw b J q e);have cT:∀b i q,kv ow r p J lo n b=.own (.ar i) q->i<J+1:=fun b i q e=>by
   rcases Zr4 e with e|e
   ·omega
   ·have:=h.dw b i q e;omega
  have hg:Rel X U (J+1) (bi σ r ({c with t:=c.t.put p .u}:RC).av) a w (kv ow r p J lo n)/\
    ∀r',dn U σ a w (bi σ r ({c with t:=c.t.put p .u}:RC).av) a w r':=by
   have sG:=fun b r' q (hr:r'≠aJ.sl r) (hb:ow b=.own r' q)=>YZ (J:=J) (p:=p) (lo:=lo) (n:=n) hr hb;have dK:∀b,ow b=.no->kv ow r p J lo n b=.no:=fun b hb=>by simp[kv,hb]
   by_cases hp:c.dh=true\/p≠[]
   ·obtain⟨h1,h2⟩:=Pu (aX:=bi σ r ({c with t:=c.t.put p .u}:RC).av) (a2:=a) (fM:=.u) hc (h.slot r) hn hp (Ph hc hn) Cu
     (fun bE bP=>by
      obtain⟨v',rfl⟩:=s7.1 (xc bP (fun _=>by simp));have:=xb _ bP;simp only[ay];exact⟨v',rfl,by simpa using this⟩) (fun b q' hb hq=>⟨Zr5 (J:=J) (lo:=lo) (n:=n) hb hq,rfl⟩)
    refine qT h h2 ?_ Cu sG dK cT ?_ (pg hc).1 (pg hc).2
    ·have bD:=h.fh r;rcases ju hc with⟨hb,cs,ht,aV⟩|⟨hb,aV⟩<;>rw[aV]at bD<;>simp only[AV.stamps]at bD;all_goals
      generalize iK:({c with t:=c.t.put p .u}:RC).av=av at h1;cases av<;>simp only[AV.rc,reduceCtorEq,aR]at h1<;>simp only[AV.stamps];all_goals
       have oH:=congrArg RC.k h1;simp only at oH;rw[oH];exact bD
    ·refine Jt (c':={c with t:=c.t.put p .u}) hc (by simp only[bi,if_true];exact h1) rfl rfl (Sh.put (Hs.refl w) (Sh.scalar _ (fun k=>rfl) (fun _ _ _=>by simp) (fun _=>by simp)) p c.t hn) (Hs.refl w) rfl
   ·have hb:c.dh=false:=by cases hh:c.dh<;>simp[hh]at hp⊢
    have Di:p=[]:=by
     cases p with
     |nil=>rfl
     |cons=>simp at hp
    subst Di;have iK:({c with t:=c.t.put [] .u}:RC).av=.u:=by
     obtain⟨ib,kk,t⟩:=c;simp only at hb;subst hb;cases t<;>rfl
    rw[iK];refine qT h (by simp[cK]) (by simp[AV.stamps]) Cu sG dK cT ?_ (pg hc).1 (pg hc).2;exact dn.fresh fun c' cN=>by simp[bi,AV.rc]at cN
  refine⟨kv ow r p J lo n,⟨hg.1,Cu,fun b i q _ hb=>YZ (by simp) hb,hg.2⟩,?_⟩;refine Cj Cu (fun _=>by simp) cJ mz hl (fun _=>by simp) (fun b hb=>⟨?_,rfl⟩) (fun i hi b q hb=>⟨?_,rfl⟩)
  ·rw[dp]at hb;rw[dy];exact ZA hb
  ·simp only[gY,gf,eC]at hb;rw[YY hb hi];simp
 ·-- left where it auV
  have AH:c.t.fF (some (.sl r,[])) p=some (.sl r,p):=by
   rcases mY with e|e
   ·rw[e]at cJ;simp[ay,Ob.own]at cJ
   ·exact e
  have cT:∀b i q,kW ow r p b=.own (.ar i) q->i<J+1:=fun b i q e=>by
   have:=h.dw b i q (Wf e);omega
  have pw:Fz w ow w (kW ow r p) (some (.sl r,p)):=fun b q hb=>⟨OG hb,rfl⟩
  have hg:Rel X U (J+1) (bi σ r ({c with t:=c.t.put p (.l .n sz (bO es))}:RC).av) a w (kW ow r p)/\
    ∀r',dn U σ a w (bi σ r ({c with t:=c.t.put p (.l .n sz (bO es))}:RC).av) a w r':=by
   have sG:=fun b r' q (hr:r'≠aJ.sl r) (hb:ow b=.own r' q)=>IK (p:=p) hr hb;have dK:∀b,ow b=.no->kW ow r p b=.no:=fun b hb=>by simp[kW,hb]
   by_cases hp:c.dh=true\/p≠[]
   ·obtain⟨h1,h2⟩:=Pu (aX:=bi σ r ({c with t:=c.t.put p (.l .n sz (bO es))}:RC).av) (a2:=a) (fM:=.l .n sz (bO es)) hc (h.slot r) hn hp (Ph hc hn) tg
     (fun bE bP=>by
      rw[AH]at bP⊢;have:=uQ (c:=some (.sl r,p)) tg X.mv (.l .y sz es) (some (.sl r,p)) pw bP;simpa only[T.fz]using this) (fun b q' hb hq=>⟨Z91 hb hq,rfl⟩)
    refine qT h h2 ?_ tg sG dK cT ?_ (pg hc).1 (pg hc).2
    ·have bD:=h.fh r;rcases ju hc with⟨hb,cs,ht,aV⟩|⟨hb,aV⟩<;>rw[aV]at bD<;>simp only[AV.stamps]at bD;all_goals
      generalize iK:({c with t:=c.t.put p (.l .n sz (bO es))}:RC).av=av at h1;cases av<;>simp only[AV.rc,reduceCtorEq,aR]at h1<;>simp only[AV.stamps];all_goals
       have oH:=congrArg RC.k h1;simp only at oH;rw[oH];exact bD
    ·refine Jt (c':={c with t:=c.t.put p (.l .n sz (bO es))}) hc (by simp only[bi,if_true];exact h1) rfl rfl (Sh.put (Hs.refl w) (by simpa only[T.fz]using Sh.fz w (.l .y sz es)) p c.t hn) (Hs.refl w) rfl
   ·have hb:c.dh=false:=by cases hh:c.dh<;>simp[hh]at hp⊢
    have Di:p=[]:=by
     cases p with
     |nil=>rfl
     |cons=>simp at hp
    subst Di;have iK:({c with t:=c.t.put [] (.l .n sz (bO es))}:RC).av=.x (.l .n sz (bO es)):=by
     obtain⟨ib,kk,t⟩:=c;simp only at hb;subst hb;cases t<;>rfl
    rw[iK];refine qT h ?_ (by simp[AV.stamps]) tg sG dK cT ?_ (pg hc).1 (pg hc).2
    ·rcases ju hc with⟨cU,_⟩|⟨_,aV⟩
     ·rw[hb]at cU;cases cU
     ·have hs:=h.slot r;rw[aV]at hs;simp only[cK]at hs⊢;simp only[T.aM,aR]at hn;rw[hn]at hs;have:=uQ (c:=some (.sl r,[])) tg X.mv (.l .y sz es) none pw hs.2;simpa only[T.fz]using this
    ·exact dn.fresh fun c' cN=>by simp[bi,AV.rc]at cN
  refine⟨kW ow r p,⟨hg.1,tg,fun b i q _ hb=>IK (by simp) hb,hg.2⟩,?_⟩;rw[AH]at cJ;have h5:=uQ (c:=some (.sl r,p)) tg X.mv (.l .y sz es) none pw cJ;simp only[T.fz]at h5;exact Cj (w':=w) (ap:=kW ow r p) (c':=some (.ar J,[])) (fun b hb=>⟨hb,rfl⟩) (fun _=>by simp) h5 mz (by rw[zb];exact hl) (fun x=>by simp[Ob.own]at x)
   (fun b hb=>⟨by simpa[Ob.loc,Ob.own]using hb,rfl⟩) (fun i _=>by simp[Ob.loc,Ob.own,Loc.push,Tr])
end
mutual
def T.isConst:T->Value->Bool
 |.i k n,.int k' n'=>decide (k=k')&&decide (n=n')
 |.b x,.bool y=>x==y
 |.s x,.string y=>decide (x=y)
 |.l .y _ [],.slice none 0 0=>true
 |.l .n _ [],.slice none 0 0=>true
 |.a cs,.agg vs=>T.hD cs vs.toList
 |.u,v=>oT v
 |_,_=>false
def T.hD:List T->List Value->Bool
 |[],[]=>true
 |t::ts,v::vs=>t.Lc&&t.isConst v&&T.hD ts vs
 |_,_=>false
def T.Lc:T->Bool
 |.a _=>false
 |_=>true
end
def aL.is (ae:Nat->FuncId):aL->Operand->Bool
 |.t n,.tmp m=>n==m&&decide (n<1000)
 |.k (.f g []),.func f=>ae g==f
 |.k c,.const v=>c.isConst v
 |_,_=>false
section
variable {ae:Nat->FuncId}{mv:Nat->Value}{w:World}{ow:Nat->Ow}
theorem IT {o:Ob}{sz:Nat}{es:List T}{v:Value} (h:(T.l o sz es).isConst v=true):es=[]/\v=.slice none 0 0/\(o=.y\/o=.n):=by
 unfold T.isConst at h;split at h<;>simp_all
theorem ki (t:T) (v:Value) (c:Loc) (h:t.isConst v=true) (hc:c=none->∀sz es,t≠.l .y sz es) (ha:∀cs,t≠.a cs):ay ae mv w ow c t [v]:=by
 cases t with
 |i k n=>cases v<;>simp_all [T.isConst,ay]
 |b x=>cases v<;>simp_all [T.isConst,ay]
 |s x=>cases v<;>simp_all [T.isConst,ay]
 |u=>simp only[T.isConst]at h;simp[ay,h]
 |f _ _=>simp[T.isConst]at h
 |p _=>simp[T.isConst]at h
 |a cs=>exact absurd rfl (ha cs)
 |l o sz es=>
  obtain⟨rfl,rfl,ho⟩:=IT h;simp only[ay];refine⟨fun x e=>?_,none,0,rfl,by simp,fun k x=>?_,rfl⟩
  ·rcases ho with rfl|rfl
   ·exact hc e sz [] rfl
   ·simp[Ob.own]at x
  ·rcases ho with rfl|rfl<;>cases x
theorem VC:∀(ts:List T) (vs:List Value) (k:Nat) (r:aJ) (q:List Nat),T.hD ts vs=true->bZ ae mv w ow (some (r,q)) k ts vs
 |[],[],_,_,_,_=>by simp[bZ]
 |[],_::_,_,_,_,h=>by simp[T.hD]at h
 |_::_,[],_,_,_,h=>by simp[T.hD]at h
 |t::ts,v::vs,k,r,q,h=>by
  simp only[T.hD,Y8]at h;simp only[bZ];refine⟨v,vs,rfl,ki t v _ h.1.2 (fun e=>by simp[gU]at e) (fun cs e=>?_),VC ts vs (k+1) r q h.2⟩;subst e;simp[T.Lc]at h
end
section
variable {X:Cx}{U:Nat->Prop}{J J':Nat}{σ aj aX:St}{a a2:Act}{w w' w2:World}{ow ap aU:Nat->Ow}
theorem tf {a:Act}{n:Nat} (h:n<1000):a.eval (.tmp n)=bL a n:=by
 simp[Act.eval,bL,h]
def fw (X:Cx) (U:Nat->Prop) (σ:St) (a:Act) (w:World) (ow:Nat->Ow) (x:aL) (v:Value):AV->Prop
 |.u=>True
 |.x t=>ay X.ae X.mv w ow none t [v]
 |.own k t=>match x with
  |.t s=>s<1000/\v=bL a s/\σ s=.own k t
  |.k _=>∃sz,t=.l .y sz []/\v=.slice none 0 0
 |.w r k p z lo n=>kz σ a w r k p z lo n v/\U k.e/\U k.h/\U k.d
 |.st cs=>match x with
  |.t s=>s<1000/\v=bL a s/\σ s=.st cs
  |.k _=>∃ts vs,cs=ts.map .x/\v=.agg vs/\T.hD ts vs.toList=true
 |.box k cs=>match x with
  |.t s=>s<1000/\v=bL a s/\σ s=.box k cs
  |.k _=>False
 |.ptr r k p off=>wE σ a w r k p off v/\U k.e/\U k.h/\U k.d
 |.fb g r k=>(∃u,v=.func (.func (X.ae g)) #[] #[u]/\wE σ a w r k [] 0 u)/\U k.e/\U k.h/\U k.d
 |.q t off=>∃b o vs,v=.pointer (some ⟨b,o+off,none⟩)/\ow b=.z/\At w b o vs/\ay X.ae X.mv w ow none t vs
 |.dj n=>∃vs:Array Value,v=.tuple vs/\vs.size=n
theorem wU:∀(ts:List T) (vs:List Value),T.hD ts vs=true->vs.length=ts.length
 |[],[],_=>rfl
 |[],_::_,h=>by simp[T.hD]at h
 |_::_,[],h=>by simp[T.hD]at h
 |t::ts,v::vs,h=>by simp only[T.hD,Y8]at h;simp[wU ts vs h.2]
theorem kn (h:Rel X U J σ a w ow) {e:Nat}{x:aL}{o:Operand} (hx:x.is X.ae o=true) {v:AV} (aq:(raw e x).run σ=some (v,aj)):
  aj=σ/\fw X U σ a w ow x (a.eval o) v:=by
 cases x with
 |t n=>
  cases o<;>simp[aL.is]at hx;obtain⟨rfl,hn⟩:=hx;simp only[raw]at aq;obtain⟨rfl,rfl⟩:=jv aq;refine⟨rfl,?_⟩;have hs:=h.slot n;have bD:=h.fh n;rw[tf hn];cases aV:aj n<;>rw[aV]at hs bD<;>simp only[cK,AV.stamps]at hs bD<;>simp only[fw]
  case x t=>exact hs
  case own k t=>exact⟨hn,trivial,aV⟩
  case w=>exact⟨hs,bD⟩
  case st=>exact⟨hn,trivial,aV⟩
  case box=>exact⟨hn,trivial,aV⟩
  case ptr=>exact⟨hs,bD⟩
  case fb=>exact⟨hs,bD⟩
  case q=>exact hs
  case dj=>exact hs
 |k c=>
  simp only[raw]at aq;obtain⟨rfl,rfl⟩:=bS aq;refine⟨rfl,?_⟩;cases o with
  |tmp m=>cases c<;>simp[aL.is]at hx
  |global g=>cases c<;>simp[aL.is]at hx
  |func f=>
   cases c<;>simp[aL.is]at hx;rename_i g env;cases env<;>simp[aL.is]at hx;subst hx;simp only[sd,fw,ay,Act.eval];exact⟨#[],rfl,by simp[bZ]⟩
  |const v=>
   have jh:c.isConst v=true:=by
    cases c<;>simp only[aL.is]at hx<;>exact hx
   simp only[Act.eval];cases c with
   |a cs=>
    cases v<;>simp only[T.isConst,cX]at jh;rename_i vs;exact⟨cs,vs,rfl,rfl,jh⟩
   |l ob sz es=>
    obtain⟨rfl,rfl,ho⟩:=IT jh;rcases ho with rfl|rfl
    ·exact⟨sz,rfl,rfl⟩
    ·exact ki _ _ none jh (fun _ _ _=>by simp) (fun _=>by simp)
   |i k n=>exact ki _ v none jh (fun _ _ _=>by simp) (fun _=>by simp)
   |b x=>exact ki _ v none jh (fun _ _ _=>by simp) (fun _=>by simp)
   |s x=>exact ki _ v none jh (fun _ _ _=>by simp) (fun _=>by simp)
   |u=>exact ki _ v none jh (fun _ _ _=>by simp) (fun _=>by simp)
   |f g env=>simp[T.isConst]at jh
   |p t=>simp[T.isConst]at jh
end
theorem Z9e (es:List T) (lo n:Nat):bO (sub es lo n)=sub (bO es) lo n:=by
 simp[Er,sub,List.map_take,List.map_drop]
section
variable {X:Cx}{U:Nat->Prop}{J J':Nat}{σ aj aX:St}{a a2:Act}{w w' w2:World}{ow ap aU:Nat->Ow}
theorem tw {ae:Nat->FuncId}{mv:Nat->Value}{c c':Loc}{t:T}{vs:List Value} (ht:t.loose=true) (h:ay ae mv w ow c t vs):ay ae mv w ow c' t vs:=by
 cases t
 case l o sz es=>
  cases o<;>simp only[T.loose,cX]at ht;simpa[ay,Ob.own,Ob.loc]using h
 all_goals first|(simp only[T.loose,cX]at ht;done)|simpa only[ay]using h
def rQ (ow:Nat->Ow) (B:List Nat) (aU:Nat->Ow):Prop:=
 (∀b,ow b=.z->aU b=.z)/\∀r∈B,∀b q,ow b=.own (.sl r) q->aU b=.z
theorem rQ.zs {B:List Nat} (h:rQ ow B aU):Zs w ow w aU:=fun b hb=>⟨h.1 b hb,rfl⟩
theorem YD (h:Rel X U J σ a w ow) {r:Nat}{k:K}{p:List Nat}{z lo n:Nat}{t:T}{v:Value} (hv:kz σ a w r k p z lo n v)
  (aq:(DF r k p lo n).run σ=some (t,aj)):aj=σ/\(∃sz es,t=.l .n sz es/\es.length=n)/\∀aU cR,rQ ow [r] aU->ay X.ae cR w aU none t [v]:=by
 unfold DF at aq;obtain⟨c,aZ,h1,h2⟩:=aW aq;obtain⟨rfl,hc,hk⟩:=Cl h1;cases hn:c.t.aM p with
 |none=>simp[hn,Pg.run]at h2
 |some node=>
  simp only[hn]at h2;cases node<;>simp only[Pg.run,reduceCtorEq]at h2;rename_i o sz es;obtain⟨rfl,rfl⟩:=bS h2;obtain⟨cC,hh,cJ⟩:=xd (w:=w) (v:=bL a r) hc (h.slot r) hn;obtain⟨A,C,rfl⟩:∃A C,cC=.slice A es.length C:=by
   obtain⟨A,C,e,_⟩:=mO cJ;exact⟨A,C,by simpa using e⟩
  obtain⟨_,hl,mz⟩:=(hv.2 c hc hk).2 o sz es hn _ _ _ hh;have mY:=EG (.sl r) p c.t [];rw[eC]at mY;refine⟨rfl,⟨sz,_,rfl,by rw[zb,tH _ _ _ hl]⟩,fun aU cR hB=>?_⟩;have pw:Fz w ow w aU (c.t.fF (some (.sl r,[])) p):=by
   rcases mY with e|e<;>rw[e]
   ·trivial
   ·exact fun b q hb=>⟨hB.2 r (by simp) b _ hb,rfl⟩
  have h5:=uQ hB.zs cR (.l o sz es) none pw cJ;simp only[T.fz]at h5;rw[Z9e];exact Cj (w':=w) (ap:=aU) (c':=none) (fun b hb=>⟨hb,rfl⟩) (fun _=>by simp) h5 mz (by rw[zb];exact hl) (fun x=>by simp[Ob.own]at x)
   (fun b hb=>⟨by simpa[Ob.loc,Ob.own]using hb,rfl⟩) (fun i _=>by simp[Ob.loc,Ob.own,Loc.push,Tr])
theorem Yd {ae:Nat->FuncId}{mv:Nat->Value}{w:World}{ow aU:Nat->Ow} (hz:Zs w ow w aU) (cR:Nat->Value):∀(t:T) {c:Loc}{vs:List Value},ay ae mv w ow c t vs->ay ae cR w aU none t.fz vs->ay ae cR w aU none t.lz vs
 |.l .n sz es,c,vs,h,_=>by
  simp only[T.lz];have h2:ay ae mv w ow none (.l .n sz es) vs:=by
   simp only[ay]at h⊢;obtain⟨_,A,cap,rfl,h1,h2,h3⟩:=h;refine⟨fun x=>by simp[Ob.own]at x,A,cap,rfl,h1,(fun k hk=>by cases hk),?_⟩;cases A with
   |none=>exact h3
   |some ad=>exact h3
  exact Ci cR _ (cB hz _ (c:=none) (c':=none) trivial h2)
 |.l .y _ _,_,_,_,h=>h
 |.l (.m _) _ _,_,_,_,h=>h
 |.i _ _,_,_,_,h=>h
 |.b _,_,_,_,h=>h
 |.s _,_,_,_,h=>h
 |.a _,_,_,_,h=>h
 |.f _ _,_,_,_,h=>h
 |.p _,_,_,_,h=>h
 |.u,_,_,_,h=>h
theorem WQ (h:Rel X U J σ a w ow) {s:Nat}{B:List Nat}:∀(cs:List Cell) {j:Nat}{vs:List Value}{ts:List T}{aj:St},(∀c∈cs,c.lY=true->s∈B)->(∀c∈cs,∀r∈c.iI,r∈B)->o5 X σ a w ow s j cs vs->
  (qC cs).run σ=some (ts,aj)->aj=σ/\∀aU cR,rQ ow B aU->bZ X.ae cR w aU none j ts vs
 |[],j,vs,ts,aj,_,_,hc,aq=>by
  simp only[qC]at aq;obtain⟨rfl,rfl⟩:=bS aq;exact⟨rfl,fun aU cR _=>by simpa only[o5,bZ]using hc⟩
 |c::cs,j,vs,ts,aj,n9,oa,hc,aq=>by
  simp only[qC]at aq;obtain⟨t,aZ,h1,h2⟩:=aW aq;obtain⟨mG,aX,h3,h4⟩:=aW h2;obtain⟨rfl,rfl⟩:=bS h4;simp only[o5]at hc;obtain⟨v,rest,rfl,dR,ei⟩:=hc;have gL:aZ=σ/\∀aU cR,rQ ow B aU->ay X.ae cR w aU none t [v]:=by
   cases c with
   |x t0=>
    simp only[xQ]at h1;obtain⟨rfl,rfl⟩:=bS h1;simp only[lx]at dR;refine⟨rfl,fun aU cR hB=>?_⟩;cases hl:t0.loose with
    |true=>exact Yd hB.zs cR t0 dR (uQ (c:=none) hB.zs cR t0 none trivial (tw hl dR))
    |false=>exact Yd hB.zs cR t0 dR <| uQ (c:=some (.sl s,[j])) hB.zs cR t0 none (fun b q hb=>⟨hB.2 s (n9 (.x t0) fe (by simp[Cell.lY,hl])) b _ hb,rfl⟩) dR
   |w r k p z lo n=>
    simp only[xQ]at h1;simp only[lx]at dR;obtain⟨h5,_,h6⟩:=YD h dR h1;exact⟨h5,fun aU cR hB=>h6 aU cR ⟨hB.1,fun r' hr=>hB.2 r' (by simp at hr;subst hr;exact oa (.w r' k p z lo n) fe r' (by simp[Cell.iI]))⟩⟩
  obtain⟨e1,gL⟩:=gL;rw[e1]at h3;obtain⟨rfl,dD⟩:=WQ h cs (fun c hc=>n9 c (by simp[hc])) (fun c hc=>oa c (by simp[hc])) ei h3;refine⟨rfl,fun aU cR hB=>?_⟩;simp only[bZ];exact⟨v,rest,rfl,gL aU cR hB,dD aU cR hB⟩
theorem VB:∀(ts:List T) (vs:List Value) {mG:List T}{aj:St} (j:Nat),T.hD ts vs=true->(qC (ts.map .x)).run σ=some (mG,aj)->
  aj=σ/\∀aU cR,bZ X.ae cR w aU none j mG vs
 |[],vs,mG,aj,j,h,aq=>by
  simp only[s8,qC]at aq;obtain⟨rfl,rfl⟩:=bS aq;cases vs<;>simp[T.hD]at h;exact⟨rfl,fun _ _=>by simp[bZ]⟩
 |t::ts,[],mG,aj,j,h,aq=>by simp[T.hD]at h
 |t::ts,v::vs,mG,aj,j,h,aq=>by
  simp only[fc,qC]at aq;obtain⟨t1,aZ,h1,h2⟩:=aW aq;obtain⟨Uu,aX,h3,h4⟩:=aW h2;obtain⟨rfl,rfl⟩:=bS h4;simp only[xQ]at h1;obtain⟨rfl,e1⟩:=bS h1;simp only[T.hD,Y8]at h;rw[e1]at h3;obtain⟨rfl,h5⟩:=VB ts vs (j+1) h.2 h3;refine⟨rfl,fun aU cR=>?_⟩;simp only[bZ];refine⟨v,vs,rfl,?_,h5 aU cR⟩;show ay X.ae cR w aU none t.lz [v];have hh:=h.1.2;cases t with
  |l o sz es=>
   obtain⟨rfl,rfl,ho⟩:=IT hh;have:(T.l o sz []).lz=.l .n sz []:=by rcases ho with rfl|rfl<;>rfl
   rw[this];exact ki (.l .n sz []) _ none (by simp[T.isConst]) (fun _ _ _=>by simp) (fun _=>by simp)
  |a cs=>simp[T.Lc]at h
  |f _ _=>simp[T.isConst]at hh
  |p _=>simp[T.isConst]at hh
  |i k n=>exact ki (.i k n) _ none hh (fun _ _ _=>by simp) (fun _=>by simp)
  |b x=>exact ki (.b x) _ none hh (fun _ _ _=>by simp) (fun _=>by simp)
  |s x=>exact ki (.s x) _ none hh (fun _ _ _=>by simp) (fun _=>by simp)
  |u=>exact ki .u _ none hh (fun _ _ _=>by simp) (fun _=>by simp)
theorem Pp {ae:Nat->FuncId}{mv:Nat->Value}{c:Loc}{t:T}{v:Value} (h:ay ae mv w ow c t [v]) (ht:∀cs,t≠.a cs) (hu:t≠.u):v.cells=#[v]:=by
 cases t<;>simp only[ay]at h
 case a cs=>exact absurd rfl (ht cs)
 case u=>exact absurd rfl hu
 case l o sz es=>obtain⟨_,A,cap,e,_⟩:=h;simp at e;subst e;rfl
 case f=>obtain⟨_,e,_⟩:=h;simp at e;subst e;rfl
 case p=>obtain⟨_,_,_,_,e,_⟩:=h;simp at e;subst e;rfl
 all_goals (simp at h;subst h;rfl)
theorem Cd (h:Rel X U J σ a w ow) {x:aL}{v:AV}{val:Value}{t:T} (hr:fw X U σ a w ow x val v) (aq:(lX v).run σ=some (t,aj)):
  aj=σ/\∀aU cR,rQ ow (sa x v) aU->match v with
   |.st _=>∃vs:Array Value,val=.agg vs/\ay X.ae cR w aU none t vs.toList
   |_=>ay X.ae cR w aU none t [val]:=by
 cases v<;>simp only[lX,Pg.run,reduceCtorEq]at aq
 case x t0=>
  obtain⟨rfl,rfl⟩:=bS aq;simp only[fw]at hr;exact⟨rfl,fun aU cR hB=>Ci cR _ (cB hB.zs _ (c:=none) (c':=none) trivial hr)⟩
 case own k t0=>
  obtain⟨rfl,rfl⟩:=bS aq;refine⟨rfl,fun aU cR hB=>?_⟩;cases x with
  |t s=>
   simp only[fw]at hr;obtain⟨_,rfl,aV⟩:=hr;have hs:=h.slot s;rw[aV]at hs;simp only[cK]at hs;exact uQ (c:=some (.sl s,[])) hB.zs cR _ none (fun b q hb=>⟨hB.2 s (by simp[sa]) b _ hb,rfl⟩) hs.2
  |k c=>
   simp only[fw]at hr;obtain⟨sz,rfl,rfl⟩:=hr;exact ki (.l .n sz []) _ none (by simp[T.isConst]) (fun _ _ _=>by simp) (fun _=>by simp)
 case w r k p z lo n=>
  simp only[fw]at hr;obtain⟨h5,_,h6⟩:=YD h hr.1 aq;exact⟨h5,fun aU cR hB=>h6 aU cR hB⟩
 case st cs=>
  obtain⟨ts,aZ,h1,h2⟩:=aW aq;obtain⟨rfl,rfl⟩:=bS h2;cases x with
  |t s=>
   simp only[fw]at hr;obtain⟨_,rfl,aV⟩:=hr;have hs:=h.slot s;rw[aV]at hs;simp only[cK]at hs;obtain⟨vs,he,hc⟩:=hs;obtain⟨rfl,h6⟩:=WQ (B:=sa (.t s) (.st cs)) h cs (fun c hc ho=>by
     have:cs.any Cell.lY=true:=qN.2 ⟨c,hc,ho⟩;simp[sa,this]) (fun c hc r hr=>by
     simp only[sa,kF,uE];exact .inr ⟨c,hc,hr⟩) hc h1
   exact⟨rfl,fun aU cR hB=>⟨vs,he,by simp only[ay];exact h6 aU cR hB⟩⟩
  |k c=>
   simp only[fw]at hr;obtain⟨DL,vs,rfl,rfl,hc⟩:=hr;obtain⟨rfl,h6⟩:=VB (X:=X) (w:=w) DL vs.toList 0 hc h1;exact⟨rfl,fun aU cR _=>⟨vs,rfl,by simp only[ay];exact h6 aU cR⟩⟩
theorem uO (h:Rel X U J σ a w ow) {e:Nat}{x:aL}{o:Operand} (hx:x.is X.ae o=true) {v:AV} (aq:(look e x).run σ=some (v,aj)):
  aj=σ/\fw X U σ a w ow x (a.eval o) v/\(∀k t,v=.own k t->∃c,x=.k c)/\(∀k cs,v≠.box k cs):=by
 cases x with
 |k c=>
  obtain⟨h1,h2⟩:=kn h hx (e:=e) (x:=.k c) (v:=v) aq;refine⟨h1,h2,fun _ _ _=>⟨c,rfl⟩,fun k cs he=>?_⟩;subst he;exact h2
 |t n=>
  have jh:=hx;cases o<;>simp[aL.is]at jh;obtain⟨rfl,hn⟩:=jh;simp only[look]at aq;obtain⟨v0,aZ,h1,h2⟩:=aW aq;obtain⟨rfl,rfl⟩:=jv h1;have cj:=kn h hx (e:=e) (x:=.t n) (v:=aZ n) (aj:=aZ) rfl;have hs:=h.slot n;have bD:=h.fh n;cases aV:aZ n<;>rw[aV]at h2 hs bD cj
  case own k t=>
   simp only[cK,AV.stamps]at hs bD;obtain⟨⟨o,sz,es,rfl,gN⟩,cJ⟩:=hs;simp only at h2;obtain⟨rfl,rfl⟩:=bS h2;obtain⟨A0,alH,KF,amL,auM⟩:=mO cJ;refine⟨rfl,⟨⟨⟨A0,alH,by rw[tf hn];simpa using KF,amL,fun h0=>?_⟩,?_⟩,bD⟩,(fun _ _ he=>by cases he),(fun _ _ he=>by cases he)⟩
   ·obtain⟨ad,cap,iL,_,dg,_⟩:=oo cJ (by intro e;subst e;simp at h0);rw[KF]at iL;simp only[fq,Value.slice.injEq,and_true]at iL;obtain⟨b,o,spot⟩:=ad;simp only at dg;subst dg;exact⟨b,o,iL.1⟩
   intro c hc hk;rw[aV]at hc;simp only[AV.rc,aR]at hc;subst hc;refine⟨fun cs fX=>by simp[T.aM]at fX,fun o' qK bW KR A N C hh=>?_⟩;simp only[T.aM,aR,T.l.injEq]at KR;obtain⟨rfl,rfl,rfl⟩:=KR;simp only[fE,uA,List.isEmpty_nil,gX,if_true,aR]at hh;rw[tf hn,hh];obtain⟨A2,cap,he,hQ,_⟩:=mO cJ;rw[hh]at he;simp only[fq,Value.slice.injEq,and_true]at he;obtain⟨rfl,rfl,rfl⟩:=he;exact⟨rfl,by omega,A,_,C,A,C,rfl,rfl,hQ,by omega,.inl ⟨rfl,.inl rfl⟩,fun _ _=>rfl⟩
  case box k cs=>
   simp only[cK,AV.stamps]at hs bD;simp only at h2;obtain⟨rfl,rfl⟩:=bS h2;refine⟨rfl,⟨⟨by obtain⟨b,aG,ty,fr,he,_⟩:=hs;exact⟨b,0,by rw[tf hn,he]⟩,?_⟩,bD⟩,(fun _ _ he=>by cases he),(fun _ _ he=>by cases he)⟩;intro c hc hk bo hp;rw[aV]at hc;simp only[AV.rc,aR]at hc;subst hc;obtain⟨b,aG,ty,fr,he,_⟩:=hs;rw[he]at hp;simp only[place,cE,aR]at hp;subst hp;rw[tf hn,he]
  all_goals
   simp only at h2;obtain⟨rfl,rfl⟩:=bS h2;exact⟨rfl,cj.2,(fun _ _ he=>by cases he),(fun _ _ he=>by cases he)⟩
end
section
variable {X:Cx}{U:Nat->Prop}{J J':Nat}{σ aj aX:St}{a a2:Act}{w w' w2:World}{ow ap aU:Nat->Ow}
def jb (ow:Nat->Ow) (s J:Nat):Nat->Ow:=fun b=>
 match ow b with
 |.own (.sl r) q=>if r=s then .own (.ar J) q else .own (.sl r) q
 |o=>o
def jc (ow:Nat->Ow) (s J n:Nat):Nat->Ow:=fun b=>
 match ow b with
 |.own (.sl r) q=>if r=s then(match q with|j::q=>if j<n then .own (.ar (J+j)) q else .no|[]=>.no) else .own (.sl r) q
 |o=>o
theorem Cb {x:aL}{y:Unit} (h:(kill x).run σ=some (y,aj)):match x with|.t n=>aj=bi σ n .u|.k _=>aj=σ:=by
 cases x with
 |t n=>exact rZ h
 |k c=>exact(bS h).2
theorem Ee:∀(ts:List T) (vs:List Value) (j:Nat) {t:T}{v:Value},T.hD ts vs=true->ts[j]?=some t->vs[j]?=some v->t.isConst v=true/\∀cs,t≠.a cs
 |[],_,j,t,v,_,ht,_=>by simp at ht
 |_::_,[],j,t,v,h,_,_=>by simp[T.hD]at h
 |t0::ts,v0::vs,j,t,v,h,ht,hv=>by
  simp only[T.hD,Y8]at h;cases j with
  |zero=>
   simp at ht hv;subst ht hv;refine⟨h.1.2,fun cs e=>?_⟩;subst e;simp[T.Lc]at h
  |succ j=>exact Ee ts vs j h.2 (by simpa using ht) (by simpa using hv)
structure mH (X:Cx) (w:World) (ow:Nat->Ow) (lo hi:Nat) (ts:List T) (vs:List Value) (ix:Nat->Nat):Prop where
 len:vs.length=ts.length
 ay:∀(j:Nat) t v,ts[j]?=some t->vs[j]?=some v->ay X.ae X.mv w ow (some (.ar (ix j),[])) t [v]
 pq:∀j,j<ts.length->lo<=ix j/\ix j<hi
 inj:∀i j,i<ts.length->j<ts.length->ix i=ix j->i=j
theorem OI {tk:Bool}:∀(cs:List Cell) {b0 J:Nat}{σ aj:St}{ow:Nat->Ow}{vs:List Value}{ts:List T},Rel X U J σ a w ow->b0+cs.length<=J->
  vs.length=cs.length->
  (∀(j:Nat) c v,cs[j]?=some c->vs[j]?=some v->match c with
   |.x t=>ay X.ae X.mv w ow (some (.ar (b0+j),[])) t [v]
   |.w r k p z lo n=>kz σ a w r k p z lo n v/\U k.e/\U k.h/\U k.d)->
  (mU tk cs).run σ=some (ts,aj)->
  ∃(J':Nat) (ap:Nat->Ow) (ix:Nat->Nat),J<=J'/\Gh X U J J' σ a w ow aj ap/\vs.length=ts.length/\
   (∀(j:Nat) t v,ts[j]?=some t->vs[j]?=some v->ay X.ae X.mv w ap (some (.ar (ix j),[])) t [v])/\
   (∀j,j<ts.length->(ix j=b0+j\/J<=ix j)/\ix j<J')/\(∀i j,i<j->j<ts.length->J<=ix j->ix i<ix j)
 |[],b0,J,σ,aj,ow,vs,ts,h,hb,hl,hc,aq=>by
  simp only[mU]at aq;obtain⟨rfl,rfl⟩:=bS aq;exact⟨J,ow,fun _=>0,Nat.le_refl _,Gh.refl h (Nat.le_refl _),by simpa using hl,fun j t v ht=>by simp at ht,fun j hj=>by simp at hj,fun i j _ hj=>by simp at hj⟩
 |.x t::cs,b0,J,σ,aj,ow,vs,ts,h,hb,hl,hc,aq=>by
  simp only[mU]at aq;obtain⟨mG,aZ,h1,h2⟩:=aW aq;obtain⟨rfl,rfl⟩:=bS h2;cases vs with
  |nil=>simp at hl
  |cons v vs=>
   have h0:=hc 0 _ v rfl rfl;simp only[pc]at h0;simp only[dH]at hb hl;obtain⟨J',ap,ix,hJ,hg,kr,hr,tS,aF⟩:=OI cs (b0:=b0+1) (vs:=vs) h (by omega) (by omega) (fun j c u hj hu=>by
    have:=hc (j+1) c u (by simpa using hj) (by simpa using hu);rw[show b0+(j+1)=b0+1+j by omega]at this;exact this) h1
   refine⟨J',ap,fun j=>match j with|0=>b0|j+1=>ix j,hJ,hg,by simp[kr],fun j t' u ht hu=>?_,fun j hj=>?_,fun i j lg hj Ky=>?_⟩
   ·cases j with
    |zero=>
     simp at ht hu;subst ht hu;exact cB hg.z t (c:=some (.ar b0,[])) (fun b q hb=>⟨hg.dw b b0 q (by omega) hb,rfl⟩) h0
    |succ j=>exact hr j t' u (by simpa using ht) (by simpa using hu)
   ·cases j with
    |zero=>exact⟨.inl rfl,by show b0<J';omega⟩
    |succ j=>
     obtain⟨h5,h6⟩:=tS j (by simpa using hj);exact⟨h5.imp (fun e=>by show ix j=_;omega) id,h6⟩
   ·cases j with
    |zero=>omega
    |succ j=>
     cases i with
     |zero=>show b0<ix j;simp only at Ky;omega
     |succ i=>exact aF i j (by omega) (by simpa using hj) Ky
 |.w r k p z lo n::cs,b0,J,σ,aj,ow,vs,ts,h,hb,hl,hc,aq=>by
  simp only[mU]at aq;obtain⟨t,aZ,h1,h2⟩:=aW aq;obtain⟨mG,aX,h3,h4⟩:=aW h2;obtain⟨rfl,rfl⟩:=bS h4;cases vs with
  |nil=>simp at hl
  |cons v vs=>
   obtain⟨h0,bD⟩:=hc 0 _ v rfl rfl;simp only[dH]at hb hl;obtain⟨bB,eH,dO⟩:=B5 h h0 h1;obtain⟨J',ap,ix,hJ,hg,kr,hr,tS,aF⟩:=OI cs (b0:=b0+1) (vs:=vs) eH.rel (by omega) (by omega) (fun j c u hj hu=>by
    have:=hc (j+1) c u (by simpa using hj) (by simpa using hu);rw[show b0+(j+1)=b0+1+j by omega]at this;cases c with
    |x t'=>
     have aF:j<cs.length:=(bt.1 hj).1;exact cB eH.z t' (c:=some (.ar (b0+1+j),[])) (fun b q hb=>⟨eH.dw b _ q (by omega) hb,rfl⟩) this
    |w r' k' p' z' xR n'=>exact⟨(eH.refs r').yu this.2.1 this.2.2.1 this.2.2.2 this.1,this.2⟩) h3
   refine⟨J',ap,fun j=>match j with|0=>J|j+1=>ix j,by omega,eH.trans hg (by omega),by simp[kr],fun j t' u ht hu=>?_,fun j hj=>?_,fun i j lg hj Ky=>?_⟩
   ·cases j with
    |zero=>
     simp at ht hu;subst ht hu;exact cB hg.z t (c:=some (.ar J,[])) (fun b q hb=>⟨hg.dw b J q (by omega) hb,rfl⟩) dO
    |succ j=>exact hr j t' u (by simpa using ht) (by simpa using hu)
   ·cases j with
    |zero=>exact⟨.inr (Nat.le_refl _),by show J<J';omega⟩
    |succ j=>
     obtain⟨h5,h6⟩:=tS j (by simpa using hj);refine⟨?_,h6⟩;rcases h5 with h5|h5
     ·exact .inl (by show ix j=_;omega)
     ·exact .inr (by show J<=ix j;omega)
   ·cases j with
    |zero=>omega
    |succ j=>
     simp only at Ky⊢;obtain⟨h5,h6⟩:=tS j (by simpa using hj);have C4:J+1<=ix j:=by
      rcases h5 with h5|h5
      ·have:j<cs.length:=by
        have:mG.length=cs.length:=by omega
        simp at hj;omega
       omega
      ·exact h5
     cases i with
     |zero=>show J<ix j;omega
     |succ i=>exact aF i j (by omega) (by simpa using hj) C4
theorem uK {s:Nat}:∀{cs:List Cell}{j0:Nat}{vs:List Value},o5 X σ a w ow s j0 cs vs->vs.length=cs.length/\
  ∀(j:Nat) c v,cs[j]?=some c->vs[j]?=some v->lx X σ a w ow s (j0+j) c v
 |[],j0,vs,h=>by simp only[o5]at h;subst h;exact⟨rfl,fun j c v hc=>by simp at hc⟩
 |c::cs,j0,vs,h=>by
  simp only[o5]at h;obtain⟨v,rest,rfl,h1,h2⟩:=h;obtain⟨h3,h4⟩:=uK h2;refine⟨by simp[h3],fun j c' v' hc hv=>?_⟩;cases j with
  |zero=>simp at hc hv;subst hc hv;exact h1
  |succ j=>
   have:=h4 j c' v' (by simpa using hc) (by simpa using hv);rw[show j0+(j+1)=j0+1+j by omega];exact this
theorem uM (h:Rel X U J σ a w ow) {e:Nat}{tk:Bool}{x:aL}{o:Operand} (hx:x.is X.ae o=true) {ts:List T} (aq:(gJ e tk x).run σ=some (ts,aj)):
  ∃J' ap ix,J<=J'/\Gh X U J J' σ a w ow aj ap/\mH X w ap J J' ts (a.eval o).cells.toList ix:=by
 unfold gJ at aq;obtain⟨v,aZ,h1,h2⟩:=aW aq;obtain⟨e1,cj⟩:=kn h hx h1;rw[e1]at h2;clear h1 aq e1 aZ;cases v<;>simp only[Pg.run,reduceCtorEq]at h2
 case x t=>
  split at h2
  ·rename_i K1;obtain⟨rfl,rfl⟩:=bS h2;simp only[fw]at cj;have eu:(a.eval o).cells=#[a.eval o]:=Pp cj (fun cs e=>by subst e;simp[T.yn]at K1) (fun e=>by subst e;simp[T.yn]at K1);refine⟨J+1,ow,fun _=>J,by omega,Gh.refl h (by omega),⟨by rw[eu];rfl,fun j t' v ht hv=>?_,fun j hj=>by omega,fun i j hi hj _=>by simp at hi hj;omega⟩⟩;rw[eu]at hv;cases j with
   |succ j=>simp at ht
   |zero=>
    simp at ht hv;subst ht hv;exact cB (fun b hb=>⟨hb,rfl⟩) _ (c:=none) trivial cj
  ·simp[Pg.run]at h2
 case own k t=>
  split at h2
  ·simp[Pg.run]at h2
  ·rename_i an6;obtain⟨_,aX,h3,h4⟩:=aW h2;obtain⟨rfl,rfl⟩:=bS h4;cases x with
   |k c=>
    obtain⟨rfl⟩:=Cb h3;simp only[fw]at cj;obtain⟨sz,rfl,cC⟩:=cj;rw[cC];refine⟨J+1,ow,fun _=>J,by omega,Gh.refl h (by omega),⟨rfl,fun j t' v ht hv=>?_,fun j hj=>by omega,fun i j hi hj _=>by simp at hi hj;omega⟩⟩;cases j with
    |succ j=>simp at ht
    |zero=>
     simp[Value.cells]at ht hv;subst ht hv;exact ki (.l .y sz []) _ _ (by simp[T.isConst]) (fun e=>by cases e) (fun _=>by simp)
   |t s=>
    obtain⟨rfl⟩:=Cb h3;simp only[fw]at cj;obtain⟨dL,cC,aV⟩:=cj;have hs:=h.slot s;rw[aV]at hs;simp only[cK]at hs;obtain⟨⟨ob,sz,es,rfl,gN⟩,cJ⟩:=hs;have eu:(a.eval o).cells=#[a.eval o]:=by
     rw[cC];exact Pp cJ (fun _=>by simp) (by simp)
    have hz:Zs w ow w (jb ow s J):=fun b hb=>⟨by simp[jb,hb],rfl⟩
    have hg:=qT (J':=J+1) (v':=.u) (ap:=jb ow s J) h (r:=s) (by simp[cK]) (by simp[AV.stamps]) hz (fun b r' q hr hb=>by
      unfold jb;rw[hb];cases r' with
      |sl y=>simp only;rw[if_neg (fun e=>hr (by rw[e]))]
      |ar y=>rfl
      |rs y=>rfl) (fun b hb=>by simp[jb,hb]) (fun b i q hb=>by
      unfold jb at hb;cases dq:ow b with
      |no=>simp[dq]at hb
      |z=>simp[dq]at hb
      |own r' q'=>
       rw[dq]at hb;cases r' with
       |sl y=>
        simp only at hb;split at hb
        ·simp at hb;omega
        ·cases hb
       |ar y=>have:=h.dw b y q' dq;simp at hb;omega
       |rs y=>cases hb) (dn.fresh fun c' cN=>by simp[bi,AV.rc]at cN) (by rw[aV];simp) (fun n=>by rw[aV];simp)
    refine⟨J+1,jb ow s J,fun _=>J,by omega,⟨hg.1,hz,fun b i q _ hb=>by simp[jb,hb],hg.2⟩,⟨by rw[eu];rfl,fun j t' v ht hv=>?_,fun j hj=>by omega,fun i j hi hj _=>by simp at hi hj;omega⟩⟩;rw[eu]at hv;cases j with
    |succ j=>simp at ht
    |zero=>
     simp at ht hv;subst ht hv;rw[cC];exact cB hz _ (c:=some (.sl s,[])) (fun b q hb=>⟨by simp only[eC]at hb;simp[jb,hb],rfl⟩) cJ
 case w r k p z lo n=>
  obtain⟨t,aX,h3,h4⟩:=aW h2;obtain⟨rfl,rfl⟩:=bS h4;simp only[fw]at cj;obtain⟨ap,hg,hr⟩:=B5 h cj.1 h3;have hl:∃o2 sz es,t=.l o2 sz es:=by
   obtain⟨c,o2,sz,es,_,_,_,kK⟩:=Et h3;rcases kK with⟨_,e,_⟩|⟨_,e,_⟩|⟨_,e,_⟩<;>exact⟨_,_,_,e⟩
  obtain⟨o2,sz,es,rfl⟩:=hl;have eu:(a.eval o).cells=#[a.eval o]:=Pp hr (fun _=>by simp) (by simp);refine⟨J+1,ap,fun _=>J,by omega,hg,⟨by rw[eu];rfl,fun j t' v ht hv=>?_,fun j hj=>by omega,fun i j hi hj _=>by simp at hi hj;omega⟩⟩;rw[eu]at hv;cases j with
  |succ j=>simp at ht
  |zero=>
   simp at ht hv;subst ht hv;exact hr
 case st cs=>
  have fin:∀(aZ:St) (bB:Nat->Ow) (vs:Array Value),Gh X U J (J+cs.length) σ a w ow aZ bB->a.eval o=.agg vs->vs.toList.length=cs.length->
    (∀(j:Nat) c v,cs[j]?=some c->vs.toList[j]?=some v->match c with
     |.x t=>ay X.ae X.mv w bB (some (.ar (J+j),[])) t [v]
     |.w r k p z lo n=>kz aZ a w r k p z lo n v/\U k.e/\U k.h/\U k.d)->
    (mU tk cs).run aZ=some (ts,aj)->
    ∃J' ap ix,J<=J'/\Gh X U J J' σ a w ow aj ap/\mH X w ap J J' ts (a.eval o).cells.toList ix:=by
   intro aZ bB vs eH cC hl hc aq;obtain⟨J',ap,ix,hJ,hg,kr,hr,tS,aF⟩:=OI cs (b0:=J) (vs:=vs.toList) eH.rel (Nat.le_refl _) hl hc aq;have oP:ts.length=cs.length:=by omega
   refine⟨J',ap,ix,by omega,eH.trans hg (by omega),⟨by rw[cC];simpa[Value.cells]using kr,fun j t v ht hv=>hr j t v ht (by rw[cC]at hv;simpa[Value.cells]using hv),fun j hj=>?_,fun i j hi hj e=>?_⟩⟩
   ·obtain⟨h5,h6⟩:=tS j hj;refine⟨?_,h6⟩;rcases h5 with h5|h5<;>omega
   ·rcases Nat.lt_trichotomy i j with lg|lg|lg
    ·obtain⟨h5,_⟩:=tS i hi;obtain⟨h7,_⟩:=tS j hj;rcases h7 with h7|h7
     ·rcases h5 with h5|h5<;>omega
     ·have:=aF i j lg hj h7;omega
    ·exact lg
    ·obtain⟨h5,_⟩:=tS i hi;obtain⟨h7,_⟩:=tS j hj;rcases h5 with h5|h5
     ·rcases h7 with h7|h7<;>omega
     ·have:=aF j i lg hi h5;omega
  cases x with
  |k c=>
   simp only[fw]at cj;obtain⟨DL,vs,rfl,cC,hc⟩:=cj;have aoj:(mU tk (DL.map .x)).run σ=some (ts,aj):=by
    split at h2
    ·obtain⟨_,aX,h3,h4⟩:=aW h2;have:=Cb h3;simp only at this;rw[this]at h4;exact h4
    ·exact h2
   refine fin σ ow vs (Gh.refl h (by omega)) cC (by rw[wU _ _ hc];simp) (fun j c v hj hv=>?_) aoj;rw[iX]at hj;obtain⟨t,ht,rfl⟩:=jm.1 hj;have h5:=VC (ae:=X.ae) (mv:=X.mv) (w:=w) (ow:=ow) DL vs.toList 0 (.ar (J+j)) [] hc;obtain⟨v',eX,hr⟩:=kT h5 ht;rw[hv]at eX;cases eX;have h6:=Ee DL vs.toList j hc ht hv;exact ki t v _ h6.1 (fun e=>by cases e) h6.2
  |t s=>
   simp only[fw]at cj;obtain⟨dL,cC,aV⟩:=cj;have hs:=h.slot s;rw[aV,<-cC]at hs;simp only[cK]at hs;obtain⟨vs,abF,eu⟩:=hs;have AQ:=h.fh s;rw[aV]at AQ;simp only[AV.stamps]at AQ;obtain⟨hlen,gu⟩:=uK eu;split at h2
   ·obtain⟨_,aX,h3,h4⟩:=aW h2;have hk:=Cb h3;simp only at hk;subst hk;have hz:Zs w ow w (jc ow s J cs.length):=fun b hb=>⟨by simp[jc,hb],rfl⟩
    have hg:=qT (J':=J+cs.length) (v':=.u) (ap:=jc ow s J cs.length) h (r:=s) (by simp[cK]) (by simp[AV.stamps]) hz (fun b r' q hr hb=>by
      unfold jc;rw[hb];cases r' with
      |sl y=>simp only;rw[if_neg (fun e=>hr (by rw[e]))]
      |ar y=>rfl
      |rs y=>rfl) (fun b hb=>by simp[jc,hb]) (fun b i q hb=>by
      unfold jc at hb;cases dq:ow b with
      |no=>simp[dq]at hb
      |z=>simp[dq]at hb
      |own r' q'=>
       rw[dq]at hb;cases r' with
       |sl y=>
        simp only at hb;split at hb
        ·split at hb
         ·split at hb
          ·simp at hb;omega
          ·cases hb
         ·cases hb
        ·cases hb
       |ar y=>have:=h.dw b y q' dq;simp at hb;omega
       |rs y=>cases hb) (dn.fresh fun c' cN=>by simp[bi,AV.rc]at cN) (by rw[aV];simp) (fun n=>by rw[aV];simp)
    refine fin _ (jc ow s J cs.length) vs ⟨hg.1,hz,fun b i q _ hb=>by simp[jc,hb],hg.2⟩ abF hlen (fun j c v hj hv=>?_) h4;have h5:=gu j c v hj hv;rw[db]at h5;have iA:=(bt.1 hj).1;cases c with
    |x t=>
     simp only[lx]at h5;exact cB hz t (c:=some (.sl s,[j])) (fun b q hb=>⟨by simp only[gf,eC]at hb;simp[jc,hb,iA],rfl⟩) h5
    |w r k p z lo n=>
     simp only[lx]at h5;have bD:=AQ _ (cS hj);simp only[Cell.stamps]at bD;exact⟨(hg.2 r).yu bD.1 bD.2.1 bD.2.2 h5,bD⟩
   ·rename_i gN;refine fin σ ow vs (Gh.refl h (by omega)) abF hlen (fun j c v hj hv=>?_) h2;have h5:=gu j c v hj hv;rw[db]at h5;cases c with
    |x t=>
     simp only[lx]at h5;have jg:t.loose=true:=by
      cases hh:t.loose with
      |true=>rfl
      |false=>
       exfalso;apply gN;rw[qN];exact⟨_,cS hj,by simp[Cell.lY,hh]⟩
     exact tw jg h5
    |w r k p z lo n=>
     simp only[lx]at h5;have bD:=AQ _ (cS hj);simp only[Cell.stamps]at bD;exact⟨h5,bD⟩
end
section
variable {ae:Nat->FuncId}{mv:Nat->Value}{w w':World}{ow ap:Nat->Ow}
def Open (w:World) (ow:Nat->Ow) (r:aJ) (B:Nat):Prop:=
 ∃aG ty fr q,w.heap[B]?=some (.cells aG ty fr)/\wm aG fr/\ow B=.own r q
theorem I5 {r:aJ}:∀(p:List Nat) (t:T) {q:List Nat}{b o:Nat}{vs:List Value}{B O:Nat},ay ae mv w ow (some (r,q)) t vs->At w b o vs->Open w ow r b->
  t.eO p=true->cE w t b o p=some (B,O)->Open w ow r B
 |[],t,q,b,o,vs,B,O,h,ha,hb,hm,hl=>by
  have:cE w t b o []=some (B,O):=hl;cases t<;>simp only[cE,aR,di]at this<;>exact this.1▸hb
 |k::p,t,q,b,o,vs,B,O,h,ha,hb,hm,hl=>by
  cases t<;>simp only[T.eO,cX]at hm
  case a cs=>
   cases ht:cs[k]? with
   |none=>simp[ht]at hm
   |some t'=>
    simp only[ht]at hm;simp only[cE,ht]at hl;simp only[ay]at h;obtain⟨v,hv,hr⟩:=kT h ht;rw[gU]at hr;exact I5 p t' hr (fun j u hj=>by
     cases j with
     |zero=>simp at hj;subst hj;exact ha k v hv
     |succ j=>simp at hj) hb hm hl
  case l ob sz es=>
   cases ht:es[k]? with
   |none=>simp[ht]at hm
   |some t'=>
    simp only[ht,Y8]at hm;have bC:es≠[]:=by intro he;subst he;simp at ht
    obtain⟨ad,cap,rfl,_,_,cW,aG,ty,fr,bE,hh,eA,bP,cg⟩:=oo h bC;have dR:=(ha.cons).1;simp only[cE,dR,ht]at hl;have dp:Ob.loc ob (some (r,q))=some (r,q):=by simp[Ob.loc,hm.1]
    rw[dp]at cW cg;obtain⟨v1,_,hr,hv⟩:=om cg ht;rw[gU]at hr;exact I5 p t' hr (fun j u hj=>by rw[iZ hh,fK];exact bP _ _ (hv j u hj)) ⟨aG,ty,fr,q,hh,(eA hm.1).1.un,cW⟩ hm.2 hl
theorem Zjh {B O off:Nat}{j9:List T}{pF:List Value}{r:aJ}{node:T}
  (hz:∀b,ow b=.z->ap b=.z/\b≠B) (gN:∀b q',ow b=.own r q'->ap b=.own r q') (hu:wG w w' B (O+off) pF)
  (hlen:pF.length=j9.length) (bC:j9≠[]) (qx:off+j9.length<=node.cells.length) {k:Nat}{p:List Nat}{ob:Ob}{sz:Nat}{es:List T}{A:Option Addr}{N cap:Nat}
  (h:ay ae mv w ow (some (r,[])) (.l ob sz es) [.slice A N cap]) (hm:(T.l ob sz es).eO (k::p)=true) (hn:(T.l ob sz es).aM (k::p)=some node)
  (hl:eY w (.l ob sz es) A (k::p)=some (B,O))
  (eh:∀j x v,j9[j]?=some x->pF[j]?=some v->ay ae mv w' ap (xl node r (k::p) (off+j)) x [v]):
  ay ae mv w' ap (some (r,[])) ((T.l ob sz es).put (k::p) (node.jo (fG node.cells off j9))) [.slice A N cap]:=by
 have j5:Zs w ow w' ap:=fun b hb=>⟨(hz b hb).1,hu.other b (hz b hb).2⟩
 have other:∀(q2:List Nat),(∀h,ow B≠.own r (q2++h))->Tr w ow w' ap (some (r,q2)) (some (r,q2)):=fun q2 hq b q' hb=>
  ⟨gN b _ hb,hu.other b fun hB=>hq q' (hB▸hb)⟩
 simp only[T.aM,T.bA]at hn;obtain⟨t',bG,hn⟩:=gG.1 hn;have AI:es≠[]:=by intro he;subst he;simp at bG
 simp only[T.eO,bG,Y8]at hm;obtain⟨dq,hm⟩:=hm;have mY:Ob.loc ob (some (r,([]:List Nat)))=some (r,[]):=by simp[Ob.loc,dq]
 have h':=h;simp only[ay]at h';obtain⟨h0,A',uY,he,hc,ct,ei⟩:=h';simp only[fq,Value.slice.injEq,and_true]at he;obtain⟨rfl,rfl,rfl⟩:=he;cases A with
 |none=>simp only at ei;subst ei;exact absurd (iY.1 (Nat.le_zero.1 hc)) AI
 |some ad=>
  obtain⟨hs,cW,aG,ty,fr,bE,hh,eA,bP,cg⟩:=ei (.inr AI);rw[mY]at cW cg;simp only[Loc.ow]at cW;simp only[eY,bG]at hl;obtain⟨v1,dp,hr,hv⟩:=om cg bG;rw[db,gU]at hr;have vu:At w ad.block (ad.off+k*sz) v1:=fun j u hu=>by
   rw[iZ hh,fK];exact bP _ _ (hv j u hu)
  obtain⟨lv,h1,h2,h3,_,h5⟩:=XP hz gN hu hlen bC qx p t' hr vu cW (.inl (by simp)) hm hn hl (fun j x v hx hv=>by
   have:=eh j x v hx hv;simpa using this)
  have hk:k<es.length:=(bt.1 bG).1;have dC:=qW cg;obtain⟨fy,lf,Gg,R4⟩:∃fy,w'.heap[ad.block]?=some (.cells fy ty fr)/\fy.size=aG.size/\
    ∀j u,(j<ad.off+k*sz\/ad.off+k*sz+sz<=j)->aG[j]?=some u->fy[j]?=some u:=by
   by_cases hB:ad.block=B
   ·obtain⟨a1,a2,Uv,Qc,h6,h7,h8,h9⟩:=hu.aO;rw[<-hB,hh]at h6;cases h6;refine⟨a2,hB▸h7,h8,fun j u hj jz=>?_⟩;rw[h9,if_neg]
    ·exact jz
    ·rcases h5 with⟨_,eU,lP⟩|⟨eU,_⟩
     ·rw[dp]at lP;omega
     ·exact absurd hB.symm eU
   ·exact⟨aG,(hu.other _ hB).trans hh,rfl,fun _ _ _ h=>h⟩
  simp only[T.put,T.bA,bG,T.dP,ay];refine⟨h0,some ad,cap,by simp,by simpa using hc,fun k' lU=>by simpa using ct k' lU,fun _=>⟨hs,?_,fy,ty,fr,fG bE (k*sz) lv,lf,?_,?_,?_⟩⟩
  ·rw[mY];exact gN _ _ cW
  ·intro x;exact⟨by rw[Gg];exact(eA x).1,by rw[Gg];exact(eA x).2⟩
  ·have hle:k*sz+lv.length<=bE.length:=by
    rw[h3,dp,dC];have:(k+1)*sz<=es.length*sz:=kC _ hk;rw[iW]at this;exact this
   intro j u hj;rw[pn _ _ _ hle,h3,dp]at hj;by_cases xH:k*sz<=j/\j<k*sz+sz
   ·rw[if_pos xH]at hj;have:=h2 _ u hj;rw[iZ lf]at this;rw[<-this];congr 1;omega
   ·rw[if_neg xH]at hj;exact R4 _ u (by omega) (bP j u hj)
  ·rw[mY];have hle:k*sz+lv.length<=bE.length:=by
    rw[h3,dp,dC];have:(k+1)*sz<=es.length*sz:=kC _ hk;rw[iW]at this;exact this
   refine Ch cg (by simp) (uT _ _ _ hle) fun j t2 v2 hj dy dS gQ=>?_;rw[db,gU]at dS⊢;have idx:∀i,i<sz->(k*sz<=j*sz+i/\j*sz+i<k*sz+sz<->j=k):=fun i hi=>by
    constructor
    ·rintro⟨a1,a2⟩;rcases Nat.lt_trichotomy j k with h|h|h
     ·have:(j+1)*sz<=k*sz:=kC _ h;rw[iW]at this;omega
     ·exact h
     ·have:(k+1)*sz<=j*sz:=kC _ h;rw[iW]at this;omega
    ·rintro rfl;omega
   by_cases jI:j=k
   ·subst jI;refine⟨_,lv,il hk,by omega,h1,fun i u hi=>?_⟩;have mW:i<sz:=by have:=(bt.1 hi).1;omega
    rw[pn _ _ _ hle,h3,dp,if_pos (by omega)];rw[show j*sz+i-j*sz=i by omega];exact hi
   ·refine⟨t2,v2,by rw[jQ (Ne.symm jI)];exact hj,dy,cB j5 t2 (other _ fun h' hB=>?_) dS,fun i u hi=>?_⟩
    ·rcases h5 with⟨h6,_⟩|⟨_,h7,h8⟩
     ·rw[h6,cW]at hB;have:=congrArg List.length (Ow.own.inj hB).2;simp at this
     ·rw[hB]at h8;have h9:=(Ow.own.inj h8).2;rw[gY,gY]at h9;have eU:=List.append_cancel_left h9;simp at eU;exact jI eU.1
    ·have mW:i<sz:=by have:=(bt.1 hi).1;omega
     rw[pn _ _ _ hle,h3,dp,if_neg (fun hx=>jI ((idx i mW).1 hx))];exact gQ i u hi
end
theorem Znf {P:Program}{w:World}{a:Addr}{v u:Value}{k:Sem Unit}{m:Go.Mode} (hc:w.cell? a=some u) (hf:w.frozen? a=false) (hv:oT v=true):
  (Sem.store m a v k).run P w=k.run P (w.setCell a v):=by
 cases v<;>simp only[oT,cX]at hv<;>simp[Sem.run,hc,hf]
theorem Wc {w:World}{b o:Nat}{aG:Array Value}{ty:TypeId}{fr:Nat×Nat} (h:w.heap[b]?=some (.cells aG ty fr)) (hf:wm aG fr) (ho:o<aG.size):
  w.frozen? ⟨b,o,none⟩=false:=by
 unfold World.frozen?;simp only[h];rcases hf with hf|hf
 ·simp;omega
 ·simp;omega
theorem YF {w:World}{b o:Nat}{v:Value}{aG:Array Value}{ty:TypeId}{fr:Nat×Nat} (h:w.heap[b]?=some (.cells aG ty fr)):
  (w.setCell ⟨b,o,none⟩ v).heap[b]?=some (.cells (aG.setIfInBounds o v) ty fr)/\(∀b',b'≠b->(w.setCell ⟨b,o,none⟩ v).heap[b']?=w.heap[b']?)/\
  (w.setCell ⟨b,o,none⟩ v).heap.size=w.heap.size:=by
 unfold World.setCell;refine⟨?_,fun b' cU=>?_,by simp⟩
 ·simp[Array.getElem?_modify,h]
 ·simp[Array.getElem?_modify,Ne.symm cU]
theorem PB {P:Program}{b o:Nat}{ty:TypeId}{fr:Nat×Nat}:∀(vs:List Value) (i:Nat) (w:World) (aG:Array Value),w.heap[b]?=some (.cells aG ty fr)->wm aG fr->
  o+i+vs.length<=aG.size->vs.all oT=true->
  ∃fy w',(storeCells ⟨b,o,none⟩ vs i).run P w=.ok () w'/\w'.heap[b]?=some (.cells fy ty fr)/\fy.size=aG.size/\
   (∀j,fy[j]?=if o+i<=j/\j<o+i+vs.length then vs[j-(o+i)]? else aG[j]?)/\(∀b',b'≠b->w'.heap[b']?=w.heap[b']?)/\w'.heap.size=w.heap.size/\
   w'.os=w.os/\w'.output=w.output
 |[],i,w,aG,h,hf,hl,hv=>⟨aG,w,rfl,h,rfl,fun j=>by rw[if_neg (by simp)],fun _ _=>rfl,rfl,rfl,rfl⟩
 |v::vs,i,w,aG,h,hf,hl,hv=>by
  simp only[nV,Y8]at hv;simp only[dH]at hl;have xE:(⟨b,o,none⟩:Addr).add i=⟨b,o+i,none⟩:=by unfold Addr.add;split<;>simp_all
  have aF:o+i<aG.size:=by omega
  have dR:w.cell? ⟨b,o+i,none⟩=some aG[o+i]:=by rw[iZ h];simp[aF]
  have aq:(storeCells ⟨b,o,none⟩ (v::vs) i).run P w=(storeCells ⟨b,o,none⟩ vs (i+1)).run P (w.setCell ⟨b,o+i,none⟩ v):=by
   conv=>lhs;unfold storeCells
   simp only[Bind.bind,Go.store,xE,Sem.bind];rw[Znf dR (Wc h hf aF) hv.1]
  obtain⟨h1,h2,h3⟩:=YF (v:=v) (o:=o+i) h;obtain⟨fy,w',h4,h5,h6,h7,h8,h9,eU,lP⟩:=PB (P:=P) (b:=b) (o:=o) (ty:=ty) (fr:=fr) vs (i+1) (w.setCell ⟨b,o+i,none⟩ v) (aG.setIfInBounds (o+i) v) h1 (by unfold wm at*;simpa using hf) (by simp only[Array.size_setIfInBounds];omega) hv.2;refine⟨fy,w',aq.trans h4,h5,h6.trans (by simp),fun j=>?_,fun b' cU=>(h8 b' cU).trans (h2 b' cU),h9.trans h3,eU,lP⟩;rw[h7 j];simp only[dH];by_cases hj:j=o+i
  ·subst hj;rw[if_neg (by omega),if_pos (by omega)];simp[aF]
  ·by_cases fP:o+(i+1)<=j/\j<o+(i+1)+vs.length
   ·rw[if_pos fP,if_pos (by omega)];rw[show j-(o+i)=(j-(o+(i+1)))+1 by omega];simp
   ·rw[if_neg fP,if_neg (by omega),Array.getElem?_setIfInBounds_ne (Ne.symm hj)]
def CH (σ:St) (d:Nat):Nat->St
 |0=>σ
 |n+1=>bi (CH σ d n) (vt d n) .u
def kP (σ:St) (d:Nat) (v:AV):St:=
 match σ d with
 |.dj n=>bi (CH σ d n) d v
 |_=>bi σ d v
def yf (σ:St) (d:Option Nat) (v:AV):St:=
 match d with
 |some d=>kP σ d v
 |none=>σ
theorem Yq (d:Nat):∀(n:Nat) (σ:St),(Dn d n).run σ=some ((),CH σ d n)
 |0,σ=>rfl
 |n+1,σ=>by
  show((Dn d n).bind fun _=>Pg.wr (vt d n) .u).run σ=_;have:=run_bind (Dn d n) (fun _=>Pg.wr (vt d n) .u) σ;simp only[Bind.bind]at this;rw[this,Yq d n σ];rfl
theorem uR (d:Nat) (v:AV) (σ:St):(gd d v).run σ=some ((),kP σ d v):=by
 unfold gd kP;simp only[Bind.bind,Pg.bind,Pg.rd,Pg.run];cases h:σ d
 case dj n=>
  simp only;have:=run_bind (Dn d n) (fun _=>Pg.wr d v) σ;simp only[Bind.bind]at this;rw[this,Yq d n σ];rfl
 all_goals rfl
theorem EV (d:Option Nat) (v:AV) (σ:St):(dE d v).run σ=some ((),yf σ d v):=by
 cases d with
 |none=>rfl
 |some d=>exact uR d v σ
theorem Vv (σ:St) (d:Nat) (hd:d<1000):∀(n s:Nat),CH σ d n s=if 1000<=s/\s%1000=d/\s/1000<=n then .u else σ s
 |0,s=>by
  unfold CH;rw[if_neg];rintro⟨h1,h2,h3⟩;omega
 |n+1,s=>by
  unfold CH bi;rw[Vv σ d hd n s];unfold vt;by_cases h:s=d+1000*(n+1)
  ·rw[if_pos h,if_pos (by omega)]
  ·rw[if_neg h];by_cases h2:1000<=s/\s%1000=d/\s/1000<=n
   ·rw[if_pos h2,if_pos (by omega)]
   ·rw[if_neg h2,if_neg (by omega)]
theorem AV.yq {U U':Nat->Prop} (hU:∀x,U x->U' x) {v:AV} (h:v.stamps U):v.stamps U':=by
 cases v<;>simp only[AV.stamps]at h⊢
 case st cs=>
  intro c hc;have:=h c hc;cases c<;>simp only[Cell.stamps]at this⊢;exact⟨hU _ this.1,hU _ this.2.1,hU _ this.2.2⟩
 all_goals exact⟨hU _ h.1,hU _ h.2.1,hU _ h.2.2⟩
section
variable {X:Cx}{U:Nat->Prop}{J J':Nat}{σ aj aX:St}{a a2:Act}{w w' w2:World}{ow ap aU:Nat->Ow}
theorem tF (h:Rel X U J σ a w ow) {d:Nat} (hd:d<1000) (v:AV) (s:Nat):
  kP σ d v s=if s=d then v else if 1000<=s/\s%1000=d then .u else σ s:=by
 have hv:(1000<=s/\s%1000=d)->(∀n,σ d=.dj n->¬s/1000<=n)->σ s=.u:=fun hs hn=>by
  cases aV:σ s<;>first|rfl|skip
  all_goals
   obtain⟨n,h1,h2⟩:=h.pR s hs.1 (by rw[aV];simp);rw[hs.2]at h1;exact absurd h2 (hn n h1)
 unfold kP;cases abN:σ d
 case dj n=>
  simp only[bi,Vv σ d hd n s];by_cases h1:s=d
  ·rw[if_pos h1,if_pos h1]
  ·rw[if_neg h1,if_neg h1];by_cases h2:1000<=s/\s%1000=d
   ·rw[if_pos h2];by_cases h3:s/1000<=n
    ·rw[if_pos ⟨h2.1,h2.2,h3⟩]
    ·rw[if_neg (fun x=>h3 x.2.2)];exact hv h2 (fun m hm=>by rw[abN]at hm;cases hm;exact h3)
   ·rw[if_neg h2,if_neg (fun x=>h2 ⟨x.1,x.2.1⟩)]
 all_goals
  simp only[bi];by_cases h1:s=d
  ·rw[if_pos h1,if_pos h1]
  ·rw[if_neg h1,if_neg h1];by_cases h2:1000<=s/\s%1000=d
   ·rw[if_pos h2];exact hv h2 (fun m hm=>by rw[abN]at hm;cases hm)
   ·rw[if_neg h2]
structure pb (X:Cx) (U:Nat->Prop) (J':Nat) (w:World) (ow:Nat->Ow) (w':World) (ap:Nat->Ow) (dst:Option Nat):Prop where
 z:Zs w ow w' ap
 other:∀b s q,dst≠some s->ow b=.own (.sl s) q->ap b=.own (.sl s) q/\w'.heap[b]?=w.heap[b]?
 low:∀b,ap b≠.no->b<w'.heap.size
 dw:∀b i q,ap b=.own (.ar i) q->i<J'
 grown:w.heap.size<=w'.heap.size
 no:∀b,b<w.heap.size->ow b=.no->ap b=.no/\w'.heap[b]?=w.heap[b]?
 os:w'.os=w.os
 output:w'.output=w.output
theorem Co {b:Nat} (hz:Zs w ow w' ap) (dK:∀b,b<w.heap.size->ow b=.no->ap b=.no/\w'.heap[b]?=w.heap[b]?) {w0:World}{ga:Nat->Ow}
  (hb:b<w.heap.size) (h:w.heap[b]?=w0.heap[b]?/\ow b=ga b) (hr:∀r q,ga b≠.own r q):w'.heap[b]?=w0.heap[b]?/\ap b=ga b:=by
 obtain⟨h1,h2⟩:=h;cases h3:ow b with
 |no=>obtain⟨h4,h5⟩:=dK b hb h3;exact⟨h5.trans h1,by rw[h4,<-h2,h3]⟩
 |z=>obtain⟨h4,h5⟩:=hz b h3;exact⟨h5.trans h1,by rw[h4,<-h2,h3]⟩
 |own r q=>rw[h3]at h2;exact absurd h2.symm (hr r q)
theorem zF (h:Rel X U J σ a w ow) {U':Nat->Prop} (hU:∀x,U x->U' x) {dst:Option Nat}{av:AV}{v:Value} (ht:pb X U J' w ow w' ap dst) (hd:∀d,dst=some d->d<X.n/\d∉X.cO)
  (bD:av.stamps U') (jf:∀c,av.rc=some c->¬U c.k.e)
  (iK:∀d,dst=some d->∀aj a',(∀r,dn U σ a w aj a' w' r)->cK X aj a' w' ap d av v):
  Rel X U' J' (yf σ dst av) (a.put dst v) w' ap/\∀r,dn U σ a w (yf σ dst av) (a.put dst v) w' r:=by
 cases dst with
 |none=>
  have dD:∀r,dn U σ a w σ a w' r:=fun r=>ph (h.slot r) rfl rfl ht.z (fun b q hb=>(ht.other b r q (by simp) hb).2);refine⟨⟨h.size,h.small,h.defers,fun s=>qg (h.slot s) (h.fh s) ht.z dD (fun b q hb=>ht.other b s q (by simp) hb),fun s=>AV.yq hU (h.fh s),
   ht.low,ht.dw,eQ h.grown ht.grown,fun b hb hr=>Co ht.z ht.no (iF hb h.grown) (h.same b hb hr) hr,ht.os.trans h.os,ht.output.trans h.output,h.cO,h.pR⟩,dD⟩
 |some d=>
  obtain⟨qt,Dc⟩:=hd d rfl;have kL:d<1000:=iF qt h.small;have As:d<a.tmps.size:=by rw[h.size];exact qt
  have de:=fun s=>tF h kL av s;have dD:∀r,dn U σ a w (kP σ d av) (a.put (some d) v) w' r:=fun r=>by
   by_cases h1:r=d
   ·subst h1;refine dn.fresh fun c hc=>?_;rw[de r,if_pos rfl]at hc;exact jf c hc
   ·by_cases h2:1000<=r/\r%1000=d
    ·refine dn.fresh fun c hc=>?_;rw[de r,if_neg h1,if_pos h2]at hc;simp[AV.rc]at hc
    ·exact ph (h.slot r) (by rw[de r,if_neg h1,if_neg h2]) (JQ h1 (fun x e=>h2 ⟨x,e⟩)) ht.z (fun b q hb=>(ht.other b r q (by simpa using Ne.symm h1) hb).2)
  refine⟨⟨by simp[Act.put,h.size],h.small,h.defers,fun s=>?_,fun s=>?_,ht.low,ht.dw,eQ h.grown ht.grown,
   fun b hb hr=>Co ht.z ht.no (iF hb h.grown) (h.same b hb hr) hr,ht.os.trans h.os,ht.output.trans h.output,fun i hi=>?_,fun s hs hu=>?_⟩,dD⟩
  ·show cK X (kP σ d av) (a.put (some d) v) w' ap s (kP σ d av s) (bL (a.put (some d) v) s);by_cases h1:s=d
   ·subst h1;rw[ZO As kL];rw[de s,if_pos rfl];exact iK s rfl _ _ dD
   ·by_cases h2:1000<=s/\s%1000=d
    ·rw[de s,if_neg h1,if_pos h2];trivial
    ·rw[de s,if_neg h1,if_neg h2,JQ h1 (fun x e=>h2 ⟨x,e⟩)];exact qg (h.slot s) (h.fh s) ht.z dD (fun b q hb=>ht.other b s q (by simpa using Ne.symm h1) hb)
  ·show AV.stamps _ (kP σ d av s);rw[de s];split
   ·exact bD
   ·split
    ·simp[AV.stamps]
    ·exact AV.yq hU (h.fh s)
  ·have:i≠d:=fun e=>Dc (e▸hi);simp only[Act.put];rw[Array.getElem?_setIfInBounds_ne (Ne.symm this)];exact h.cO i hi
  ·show ∃n,kP σ d av (s%1000)=.dj n/\s/1000<=n;have jz:kP σ d av s≠.u:=hu;rw[de s]at jz;have h1:s≠d:=by omega
   rw[if_neg h1]at jz;split at jz
   ·exact absurd rfl jz
   ·rename_i h2;obtain⟨n,h3,h4⟩:=h.pR s hs jz;refine⟨n,?_,h4⟩;rw[de,if_neg (fun e=>h2 ⟨hs,e⟩),if_neg (by omega)];exact h3
theorem pb.rfl (h:Rel X U J σ a w ow) (dst:Option Nat) (hJ:J<=J'):pb X U J' w ow w ow dst:=
 ⟨fun b hb=>⟨hb,Eq.refl _⟩,fun b s q _ hb=>⟨hb,Eq.refl _⟩,h.low,fun b i q hb=>iF (h.dw b i q hb) hJ,Nat.le_refl _,fun b _ hb=>⟨hb,Eq.refl _⟩,Eq.refl _,Eq.refl _⟩
end
section
variable {X:Cx}{U:Nat->Prop}{J J':Nat}{σ aj aX:St}{a a2:Act}{w w' w2:World}{ow ap aU:Nat->Ow}
def bJ (e x:Nat):Prop:=e<=x/\x<e+8
theorem bJ.self (e:Nat):bJ e e:=⟨Nat.le_refl _,by omega⟩
def Sound (X:Cx) (U:Nat->Prop) (a:Act) (w:World) (e:Nat) (o:Oper) (aj:St):Prop:=
 ∀(K:Act->World->Prop) (Q:Exit->Act->World->Prop),(∀a' w' ap J',Rel X (fun x=>U x\/bJ e x) J' aj a' w' ap->K a' w')->
  o.wp X.P a w K Q\/(o.asks X.P a w/\LetsOut Q)
theorem tG (h:Rel X U J σ a w ow) {e:Nat}{o:Oper}{v:Value}{av:AV} (hv:(execOp a.eval o).run X.P w=.ok (.value v) w') (ht:pb X U J' w ow w' ap o.dst)
  (hd:∀d,o.dst=some d->d<X.n/\d∉X.cO) (bD:av.stamps (fun x=>U x\/bJ e x)) (jf:∀c,av.rc=some c->c.k.e=e) (he:∀x,bJ e x->¬U x)
  (iK:∀d,o.dst=some d->∀aj a',(∀r,dn U σ a w aj a' w' r)->cK X aj a' w' ap d av v):Sound X U a w e o (yf σ o.dst av):=fun K Q hK=>by
 left;unfold Oper.wp;rw[hv,Oper.upon_value];exact hK _ _ _ _ (zF h (fun x hx=>.inl hx) ht hd bD (fun c hc=>he _ (jf c hc▸bJ.self _)) iK).1
def jE (X:Cx) (U:Nat->Prop) (σ:St) (a:Act) (w:World) (ow:Nat->Ow) (e:Nat) (v:Value):AV->Prop
 |.u=>True
 |.x t=>ay X.ae X.mv w ow none t [v]
 |.own k t=>k=⟨e,e,e⟩/\v=.slice none 0 0/\∃sz,t=.l .y sz []
 |.w r k p z lo n=>kz σ a w r k p z lo n v/\U k.e/\U k.h/\U k.d
 |.st cs=>∃vs:Array Value,v=.agg vs/\vs.toList.length=cs.length/\∀(j:Nat) c u,cs[j]?=some c->vs.toList[j]?=some u->match c with
   |.x t=>ay X.ae X.mv w ow none t [u]
   |.w r k p z lo n=>kz σ a w r k p z lo n u/\U k.e/\U k.h/\U k.d
 |.box _ _=>False
 |.ptr r k p off=>wE σ a w r k p off v/\U k.e/\U k.h/\U k.d
 |.fb g r k=>(∃u,v=.func (.func (X.ae g)) #[] #[u]/\wE σ a w r k [] 0 u)/\U k.e/\U k.h/\U k.d
 |.q t off=>∃b o vs,v=.pointer (some ⟨b,o+off,none⟩)/\ow b=.z/\At w b o vs/\ay X.ae X.mv w ow none t vs
 |.dj _=>False
theorem td {s:Nat}:∀(cs:List Cell) (j0:Nat) (vs:List Value),vs.length=cs.length->(∀(j:Nat) c v,cs[j]?=some c->vs[j]?=some v->lx X σ a w ow s (j0+j) c v)->o5 X σ a w ow s j0 cs vs
 |[],j0,vs,hl,_=>by simp only[o5];exact iY.1 hl
 |c::cs,j0,[],hl,_=>by simp at hl
 |c::cs,j0,v::vs,hl,h=>by
  simp only[o5];refine⟨v,vs,rfl,by simpa using h 0 c v rfl rfl,td cs (j0+1) vs (by simpa using hl) fun j c' u h1 h2=>?_⟩;have:=h (j+1) c' u (by simpa using h1) (by simpa using h2);rw[show j0+1+j=j0+(j+1) by omega];exact this
theorem WU {e:Nat}{v:Value}{av:AV} (hl:jE X U σ a w ow e v av) (hz:Zs w ow w' ap) {d:Nat} (hr:∀r,dn U σ a w aj a2 w' r):cK X aj a2 w' ap d av v:=by
 cases av<;>simp only[jE]at hl<;>simp only[cK]
 case x t=>exact cB hz t (c:=none) trivial hl
 case own k t=>
  obtain⟨_,rfl,sz,rfl⟩:=hl;exact⟨⟨_,_,_,rfl,rfl⟩,ki (.l .y sz []) _ _ (by simp[T.isConst]) (fun e=>by cases e) (fun _=>by simp)⟩
 case w r k p z lo n=>exact(hr r).yu hl.2.1 hl.2.2.1 hl.2.2.2 hl.1
 case st cs=>
  obtain⟨vs,rfl,hlen,hc⟩:=hl;refine⟨vs,rfl,td cs 0 vs.toList hlen fun j c u h1 h2=>?_⟩;have:=hc j c u h1 h2;cases c with
  |x t=>exact cB hz t (c:=none) (c':=some (.sl d,[0+j])) trivial this
  |w r k p z lo n=>exact(hr r).yu this.2.1 this.2.2.1 this.2.2.2 this.1
 case ptr r k p off=>exact(hr r).LH hl.2.1 hl.2.2.1 hl.2.2.2 hl.1
 case fb g r k=>exact hl.1.elim fun u hu=>⟨u,hu.1,(hr r).LH hl.2.1 hl.2.2.1 hl.2.2.2 hu.2⟩
 case q t off=>
  obtain⟨b,o,vs,rfl,hb,ha,h⟩:=hl;obtain⟨h1,h2⟩:=hz b hb;exact⟨b,o,vs,rfl,h1,ha.same h2,cB hz t (c:=none) trivial h⟩
theorem WV {e:Nat}{v:Value}{av:AV} (hl:jE X U σ a w ow e v av):av.stamps (fun x=>U x\/bJ e x):=by
 cases av<;>simp only[jE]at hl<;>simp only[AV.stamps]
 case own k t=>
  obtain⟨rfl,_⟩:=hl;exact⟨.inr (bJ.self _),.inr (bJ.self _),.inr (bJ.self _)⟩
 case w=>exact⟨.inl hl.2.1,.inl hl.2.2.1,.inl hl.2.2.2⟩
 case ptr=>exact⟨.inl hl.2.1,.inl hl.2.2.1,.inl hl.2.2.2⟩
 case fb=>exact⟨.inl hl.2.1,.inl hl.2.2.1,.inl hl.2.2.2⟩
 case st cs=>
  obtain⟨vs,rfl,hlen,hc⟩:=hl;intro c hm;obtain⟨j,hj⟩:=gZ.1 hm;have iA:=(bt.1 hj).1;have:=hc j c vs.toList[j] hj (by simp);cases c with
  |x t=>simp[Cell.stamps]
  |w r k p z lo n=>exact⟨.inl this.2.1,.inl this.2.2.1,.inl this.2.2.2⟩
theorem WT {e:Nat}{v:Value}{av:AV} (hl:jE X U σ a w ow e v av) (c:RC) (hc:av.rc=some c):c.k.e=e:=by
 cases av<;>simp only[jE]at hl<;>simp only[AV.rc,reduceCtorEq,aR]at hc;obtain⟨rfl,_⟩:=hl;subst hc;rfl
theorem jH (h:Rel X U J σ a w ow) {e:Nat}{o:Oper}{v:Value}{av:AV} (hv:(execOp a.eval o).run X.P w=.ok (.value v) w) (hd:∀d,o.dst=some d->d<X.n/\d∉X.cO) (he:∀x,bJ e x->¬U x)
  (hl:jE X U σ a w ow e v av) (aq:(dE o.dst av).run σ=some ((),aj)):Sound X U a w e o aj:=by
 rw[EV]at aq;simp only[aR,di,true_and]at aq;subst aq;exact tG h hv (pb.rfl h o.dst (Nat.le_refl _)) hd (WV hl) (WT hl) he fun d _ aj a' hr=>WU hl (fun b hb=>⟨hb,rfl⟩) hr
def qi (ow:Nat->Ow):Nat->Ow:=fun b=>match ow b with|.own _ _=>.z|o=>o
theorem Zp (B:List Nat):rQ ow B (qi ow):=⟨fun b hb=>by simp[qi,hb],fun r _ b q hb=>by simp[qi,hb]⟩
theorem Zjt (h:Rel X U J σ a w ow) {e:Nat}{x:aL}{v:Value}{av:AV} (hr:fw X U σ a w ow x v av) (nA:∀k cs,av≠.box k cs) (vV:∀n,av≠.dj n) (gN:∀k t,av=.own k t->k=⟨e,e,e⟩/\∃c,x=.k c)
  (bD:∀cs,av=.st cs->cs.any Cell.lY=false):jE X U σ a w ow e v av:=by
 cases av<;>simp only[fw]at hr<;>simp only[jE]
 case x t=>exact hr
 case own k t=>
  obtain⟨h1,c,rfl⟩:=gN k t rfl;obtain⟨sz,h2,h3⟩:=hr;exact⟨h1,h3,sz,h2⟩
 case w=>exact hr
 case st cs=>
  have dK:=bD cs rfl;cases x with
  |t s=>
   obtain⟨_,rfl,aV⟩:=hr;have hs:=h.slot s;rw[aV]at hs;simp only[cK]at hs;obtain⟨vs,he,hc⟩:=hs;obtain⟨hlen,gu⟩:=uK hc;refine⟨vs,he,hlen,fun j c u h1 h2=>?_⟩;have h3:=gu j c u h1 h2;have hm:=cS h1;have AQ:=h.fh s;rw[aV]at AQ;cases c with
   |x t=>
    simp only[lx]at h3;refine tw ?_ h3;cases ht:t.loose with
    |true=>rfl
    |false=>
     have:cs.any Cell.lY=true:=qN.2 ⟨_,hm,by simp[Cell.lY,ht]⟩;rw[dK]at this;cases this
   |w r k p z lo n=>
    simp only[lx]at h3;exact⟨h3,AQ _ hm⟩
  |k c=>
   obtain⟨ts,vs,rfl,rfl,hc⟩:=hr;refine⟨vs,rfl,by rw[wU _ _ hc];simp,fun j c' u h1 h2=>?_⟩;rw[iX]at h1;obtain⟨t,ht,rfl⟩:=jm.1 h1;obtain⟨h3,h4⟩:=Ee ts vs.toList j hc ht h2;refine ki t u none h3 (fun _ sz es e=>?_) h4;have:(ts.map Cell.x).any Cell.lY=true:=by
    rw[List.any_map];exact qN.2 ⟨t,cS ht,by subst e;rfl⟩
   rw[dK]at this;cases this
 case box k cs=>exact nA k cs rfl
 case ptr=>exact hr
 case fb=>exact hr
 case q=>exact hr
 case dj n=>exact vV n rfl
end
def LG (P:Program) (t:TypeId):Bool:=
 match P.underlying t with
 |some (.struct fs)=>(match fs.toList with
  |[f,g]=>f.name != "_" &&g.name != "_" &&f.offset==0&&g.offset==1&&
    (match P.underlying f.type,P.underlying g.type with|some (.int .i64),some (.int .i64)=>true|_,_=>false)
  |_=>false)&& !P.stoodInHeld t&& !P.eqGuardType P.depth t
 |_=>false
def P3 (P:Program) (t:TypeId):Bool:=match P.underlying t with|some .bool=>true|_=>false
def Bs.ok (P:Program) (t:TypeId):Bs->Bool
 |.o=>true
 |.b=>P3 P t
 |.p=>LG P t
section
variable {X:Cx}{U:Nat->Prop}{J J':Nat}{σ aj aX:St}{a a2:Act}{w w' w2:World}{ow ap aU:Nat->Ow}
theorem Zdw (h:Rel X U J σ a w ow) {x:aL}{v:AV}{val:Value}{t:T} (hr:fw X U σ a w ow x val v) (aq:(lX v).run σ=some (t,aj)):
  aj=σ/\(ay X.ae X.mv w (qi ow) none t [val]\/∃vs:Array Value,val=.agg vs/\ay X.ae X.mv w (qi ow) none t vs.toList):=by
 obtain⟨h1,h2⟩:=Cd h hr aq;refine⟨h1,?_⟩;have:=h2 (qi ow) X.mv (Zp _);cases v<;>simp only at this<;>first|exact .inl this|exact .inr this
theorem Pc (h:Rel X U J σ a w ow) {e:Nat}{x:aL}{o:Operand} (hx:x.is X.ae o=true) {t:T} (aq:(plain e x).run σ=some (t,aj)):
  aj=σ/\(∀k n,t=.i k n->a.eval o=.int k n)/\(∀b,t=.b b->a.eval o=.bool b)/\(∀s,t=.s s->a.eval o=.string s)/\(∀m n,t=.a [.i .i64 m,.i .i64 n]->a.eval o=.agg #[.int .i64 m,.int .i64 n]):=by
 unfold plain at aq;obtain⟨v,aZ,h1,h2⟩:=aW aq;obtain⟨rfl,cj⟩:=kn h hx h1;obtain⟨h3,h4⟩:=Cd h cj h2;have h5:=h4 (qi ow) X.mv (Zp _);refine⟨h3,?_,?_,?_,?_⟩
 rotate_left 3
 ·rintro m n rfl;cases v<;>simp only[ay,bZ]at h5<;>try simp at h5
  obtain⟨vs,hv,h6⟩:=h5;rw[hv,<-Array.toArray_toList (xs:=vs),h6]
 ·rintro k n rfl;cases v<;>simp only[ay]at h5<;>try simpa using h5
  obtain⟨ts,aX,h6,h7⟩:=aW h2;obtain⟨e,_⟩:=bS h7;cases e
 ·rintro b rfl;cases v<;>simp only[ay]at h5<;>try simpa using h5
  obtain⟨ts,aX,h6,h7⟩:=aW h2;obtain⟨e,_⟩:=bS h7;cases e
 ·rintro b rfl;cases v<;>simp only[ay]at h5<;>try simpa using h5
  obtain⟨ts,aX,h6,h7⟩:=aW h2;obtain⟨e,_⟩:=bS h7;cases e
def T.val:T->Value
 |.i k n=>.int k n
 |.b x=>.bool x
 |.s x=>.string x
 |_=>undef
theorem Zca {P:Program}{op:BinOp}{ty:TypeId}{k k':IntKind}{m n:Int}{r:T} (hb:q9 op .o (.i k m) (.i k' n)=some r):
  (binOp op ty (.int k m) (.int k' n)).run P w=.ok r.val w/\∀ae mv ow,ay ae mv w ow none r [r.val]:=by
 cases op<;>simp only[q9]at hb
 case shl=>
  by_cases hn:n<0
  ·simp[hn]at hb
  ·simp only[hn,if_false,aR]at hb;subst hb;exact⟨by simp[binOp,Op.shift,hn,T.val,Pure.pure,Sem.run],fun _ _ _=>by simp[ay,T.val]⟩
 case shr=>
  by_cases hn:n<0
  ·simp[hn]at hb
  ·simp only[hn,if_false,aR]at hb;subst hb;exact⟨by simp[binOp,Op.shift,hn,T.val,Pure.pure,Sem.run],fun _ _ _=>by simp[ay,T.val]⟩
 case quo=>
  by_cases hk:k=k'
  ·by_cases hn:n=0
   ·simp[hk,hn]at hb
   ·simp only[hk,hn,if_true,if_false,aR]at hb;subst hb hk;exact⟨by simp[binOp,Op.intDiv,hn,T.val,Pure.pure,Sem.run],fun _ _ _=>by simp[ay,T.val]⟩
  ·simp[hk]at hb
 case rem=>
  by_cases hk:k=k'
  ·by_cases hn:n=0
   ·simp[hk,hn]at hb
   ·simp only[hk,hn,if_true,if_false,aR]at hb;subst hb hk;exact⟨by simp[binOp,Op.intDiv,hn,T.val,Pure.pure,Sem.run],fun _ _ _=>by simp[ay,T.val]⟩
  ·simp[hk]at hb
 all_goals
  by_cases hk:k=k'
  ·simp only[hk,if_true,aR,reduceCtorEq]at hb
   try
    subst hb hk;exact⟨by simp[binOp,Op.intArith,Op.intBits,Op.intCmp,T.val,Pure.pure,Sem.run],fun _ _ _=>by simp[ay,T.val]⟩
  ·simp[hk]at hb
theorem Zqm {P:Program}{op:BinOp}{ty:TypeId}{m n:ByteArray}{r:T} (hb:q9 op .o (.s m) (.s n)=some r):
  (binOp op ty (.string m) (.string n)).run P w=.ok r.val w/\∀ae mv ow,ay ae mv w ow none r [r.val]:=by
 cases op<;>simp only[q9,reduceCtorEq]at hb
 case add=>
  by_cases hl:(m.size+n.size:Nat)<9223372036854775807
  ·rw[if_pos (by exact_mod_cast hl)]at hb;cases hb;have:¬(((m.size+n.size:Nat):Int)>IntKind.i64.max):=by
    have:IntKind.i64.max=9223372036854775807:=by decide
    rw[this];omega
   exact⟨by simp only[binOp,Op.stringOp,if_neg this,T.val,Pure.pure,Sem.run],fun _ _ _=>by simp[ay,T.val]⟩
  ·rw[if_neg (by exact_mod_cast hl)]at hb;cases hb
 all_goals
  cases hb;exact⟨by simp[binOp,Op.stringOp,T.val,Pure.pure,Sem.run],fun _ _ _=>by simp[ay,T.val]⟩
theorem bu {α β:Type}{P:Program}{s:Sem α}{f:α->Sem β}{x:α} (h:s.run P w=.ok x w'):(s>>=f).run P w=(f x).run P w':=by
 show(Sem.bind s f).run P w=_
 induction s generalizing w with
 |pure a=>simp only[Sem.run,Result.ok.injEq]at h;obtain⟨rfl,rfl⟩:=h;rfl
 |load m a k ih=>
  simp only[Sem.bind,Sem.run]at h⊢;split at h
  ·exact ih _ h
  ·split at h
   ·exact ih _ h
   ·cases h
 |store m a v k ih=>
  cases v<;>simp only[Sem.bind,Sem.run,reduceCtorEq]at h⊢;all_goals
   split at h
   ·split at h
    ·cases h
    ·rename_i h2;rw[if_neg h2];exact ih h
   ·split at h
    ·exact ih h
    ·cases h
 |new o k ih=>exact ih _ h
 |shape r k ih=>exact ih _ h
 |freeze a n k ih=>exact ih h
 |frozen a k ih=>exact ih _ h
 |getObj r k ih=>
  simp only[Sem.bind,Sem.run]at h⊢;split at h
  ·cases h
  ·exact ih _ h
  ·cases h
 |setObj r o k ih=>
  simp only[Sem.bind,Sem.run]at h⊢;split at h
  ·cases h
  ·exact ih h
  ·cases h
 |choose q k ih=>
  simp only[Sem.bind,Sem.run]at h⊢;split at h
  ·rename_i h2;rw[if_pos h2];exact ih _ h
  ·rename_i h2;rw[if_neg h2];exact ih _ h
 |sys c k ih=>exact ih _ h
 |program k ih=>exact ih _ h
 |mark m k ih=>exact ih h
 |halt x=>simp only[Sem.run]at h;cases h
theorem Z5k {P:Program}{ty:TypeId}{m n:Bool} (hu:P.underlying ty=some .bool) (d:Nat):(Op.equalIn (d+1) ty (.bool m) (.bool n)).run P w=.ok (m==n) w:=by
 unfold Op.equalIn;have:(underlying ty).run P w=.ok .bool w:=by simp[underlying,program,Bind.bind,Sem.bind,Sem.run,hu,Pure.pure]
 rw[bu this];rfl
theorem W3 {P:Program}{op:BinOp}{ty:TypeId}{m n:Bool}{r:T} (hg:P3 P ty=true) (hb:q9 op .b (.b m) (.b n)=some r):
  (binOp op ty (.bool m) (.bool n)).run P w=.ok r.val w/\∀ae mv ow,ay ae mv w ow none r [r.val]:=by
 unfold P3 at hg;split at hg
 ·rename_i hu;have he:(Op.equal ty (.bool m) (.bool n)).run P w=.ok (m==n) w:=Z5k hu 9999;cases op<;>simp only[q9,reduceCtorEq]at hb
  ·cases hb;exact⟨bu he,fun _ _ _=>by simp[ay,T.val]⟩
  ·cases hb;exact⟨bu he,fun _ _ _=>by simp[ay,T.val]⟩
 ·cases hg
theorem Zhg {P:Program}{ty:TypeId} (hg:LG P ty=true) (a1 a2 b1 b2:Int):P.eqGuardType P.depth ty=false/\(Op.equal ty (.agg #[.int .i64 a1,.int .i64 a2]) (.agg #[.int .i64 b1,.int .i64 b2])).run P w=.ok (a1==b1&&a2==b2) w:=by
 unfold LG at hg;split at hg
 ·rename_i fs hu;simp only[Y8,lC]at hg;obtain⟨⟨hf,bD⟩,hgt⟩:=hg;refine⟨hgt,?_⟩;split at hf
  ·rename_i f g hl;simp only[Y8,bne_iff_ne,ne_eq,beq_iff_eq]at hf;obtain⟨⟨⟨⟨tY,gK⟩,ho1⟩,ho2⟩,cn⟩:=hf;split at cn
   ·rename_i ub pA;have nD:P.fieldsOf ty=fs:=by simp[Program.fieldsOf,hu]
    have oK:P.plainKey f.type=true:=by simp[Program.plainKey,ub]
    have fk:P.plainKey g.type=true:=by simp[Program.plainKey,pA]
    show(Op.equalIn (9998+1+1) ty _ _).run P w=_;rw[run_equalIn_struct w (9998+1) ty _ _ (by rw[nD];exact hu) bD,nD,hl];simp only[Op.eqFields,tY,gK,ne_eq,not_false_eq_true,if_true,Sem.run_bind,ho1,ho2];rw[run_part_plain w oK (v:=.int .i64 a1) (by rfl)];simp only[Result.andThen_ok];rw[run_part_plain w oK (v:=.int .i64 b1) (by rfl)];simp only[Result.andThen_ok];rw[run_equalIn_int w 9998 f.type .i64 .i64 a1 b1 ub];simp only[Result.andThen_ok];by_cases h1:a1=b1
    ·subst h1;simp only[beq_self_eq_true,BM,cX,if_false,pX,Sem.run_bind];rw[run_part_plain w fk (v:=.int .i64 a2) (by rfl)];simp only[Result.andThen_ok];rw[run_part_plain w fk (v:=.int .i64 b2) (by rfl)];simp only[Result.andThen_ok];rw[run_equalIn_int w 9998 g.type .i64 .i64 a2 b2 pA];simp only[Result.andThen_ok];by_cases h2:a2=b2
     ·subst h2;simp[Sem.run,Pure.pure]
     ·simp[h2,Sem.run,Pure.pure]
    ·simp[h1,Sem.run,Pure.pure]
   ·cases cn
  ·cases hf
 ·cases hg
theorem Zhi {P:Program}{op:BinOp}{ty:TypeId}{x y:Operand}{a1 a2 b1 b2:Int}{r:T} (hg:LG P ty=true) (hb:q9 op .p (.a [.i .i64 a1,.i .i64 a2]) (.a [.i .i64 b1,.i .i64 b2])=some r):
  (Sem.run P (do eqGuard op ty x y (.agg #[.int .i64 a1,.int .i64 a2]) (.agg #[.int .i64 b1,.int .i64 b2]);binOp op ty (.agg #[.int .i64 a1,.int .i64 a2]) (.agg #[.int .i64 b1,.int .i64 b2])) w)=.ok r.val w/\∀ae mv ow,ay ae mv w ow none r [r.val]:=by
 obtain⟨h1,h2⟩:=Zhg (w:=w) hg a1 a2 b1 b2;have vD:(eqGuard op ty x y (.agg #[.int .i64 a1,.int .i64 a2]) (.agg #[.int .i64 b1,.int .i64 b2])).run P w=.ok () w:=by
  unfold eqGuard;cases op<;>first|rfl|(simp only[BM,cX,if_false,Sem.run_bind,run_program,Result.andThen_ok,h1,uA,if_true];rfl)
 rw[bu vD];cases op<;>simp only[q9,reduceCtorEq]at hb
 case eql=>
  cases hb;exact⟨by show(do pure (Value.bool (<-Op.equal ty _ _)):Sem Value).run P w=_;rw[bu h2];rfl,fun _ _ _=>by simp[ay,T.val]⟩
 case neq=>
  cases hb;exact⟨by show(do pure (Value.bool (!(<-Op.equal ty _ _))):Sem Value).run P w=_;rw[bu h2];rfl,fun _ _ _=>by simp[ay,T.val]⟩
theorem R2 {P:Program}{op:BinOp}{g:Bs}{ty:TypeId}{x y:Operand}{s t r:T}{u v:Value} (hg:g.ok P ty=true) (hb:q9 op g s t=some r)
  (hs:(∀k n,s=.i k n->u=.int k n)/\(∀b,s=.b b->u=.bool b)/\(∀z,s=.s z->u=.string z)/\(∀m n,s=.a [.i .i64 m,.i .i64 n]->u=.agg #[.int .i64 m,.int .i64 n]))
  (ht:(∀k n,t=.i k n->v=.int k n)/\(∀b,t=.b b->v=.bool b)/\(∀z,t=.s z->v=.string z)/\(∀m n,t=.a [.i .i64 m,.i .i64 n]->v=.agg #[.int .i64 m,.int .i64 n])):
  (Sem.run P (do eqGuard op ty x y u v;binOp op ty u v) w)=.ok r.val w/\∀ae mv ow,ay ae mv w ow none r [r.val]:=by
 have cU:=hb;unfold q9 at hb;split at hb
 ·rename_i k m k' n;obtain rfl:=hs.1 _ _ rfl;obtain rfl:=ht.1 _ _ rfl;have vD:eqGuard op ty x y (.int k m) (.int k' n)=pure ():=by
   unfold eqGuard;cases op<;>rfl
  rw[vD];exact Zca cU
 ·rename_i m n;obtain rfl:=hs.2.2.1 _ rfl;obtain rfl:=ht.2.2.1 _ rfl;have vD:eqGuard op ty x y (.string m) (.string n)=pure ():=by
   unfold eqGuard;cases op<;>rfl
  rw[vD];exact Zqm cU
 ·rename_i m n;obtain rfl:=hs.2.1 _ rfl;obtain rfl:=ht.2.1 _ rfl;have vD:eqGuard op ty x y (.bool m) (.bool n)=pure ():=by
   unfold eqGuard;cases op<;>rfl
  rw[vD];exact W3 hg cU
 ·rename_i a1 a2 b1 b2;obtain rfl:=hs.2.2.2 _ _ rfl;obtain rfl:=ht.2.2.2 _ _ rfl;exact Zhi hg cU
 ·cases hb
end
section
variable {X:Cx}{U:Nat->Prop}{J J':Nat}{σ aj aX:St}{a a2:Act}{w w' w2:World}{ow ap aU:Nat->Ow}
theorem Z7 (b o n:Nat):(⟨b,o,none⟩:Addr).add n=⟨b,o+n,none⟩:=by
 unfold Addr.add;split<;>simp_all
theorem JC {P:Program}{b o:Nat}:∀(n i:Nat) (acc:Array Value) (vs:List Value),At w b (o+i) vs->vs.length=n->
  (loadCellsFrom ⟨b,o,none⟩ i n acc).run P w=.ok (acc++vs.toArray) w
 |0,i,acc,vs,h,hl=>by
  have:vs=[]:=iY.1 hl;subst this;simp[loadCellsFrom,Pure.pure,Sem.run]
 |n+1,i,acc,[],h,hl=>by simp at hl
 |n+1,i,acc,v::vs,h,hl=>by
  obtain⟨h1,h2⟩:=h.cons;have h3:(Go.load ((⟨b,o,none⟩:Addr).add i)).run P w=.ok v w:=by
   rw[Z7];simp[Go.load,Sem.run,h1]
  unfold loadCellsFrom;rw[bu h3,JC n (i+1) (acc.push v) vs (by rw[<-fK];exact h2) (by simpa using hl)];simp
def nj (P:Program) (t:TypeId) (n:Nat):Bool:=match P.info? t with|some i=>i.size==n|none=>false
def pp (P:Program) (t:TypeId) (b:Bool):Bool:=
 match P.underlying t with
 |some (.struct _)=>b
 |some (.array _ _)=>b
 |some _=> !b
 |none=>false
theorem qX {P:Program}{t:TypeId}{n:Nat} (h:nj P t n=true):(sizeOf t).run P w=.ok n w:=by
 unfold nj at h;split at h
 ·rename_i i hi;simp at h;subst h;simp[sizeOf,typeInfo,program,Bind.bind,Sem.bind,Sem.run,hi,Pure.pure]
 ·cases h
theorem Yp {P:Program}{t:TypeId}{b:Bool} (h:pp P t b=true):(isAgg t).run P w=.ok b w:=by
 unfold pp at h;split at h
 ·rename_i fs hi;subst h;simp[isAgg,underlying,program,Bind.bind,Sem.bind,Sem.run,hi,Pure.pure]
 ·rename_i m e hi;subst h;simp[isAgg,underlying,program,Bind.bind,Sem.bind,Sem.run,hi,Pure.pure]
 ·rename_i d h1 h2 hi;simp at h;subst h;have:(underlying t).run P w=.ok d w:=by simp[underlying,program,Bind.bind,Sem.bind,Sem.run,hi,Pure.pure]
  unfold isAgg;rw[bu this];split
  ·exact absurd rfl (h1 _)
  ·exact absurd rfl (h2 _ _)
  ·rfl
 ·cases h
theorem Py {P:Program}{t:TypeId}{b o:Nat}{v:Value} (h:pp P t false=true) (hc:w.cell? ⟨b,o,none⟩=some v):(loadVar t ⟨b,o,none⟩).run P w=.ok v w:=by
 unfold loadVar;rw[bu (Yp h)];simp[Go.load,Sem.run,hc]
theorem Pz {P:Program}{t:TypeId}{b o n:Nat}{vs:List Value} (h:pp P t true=true) (hs:nj P t n=true) (hc:At w b o vs) (hl:vs.length=n):
  (loadVar t ⟨b,o,none⟩).run P w=.ok (.agg vs.toArray) w:=by
 unfold loadVar;rw[bu (Yp h)];simp only[if_true];rw[bu (qX hs)];have:=JC (P:=P) (w:=w) n 0 #[] vs (by simpa using hc) hl;unfold loadCells;rw[bu this];simp[Pure.pure,Sem.run]
def N7 (X:Cx) (U:Nat->Prop) (σ:St) (a:Act) (w:World) (ow:Nat->Ow):Cell->Value->Prop
 |.x t,u=>ay X.ae X.mv w ow none t [u]
 |.w r k p z lo n,u=>kz σ a w r k p z lo n u/\U k.e/\U k.h/\U k.d
theorem Po {c:Loc}{cs:List T}{vs:List Value} (h:ay X.ae X.mv w ow c (.a cs) vs) {j:Nat}{t:T} (ht:cs[j]?=some t):∃v,vs[j]?=some v/\ay X.ae X.mv w ow (c.push j) t [v]:=by
 simp only[ay]at h;have:=kT h ht;rw[db]at this;exact this
theorem O4:∀(p:List Nat) (t:T) {m:T} (k:Nat),t.aM p=some m->t.aM (p++[k])=m.bA k
 |[],t,m,k,h=>by
  simp only[T.aM,aR]at h;subst h;simp only[eC,T.aM];cases t.bA k<;>rfl
 |j::p,t,m,k,h=>by
  simp only[gf,T.aM]at h⊢;obtain⟨c,h1,h2⟩:=gG.1 h;rw[h1];exact O4 p c k h2
theorem IY:∀(p:List Nat) (t:T) {cs:List T}{t':T}{b o b' o':Nat} (k:Nat),t.aM p=some (.a cs)->cs[k]?=some t'->cE w t b o p=some (b',o')->
  cE w t b o (p++[k])=some (b',o'+k)
 |[],t,cs,t',b,o,b',o',k,h,hk,hl=>by
  simp only[T.aM,aR]at h;subst h;have kr:(b,o)=(b',o'):=by simpa[cE]using hl
  obtain⟨rfl,rfl⟩:=Prod.mk.inj kr;simp only[eC,cE,hk]
 |j::p,t,cs,t',b,o,b',o',k,h,hk,hl=>by
  simp only[T.aM]at h;obtain⟨c,h1,h2⟩:=gG.1 h;cases t<;>simp only[T.bA,reduceCtorEq]at h1
  case a cs0=>
   simp only[cE,h1,gf]at hl⊢;exact IY p c k h2 hk hl
  case l ob sz es=>
   simp only[cE,h1,gf]at hl⊢;split at hl
   ·rename_i ad N C t2 iL xG;cases xG;exact IY p c k h2 hk hl
   ·cases hl
theorem Xz {c:RC}{v:Value}{p:List Nat}{cs:List T}{t':T}{b o k:Nat} (hn:c.t.aM p=some (.a cs)) (hk:cs[k]?=some t') (hp:place w c v p=some (b,o)):
  place w c v (p++[k])=some (b,o+k):=by
 unfold place at hp⊢;split at hp
 ·rename_i ad vE;exact IY p c.t k hn hk hp
 ·rename_i A N C vE;cases p with
  |nil=>
   simp only[T.aM,aR]at hn;rw[hn]at hp;simp[eY]at hp
  |cons i p=>
   simp only[T.aM]at hn;obtain⟨t1,h1,h2⟩:=gG.1 hn;obtain⟨ib,kk,t⟩:=c;simp only at hn h1 hp⊢;cases t<;>simp only[T.bA,reduceCtorEq]at h1
   ·simp[eY]at hp
   ·cases A with
    |none=>simp[eY]at hp
    |some ad=>
     simp only[eY,h1,gf]at hp⊢;exact IY p t1 k h2 hk hp
 ·cases hp
theorem JE (h:Rel X U J σ a w ow) {r:Nat}{c:RC} (hc:(σ r).rc=some c) {p:List Nat}{o:Ob}{sz:Nat}{es:List T} (hn:c.t.aM p=some (.l o sz es)) (hp:c.dh=true\/p≠[])
  {b o':Nat}{v:Value} (fA:place w c (bL a r) p=some (b,o')) (dR:w.cell? ⟨b,o',none⟩=some v):kz σ a w r c.k p sz 0 es.length v:=by
 have hh:fE w c (bL a r) p=some v:=by
  unfold fE;rw[if_neg (by
   rcases hp with hp|hp
   ·simp[hp]
   ·cases p<;>simp at hp⊢),fA]
  exact dR
 obtain⟨hv,h1,h2⟩:=xd (w:=w) hc (h.slot r) hn;rw[hh]at h1;cases h1;obtain⟨A,C,he,hQ,ei⟩:=mO h2;simp only[fq,and_true]at he;subst he;refine⟨⟨A,C,rfl,hQ,fun h0=>?_⟩,fun c' cN _=>?_⟩
 ·obtain⟨ad,cap,iL,_,dg,_⟩:=oo h2 (by intro e;subst e;simp at h0);simp only[fq,Value.slice.injEq,and_true]at iL;obtain⟨b,o,spot⟩:=ad;simp only at dg;subst dg;exact⟨b,o,iL.1⟩
 ·rw[hc]at cN;cases cN;refine⟨fun cs fX=>(by rw[hn]at fX;cases fX),fun o2 nQ bQ gK A2 N2 C2 lS=>?_⟩;rw[hn]at gK;cases gK;rw[hh]at lS;cases lS;exact⟨rfl,by omega,A,_,C,A,C,rfl,rfl,hQ,by omega,.inl ⟨rfl,.inl rfl⟩,fun _ _=>rfl⟩
theorem YE (h:Rel X U J σ a w ow) {r:Nat}{c:RC} (hc:(σ r).rc=some c) {p:List Nat}{node:T} (hn:c.t.aM p=some node) (hp:c.dh=true\/p≠[])
  {b o:Nat}{vs:List Value} (fA:place w c (bL a r) p=some (b,o)) (ha:At w b o vs) (cJ:ay X.ae X.mv w ow (c.t.fF (some (.sl r,[])) p) node vs) {off:Nat}{t:T} (ht:node.cells[off]?=some t):
  ∃v,vs[off]?=some v/\N7 X U σ a w ow (seen r c.k p off node t) v:=by
 have bD:U c.k.e/\U c.k.h/\U c.k.d:=by
  have:=h.fh r;rcases ju hc with⟨_,cs,_,aV⟩|⟨_,aV⟩<;>rw[aV]at this<;>exact this
 by_cases lh:∃cs,node=.a cs
 ·obtain⟨cs,rfl⟩:=lh;simp only[T.cells]at ht;obtain⟨v,hv,hr⟩:=Po cJ ht;refine⟨v,hv,?_⟩;have dR:=ha off v hv;cases t
  case l ob sz es=>
   cases ob with
   |n=>exact tw (by rfl) hr
   |y=>exact⟨JE h hc (by rw[O4 p c.t off hn];exact ht) (.inr (by simp)) (Xz hn ht fA) dR,bD⟩
   |m k=>exact⟨JE h hc (by rw[O4 p c.t off hn];exact ht) (.inr (by simp)) (Xz hn ht fA) dR,bD⟩
  case a cA=>
   have:=xb _ hr;simpa[seen,N7,ay]using this
  all_goals exact tw (by rfl) hr
 ·have eu:node.cells=[node]:=by cases node<;>first|rfl|exact absurd ⟨_,rfl⟩ lh
  rw[eu]at ht;have gW:=xc cJ (fun cs e=>lh ⟨cs,e⟩);obtain⟨v,rfl⟩:=s7.1 gW;cases off with
  |succ off=>simp at ht
  |zero=>
   simp at ht;subst ht;refine⟨v,rfl,?_⟩;have dR:=(ha.cons).1;cases node
   case l ob sz es=>
    cases ob with
    |n=>exact tw (by rfl) cJ
    |y=>exact⟨JE h hc hn hp fA dR,bD⟩
    |m k=>exact⟨JE h hc hn hp fA dR,bD⟩
   case a cA=>exact absurd ⟨_,rfl⟩ lh
   all_goals exact tw (by rfl) cJ
end
section
variable {X:Cx}{U:Nat->Prop}{J J':Nat}{σ aj aX:St}{a a2:Act}{w w' w2:World}{ow ap aU:Nat->Ow}
theorem Z8 (h:Rel X U J σ a w ow) {e:Nat}{x:aL}{o:Operand} (hx:x.is X.ae o=true) {av:AV} (aq:(addr e x).run σ=some (av,aj)):
  aj=σ/\jE X U σ a w ow e (a.eval o) av/\((∃r k p off,av=.ptr r k p off)\/∃t off,av=.q t off):=by
 unfold addr at aq;obtain⟨v,aZ,h1,h2⟩:=aW aq;obtain⟨rfl,cj,mq,nH⟩:=uO h hx h1;clear mq nH;cases v<;>try simp only[Pg.run,reduceCtorEq]at h2
 case x t=>
  cases t<;>simp only[Pg.run,reduceCtorEq]at h2;obtain⟨rfl,rfl⟩:=bS h2;simp only[fw,ay]at cj;obtain⟨b,aG,ty,fr,he,hb,hh,hr⟩:=cj;simp only[fq,and_true]at he;exact⟨rfl,⟨b,0,aG.toList,by simpa using he,hb,uI hh,hr⟩,.inr ⟨_,_,rfl⟩⟩
 case ptr r k p off=>
  obtain⟨rfl,rfl⟩:=bS h2;exact⟨rfl,cj,.inl ⟨_,_,_,_,rfl⟩⟩
 case q t off=>
  obtain⟨rfl,rfl⟩:=bS h2;exact⟨rfl,cj,.inr ⟨_,_,rfl⟩⟩
theorem U8 {b o:Nat}{vs:List Value} (h:At w b o vs) (off n:Nat):At w b (o+off) (sub vs off n):=fun j v hv=>by
 rw[xf]at hv;split at hv
 ·rw[fK];exact h _ _ hv
 ·cases hv
theorem PE {r:Nat}{k:K}{p:List Nat}{node:T}:∀(ts:List T) (off j:Nat),(seenCells r k p node off ts)[j]?=(ts[j]?).map (seen r k p (off+j) node)
 |[],off,j=>by simp[seenCells]
 |t::ts,off,j=>by
  cases j with
  |zero=>simp[seenCells]
  |succ j=>
   simp only[seenCells,wN];rw[PE ts (off+1) j,show off+1+j=off+(j+1) by omega]
theorem Z3 {e:Nat}{c:Cell}{v:Value} (h:N7 X U σ a w ow c v):jE X U σ a w ow e v c.av:=by
 cases c<;>exact h
theorem WR (h:Rel X U J σ a w ow) {e:Nat}{agg:Option Nat}{x:aL}{o:Operand} (hx:x.is X.ae o=true) {t:TypeId}
  (cn:match agg with|none=>pp X.P t false=true|some n=>pp X.P t true=true/\nj X.P t n=true) {av:AV} (aq:(load e agg x).run σ=some (av,aj)):
  aj=σ/\∃v,(Instr.loadAt t (a.eval o)).run X.P w=.ok v w/\jE X U σ a w ow e v av:=by
 unfold load at aq;obtain⟨ad,aZ,h1,h2⟩:=aW aq;obtain⟨rfl,hl,kK⟩:=Z8 h hx h1;rcases kK with⟨r,k,p,off,rfl⟩|⟨t0,off,rfl⟩
 ·simp only at h2;obtain⟨c,aX,h3,h4⟩:=aW h2;obtain⟨rfl,hc,hk,hp⟩:=ER h3;cases hn:c.t.aM p with
  |none=>simp[hn,Pg.run]at h4
  |some node=>
   simp only[hn]at h4;obtain⟨b,o',vs,fA,de,cJ⟩:=Jx (w:=w) hc (h.slot r) hn hp;have hv:=hl.1.2 c hc hk _ fA;rw[hv];cases agg with
   |none=>
    simp only at h4 cn;cases ht:node.cells[off]? with
    |none=>simp[ht,Pg.run]at h4
    |some t1=>
     simp only[ht]at h4;obtain⟨rfl,rfl⟩:=bS h4;obtain⟨v,AS,KM⟩:=YE h hc hn hp fA de cJ ht;refine⟨rfl,v,?_,Z3 KM⟩;show((Instr.sureAddr _)>>=fun a=>loadVar t a).run X.P w=_;rw[bu (x:=⟨b,o'+off,none⟩) (w':=w) rfl];exact Py cn (de off v AS)
   |some n=>
    simp only at h4 cn;cases node<;>simp only[Pg.run,reduceCtorEq]at h4;rename_i cs;split at h4
    ·rename_i hle;obtain⟨rfl,rfl⟩:=bS h4;have dC:vs.length=cs.length:=by
      have pz:=cJ;simp only[ay]at pz;exact ol pz
     refine⟨rfl,.agg (sub vs off n).toArray,?_,?_⟩
     ·show((Instr.sureAddr _)>>=fun a=>loadVar t a).run X.P w=_;rw[bu (x:=⟨b,o'+off,none⟩) (w':=w) rfl];exact Pz cn.1 cn.2 (U8 de off n) (tH _ _ _ (by omega))
     ·refine⟨_,rfl,?_,fun j c' u hj hu=>?_⟩
      ·have:(seenCells r c.k p (.a cs) off (sub cs off n)).length=n:=by
        have hlen:=PE (r:=r) (k:=c.k) (p:=p) (node:=.a cs) (sub cs off n) off;have h5:(seenCells r c.k p (.a cs) off (sub cs off n)).length=(sub cs off n).length:=by
         refine Nat.le_antisymm (Nat.not_lt.1 fun aF=>?_) (Nat.not_lt.1 fun aF=>?_)
         ·have:=hlen (sub cs off n).length;rw[bF aF,pe (Nat.le_refl _)]at this;cases this
         ·have:=hlen (seenCells r c.k p (.a cs) off (sub cs off n)).length;rw[pe (Nat.le_refl _),bF aF]at this;cases this
        rw[h5,tH _ _ _ hle]
       rw[this];simp[tH vs off n (by omega)]
      ·rw[PE]at hj;obtain⟨t1,iP,rfl⟩:=jm.1 hj;rw[xf]at iP;split at iP
       ·rename_i nG;obtain⟨v,AS,KM⟩:=YE h hc hn hp fA de cJ (off:=off+j) iP;have jz:u=v:=by
         simp only[List.toList_toArray]at hu;rw[xf,if_pos nG,AS]at hu;exact(Option.some.inj hu).symm
        subst jz
        revert KM
        cases seen r c.k p (off+j) (.a cs) t1<;>exact id
       ·cases iP
    ·simp[Pg.run]at h4
 ·simp only at h2;obtain⟨b,o',vs,hv,hb,de,cJ⟩:=hl;rw[hv];cases agg with
  |none=>
   simp only at h2 cn;cases ht:t0.cells[off]? with
   |none=>simp[ht,Pg.run]at h2
   |some t1=>
    simp only[ht]at h2;obtain⟨rfl,rfl⟩:=bS h2;obtain⟨v,AS,dO⟩:∃v,vs[off]?=some v/\ay X.ae X.mv w ow none t1 [v]:=by
     by_cases lh:∃cs,t0=.a cs
     ·obtain⟨cs,rfl⟩:=lh;exact Po cJ ht
     ·have eu:t0.cells=[t0]:=by cases t0<;>first|rfl|exact absurd ⟨_,rfl⟩ lh
      rw[eu]at ht;have gW:=xc cJ (fun cs e=>lh ⟨cs,e⟩);obtain⟨v,rfl⟩:=s7.1 gW;cases off with
      |succ off=>simp at ht
      |zero=>simp at ht;subst ht;exact⟨v,rfl,cJ⟩
    refine⟨rfl,v,?_,dO⟩;show((Instr.sureAddr _)>>=fun a=>loadVar t a).run X.P w=_;rw[bu (x:=⟨b,o'+off,none⟩) (w':=w) rfl];exact Py cn (de off v AS)
  |some n=>
   simp only at h2 cn;split at h2
   ·rename_i hle;obtain⟨rfl,rfl⟩:=bS h2;have dC:vs.length=t0.cells.length:=by
     cases t0<;>first|exact xc cJ (fun cs e=>by cases e)|skip
     have pz:=cJ;simp only[ay]at pz;exact ol pz
    refine⟨rfl,.agg (sub vs off n).toArray,?_,?_⟩
    ·show((Instr.sureAddr _)>>=fun a=>loadVar t a).run X.P w=_;rw[bu (x:=⟨b,o'+off,none⟩) (w':=w) rfl];exact Pz cn.1 cn.2 (U8 de off n) (tH _ _ _ (by omega))
    ·refine⟨_,rfl,by simp[tH vs off n (by omega),tH t0.cells off n hle],fun j c' u hj hu=>?_⟩;rw[iX]at hj;obtain⟨t1,iP,rfl⟩:=jm.1 hj;simp only[List.toList_toArray]at hu;rw[xf]at iP hu;split at iP
     ·rename_i nG;rw[if_pos nG]at hu;by_cases lh:∃cs,t0=.a cs
      ·obtain⟨cs,rfl⟩:=lh;obtain⟨v,gW,dO⟩:=Po cJ iP;rw[hu]at gW;cases gW;exact dO
      ·have eu:t0.cells=[t0]:=by cases t0<;>first|rfl|exact absurd ⟨_,rfl⟩ lh
       rw[eu]at iP;have gW:=xc cJ (fun cs e=>lh ⟨cs,e⟩);obtain⟨v,rfl⟩:=s7.1 gW;cases u4:off+j with
       |succ m=>rw[u4]at iP;simp at iP
       |zero=>
        rw[u4]at iP hu;simp at iP hu;subst iP hu;exact cJ
     ·cases iP
   ·simp[Pg.run]at h2
end
theorem jG {P:Program}{w w':World}{s:Sem Value}{v:Value} (h:s.run P w=.ok v w'):(do pure (.value (<-s)):Sem Next).run P w=.ok (.value v) w':=by
 rw[bu h];rfl
theorem jF {P:Program}{w:World}{t:TypeId}{d:TypeDesc} (h:P.underlying t=some d):(underlying t).run P w=.ok d w:=by
 simp[underlying,program,Bind.bind,Sem.bind,Sem.run,h,Pure.pure]
def Qa (P:Program) (s:TypeId) (f off:Nat):Bool:=
 match P.underlying s with
 |some (.struct fs)=>(match fs[f]? with
  |some fd=>fd.offset==off&&(match P.info? fd.type with|some i=>i.size !=0|none=>false)
  |none=>false)
 |_=>false
def xn (P:Program) (t:TypeId) (sz:Nat):Bool:=
 match P.underlying t with
 |some (.slice e)=>nj P e sz
 |_=>false
section
variable {X:Cx}{U:Nat->Prop}{J J':Nat}{σ aj aX:St}{a a2:Act}{w w' w2:World}{ow ap aU:Nat->Ow}{e:Nat}{o:Oper}
def eW (X:Cx) (o:Oper):Prop:=∀d,o.dst=some d->d<X.n/\d∉X.cO
theorem VR (h:Rel X U J σ a w ow) (hd:eW X o) (he:∀x,bJ e x->¬U x) {agg:Option Nat}{x:aL}{y:Operand} (hx:x.is X.ae y=true) {t:TypeId}
  (cn:match agg with|none=>pp X.P t false=true|some n=>pp X.P t true=true/\nj X.P t n=true) (bl:o.op=.load t y)
  (aq:(exec e o.dst (.ld agg x)).run σ=some ((),aj)):Sound X U a w e o aj:=by
 obtain⟨av,aZ,h1,h2⟩:=aW aq;obtain⟨rfl,v,hv,hl⟩:=WR h hx cn h1;refine jH h ?_ hd he hl h2;simp only[execOp,bl];exact jG hv
theorem Zef (h:Rel X U J σ a w ow) {x:aL}{y:Operand} (hx:x.is X.ae y=true) {av:AV} (aq:(look e x).run σ=some (av,aj)) (vV:∀n,av≠.dj n) (bD:∀cs,av=.st cs->cs.any Cell.lY=false):
  aj=σ/\jE X U σ a w ow e (a.eval y) av:=by
 obtain⟨rfl,cj,mq,nH⟩:=uO h hx aq;refine⟨rfl,Zjt h cj nH vV (fun k t tn=>?_) bD⟩;obtain⟨c,rfl⟩:=mq k t tn;refine⟨?_,c,rfl⟩;simp only[look]at aq;obtain⟨h1,_⟩:=bS aq;rw[tn]at h1;unfold sd at h1;split at h1<;>cases h1;rfl
theorem Z72 (h:Rel X U J σ a w ow) (hd:eW X o) (he:∀x,bJ e x->¬U x) {c x y:aL}{c' x' y':Operand} (hc:c.is X.ae c'=true) (hx:x.is X.ae x'=true) (hy:y.is X.ae y'=true) (bl:o.op=.pick c' x' y')
  (aq:(exec e o.dst (.pick c x y)).run σ=some ((),aj)):Sound X U a w e o aj:=by
 obtain⟨av,aZ,h1,h2⟩:=aW aq;obtain⟨rfl,cj⟩:=kn h hc h1;cases av<;>try simp only[Pg.run,reduceCtorEq]at h2
 rename_i t;cases t<;>try simp only[Pg.run,reduceCtorEq]at h2
 rename_i b;obtain⟨v,aX,h3,h4⟩:=aW h2;have hb:a.eval c'=.bool b:=by simpa[fw,ay]using cj
 have hz:(if b then x else y).is X.ae (if b then x' else y')=true:=by cases b<;>simpa
 obtain⟨rfl,aof⟩:=kn h hz h3;cases v<;>try simp only[Pg.run,reduceCtorEq]at h4
 rename_i t;refine jH h (v:=a.eval (if b then x' else y')) (av:=.x t) ?_ hd he aof h4;simp only[execOp,bl,hb];cases b<;>rfl
theorem Z6c (h:Rel X U J σ a w ow) (hd:eW X o) (he:∀x,bJ e x->¬U x) {op:BinOp}{g:Bs}{x y:aL}{x' y':Operand}{t t2:TypeId} (hx:x.is X.ae x'=true) (hy:y.is X.ae y'=true) (hg:g.ok X.P t=true)
  (bl:o.op=.binOp op t x' y' t2) (aq:(exec e o.dst (.bin op g x y)).run σ=some ((),aj)):Sound X U a w e o aj:=by
 obtain⟨s,aZ,h1,h2⟩:=aW aq;obtain⟨rfl,hs⟩:=Pc h hx h1;obtain⟨s2,aX,h3,h4⟩:=aW h2;obtain⟨rfl,gP⟩:=Pc h hy h3;cases hb:q9 op g s s2 with
 |none=>simp[hb,Pg.run]at h4
 |some r=>
  simp only[hb]at h4;obtain⟨h5,h6⟩:=R2 (w:=w) (P:=X.P) (x:=x') (y:=y') hg hb hs gP;refine jH h (v:=r.val) (av:=.x r) ?_ hd he (h6 _ _ _) h4;simp only[execOp,bl];exact jG h5
theorem Z76 (h:Rel X U J σ a w ow) (hd:eW X o) (he:∀x,bJ e x->¬U x) {op:UnOp}{x:aL}{x':Operand}{t:TypeId} (hx:x.is X.ae x'=true) (bl:o.op=.unOp op t x')
  (aq:(exec e o.dst (.un op x)).run σ=some ((),aj)):Sound X U a w e o aj:=by
 obtain⟨s,aZ,h1,h2⟩:=aW aq;obtain⟨rfl,hs⟩:=Pc h hx h1;cases hb:Uw op s with
 |none=>simp[hb,Pg.run]at h2
 |some r=>
  simp only[hb]at h2;unfold Uw at hb;split at hb
  ·rename_i m;cases hb;have hv:=hs.2.1 _ rfl;refine jH h (v:=.bool !m) (av:=.x (.b !m)) ?_ hd he (by simp[jE,ay]) h2;simp only[execOp,bl,hv];rfl
  ·rename_i k n;cases hb;have hv:=hs.1 _ _ rfl;refine jH h (v:=.int k (k.wrap (0-n))) (av:=.x (.i k (k.wrap (0-n)))) ?_ hd he (by simp[jE,ay]) h2;simp only[execOp,bl,hv];simp[Op.unary,Op.intArith,Bind.bind,Pure.pure,Sem.bind,Sem.run]
  ·cases hb
def P6 (P:Program) (s d:TypeId) (k:IntKind):Bool:=
 match P.underlying s,P.underlying d with
 |some _,some (.int k')=>k==k'
 |_,_=>false
theorem Z6k (h:Rel X U J σ a w ow) (hd:eW X o) (he:∀x,bJ e x->¬U x) {k:IntKind}{x:aL}{x':Operand}{s t:TypeId} (hx:x.is X.ae x'=true) (hg:P6 X.P s t k=true) (bl:o.op=.convert s t x')
  (aq:(exec e o.dst (.J6 k x)).run σ=some ((),aj)):Sound X U a w e o aj:=by
 obtain⟨av,aZ,h1,h2⟩:=aW aq;obtain⟨rfl,cj⟩:=kn h hx h1;cases av<;>try simp only[Pg.run,reduceCtorEq]at h2
 rename_i t;cases t<;>try simp only[Pg.run,reduceCtorEq]at h2
 rename_i k0 n;have hv:a.eval x'=.int k0 n:=by simpa[fw,ay]using cj
 unfold P6 at hg;split at hg
 ·rename_i d1 k' h3 h4;simp at hg;subst hg;refine jH h (v:=.int k (k.wrap n)) (av:=.x (.i k (k.wrap n))) ?_ hd he (by simp[jE,ay]) h2;simp only[execOp,bl,hv];refine jG ?_;unfold convert;rw[bu (jF h3),bu (jF h4)];rfl
 ·cases hg
theorem Z6o (h:Rel X U J σ a w ow) (hd:eW X o) (he:∀x,bJ e x->¬U x) {off f:Nat}{x:aL}{x':Operand}{s:TypeId} (hx:x.is X.ae x'=true) (hg:Qa X.P s f off=true) (bl:o.op=.fieldAddr s x' f)
  (aq:(exec e o.dst (.fa x off)).run σ=some ((),aj)):Sound X U a w e o aj:=by
 obtain⟨av,aZ,h1,h2⟩:=aW aq;obtain⟨rfl,hl,kK⟩:=Z8 h hx h1;have abq:∀b o2,a.eval x'=.pointer (some ⟨b,o2,none⟩)->(execOp a.eval o).run X.P w=.ok (.value (.pointer (some ⟨b,o2+off,none⟩))) w:=fun b o2 hv=>by
  unfold Qa at hg;split at hg
  ·rename_i fs hu;split at hg
   ·rename_i fd hf;simp only[Y8,beq_iff_eq]at hg;obtain⟨rfl,fp⟩:=hg;split at fp
    ·rename_i i hi;simp at fp;simp only[execOp,bl,hv];refine jG ?_;unfold Instr.fieldAt;rw[bu (jF hu)];simp only[hf];have hs:nj X.P fd.type i.size=true:=by simp[nj,hi]
     show((Instr.sureAddr _)>>=fun a=>do pure (Value.pointer (some (<-fieldPlace a fd)))).run X.P w=_;rw[bu (x:=⟨b,o2,none⟩) (w':=w) rfl];have:(fieldPlace ⟨b,o2,none⟩ fd).run X.P w=.ok ⟨b,o2+fd.offset,none⟩ w:=by
      unfold fieldPlace;rw[bu (qX hs),if_neg fp,Z7];rfl
     rw[bu this];rfl
    ·cases fp
   ·cases hg
  ·cases hg
 rcases kK with⟨r,k,p,o1,rfl⟩|⟨t0,o1,rfl⟩
 ·simp only at h2;obtain⟨⟨⟨b,o2,hv⟩,hp⟩,bD⟩:=hl;refine jH h (abq b o2 hv) hd he (av:=.ptr r k p (o1+off)) ⟨⟨⟨_,_,rfl⟩,fun c hc hk bo eF=>?_⟩,bD⟩ h2;have:=hp c hc hk bo eF;rw[hv]at this;simp only[Value.pointer.injEq,aR,Addr.mk.injEq,and_true]at this;obtain⟨rfl,rfl⟩:=this;rw[fK]
 ·simp only at h2;obtain⟨b,o2,vs,hv,hz,ha,hr⟩:=hl;exact jH h (abq b _ hv) hd he (av:=.q t0 (o1+off)) ⟨b,o2,vs,by rw[fK],hz,ha,hr⟩ h2
theorem Z71 (h:Rel X U J σ a w ow) (hd:eW X o) (he:∀x,bJ e x->¬U x) {x:aL}{x':Operand} (hx:x.is X.ae x'=true) (bl:o.op=.nilCheck x')
  (aq:(exec e o.dst (.qE x)).run σ=some ((),aj)):Sound X U a w e o aj:=by
 obtain⟨av,aZ,h1,h2⟩:=aW aq;obtain⟨rfl,cj,mq,nH⟩:=uO h hx h1;clear mq nH;cases av<;>try simp only[Pg.run,reduceCtorEq]at h2
 case ptr r k p off=>
  obtain⟨⟨⟨b,o2,hv⟩,hp⟩,bD⟩:=cj;refine jH h (v:=a.eval x') (av:=.ptr r k p off) ?_ hd he ⟨⟨⟨b,o2,hv⟩,hp⟩,bD⟩ h2;simp only[execOp,bl,hv];rfl
 case q t off=>
  obtain⟨b,o2,vs,hv,hz,ha,hr⟩:=cj;refine jH h (v:=a.eval x') (av:=.q t off) ?_ hd he ⟨b,o2,vs,hv,hz,ha,hr⟩ h2;simp only[execOp,bl,hv];rfl
end
section
variable {X:Cx}{U:Nat->Prop}{J J':Nat}{σ aj aX:St}{a a2:Act}{w w' w2:World}{ow ap aU:Nat->Ow}{e:Nat}{o:Oper}
theorem I0:∀(p:List Nat) (t:T) {b o j:Nat}{bo:Nat×Nat},cE w t b o (p++[j])=some bo->
  (∃cs,t.aM p=some (.a cs))\/∃ob sz es b' o' ad N C,t.aM p=some (.l ob sz es)/\cE w t b o p=some (b',o')/\w.cell? ⟨b',o',none⟩=some (.slice (some ad) N C)/\bo=(ad.block,ad.off+j*sz)
 |[],t,b,o,j,bo,h=>by
  cases t<;>simp only[eC,cE,reduceCtorEq]at h
  case a cs=>exact .inl ⟨cs,rfl⟩
  case l ob sz es=>
   split at h
   ·rename_i ad N C t' h1 h2;have:cE w t' ad.block (ad.off+j*sz) []=some bo:=h;have hb:(ad.block,ad.off+j*sz)=bo:=by cases t'<;>simpa[cE]using this
    exact .inr ⟨ob,sz,es,b,o,ad,N,C,rfl,rfl,h1,hb.symm⟩
   ·cases h
 |i::p,t,b,o,j,bo,h=>by
  cases t<;>simp only[gf,cE,reduceCtorEq]at h
  case a cs=>
   split at h
   ·rename_i t' ht;rcases I0 p t' h with⟨cA,h1⟩|⟨ob,sz,es,b',o',ad,N,C,h1,h2,h3,h4⟩
    ·exact .inl ⟨cA,by simp only[T.aM,T.bA,ht,jl,h1]⟩
    ·exact .inr ⟨ob,sz,es,b',o',ad,N,C,by simp only[T.aM,T.bA,ht,jl,h1],by simp only[cE,ht,h2],h3,h4⟩
   ·cases h
  case l ob0 L1 dm=>
   split at h
   ·rename_i ad0 N0 C0 t' h1 ht;rcases I0 p t' h with⟨cA,h1⟩|⟨ob,sz,es,b',o',ad,N,C,h5,h6,h7,h8⟩
    ·exact .inl ⟨cA,by simp only[T.aM,T.bA,ht,jl,h1]⟩
    ·exact .inr ⟨ob,sz,es,b',o',ad,N,C,by simp only[T.aM,T.bA,ht,jl,h5],by simp only[cE,h1,ht,h6],h7,h8⟩
   ·cases h
theorem Zhy {c:RC}{v:Value}{p:List Nat}{j:Nat}{bo:Nat×Nat} (h:place w c v (p++[j])=some bo):
  (∃cs,c.t.aM p=some (.a cs))\/∃ob sz es ad N C,c.t.aM p=some (.l ob sz es)/\fE w c v p=some (.slice (some ad) N C)/\bo=(ad.block,ad.off+j*sz):=by
 unfold place at h;split at h
 ·rename_i ad vE;rcases I0 p c.t h with h1|⟨ob,sz,es,b',o',ad,N,C,h1,h2,h3,h4⟩
  ·exact .inl h1
  ·refine .inr ⟨ob,sz,es,ad,N,C,h1,?_,h4⟩;unfold fE;rw[vE];simp only[BM,wI,cX,if_false,place,vE];rw[h2];exact h3
 ·rename_i A N C vE;cases p with
  |nil=>
   obtain⟨ib,kk,t⟩:=c;simp only at vE h⊢;subst vE;simp only[eC]at h;cases t<;>simp only[eY,reduceCtorEq]at h;cases A<;>simp only[eY,reduceCtorEq]at h;rename_i ob sz es ad;split at h
   ·rename_i t' ht;have hb:(ad.block,ad.off+j*sz)=bo:=by cases t'<;>simpa[cE]using h
    exact .inr ⟨ob,sz,es,ad,N,C,rfl,by simp[fE],hb.symm⟩
   ·cases h
  |cons i p=>
   obtain⟨ib,kk,t⟩:=c;simp only at vE h⊢;subst vE;simp only[gf]at h;cases t<;>simp only[eY,reduceCtorEq]at h;cases A<;>simp only[eY,reduceCtorEq]at h;rename_i ob0 L1 dm ad0;split at h
   ·rename_i t' ht;rcases I0 p t' h with⟨cA,h1⟩|⟨ob,sz,es,b',o',ad,N',C',h1,h2,h3,h4⟩
    ·exact .inl ⟨cA,by simp only[T.aM,T.bA,ht,jl,h1]⟩
    ·refine .inr ⟨ob,sz,es,ad,N',C',by simp only[T.aM,T.bA,ht,jl,h1],?_,h4⟩;unfold fE;simp only[List.isEmpty_cons,Y9,cX,if_false,place,eY,ht];rw[h2];exact h3
   ·cases h
 ·cases h
theorem Zeq (b:Bool) (p:List Nat) (j:Nat):j8 b (p++[j])=ic b p\/2<=j8 b (p++[j]):=by
 cases b<;>rcases p with _|⟨x,_|⟨y,p⟩⟩<;>simp[j8,ic]
theorem K.ok_two {c k:K}{n m:Nat} (h:c.ok k n=true) (hn:2<=n):c.ok k m=true:=by
 obtain⟨n,rfl⟩:∃n',n=n'+2:=⟨n-2,by omega⟩
 simp only[K.ok,Y8,beq_iff_eq]at h;unfold K.ok;split<;>simp[h]
theorem apy {c k:K}{b:Bool}{p:List Nat}{j:Nat} (h:c.ok k (j8 b (p++[j]))=true):c.ok k (ic b p)=true:=by
 rcases Zeq b p j with e|e
 ·rw[<-e];exact h
 ·exact K.ok_two h e
theorem Yo {P:Program}{t:TypeId}{sz:Nat}{b o N C:Nat}{k:IntKind}{i:Int} (hg:xn P t sz=true) (h0:0<=i) (hi:i<N):
  (Instr.indexAt t (.slice (some ⟨b,o,none⟩) N C) (.int k i)).run P w=.ok (.pointer (some ⟨b,o+i.toNat*sz,none⟩)) w:=by
 unfold xn at hg;split at hg
 ·rename_i el hu;unfold Instr.indexAt;rw[bu (x:=(k,i)) (w':=w) rfl];simp only;rw[bu (jF hu)];simp only;rw[bu (x:=(some (⟨b,o,none⟩:Addr),N,el)) (w':=w) rfl];simp only;rw[bu (jF hu)];simp only;rw[if_pos ⟨h0,hi⟩];rw[bu (qX hg),Z7];rfl
 ·cases hg
theorem Z6r (h:Rel X U J σ a w ow) (hd:eW X o) (he:∀x,bJ e x->¬U x) {sz:Nat}{x ix:aL}{x' pC:Operand}{t:TypeId} (hx:x.is X.ae x'=true) (hi:ix.is X.ae pC=true) (hg:xn X.P t sz=true) (bl:o.op=.indexAddr t x' pC)
  (aq:(exec e o.dst (.ia sz x ix)).run σ=some ((),aj)):Sound X U a w e o aj:=by
 obtain⟨av,aZ,h1,h2⟩:=aW aq;unfold indexAddr at h1;obtain⟨iv,aX,h3,h4⟩:=aW h1;obtain⟨e1,cj⟩:=kn h hi h3;rw[e1]at h4;clear h1 h3 e1 aX;cases iv<;>try simp only[Pg.run,reduceCtorEq]at h4
 rename_i ti;cases ti<;>try simp only[Pg.run,reduceCtorEq]at h4
 rename_i k i;have vH:a.eval pC=.int k i:=by simpa[fw,ay]using cj
 obtain⟨xv,iU,h5,h6⟩:=aW h4;obtain⟨e1,fQ,mq,nH⟩:=uO h hx h5;rw[e1]at h6;clear h4 h5 e1 iU mq nH;cases xv<;>try simp only[Pg.run,reduceCtorEq]at h6
 case x tx=>
  cases tx<;>try simp only[Pg.run,reduceCtorEq]at h6
  rename_i ob qK es;split at h6
  ·rename_i hc;obtain⟨h0,rfl⟩:=hc;cases ht:es[i.toNat]? with
   |none=>simp[ht,Pg.run]at h6
   |some t1=>
    simp only[ht]at h6;obtain⟨rfl,rfl⟩:=bS h6;simp only[fw]at fQ;have aF:=(bt.1 ht).1;obtain⟨ad,cap,hv,hQ,dg,hb,aG,ty,fr,bE,hh,eA,bP,cg⟩:=oo fQ (by intro e;subst e;simp at ht);obtain⟨b,of,spot⟩:=ad;simp only at dg hb hh bP;subst dg;have hn:Ob.loc ob none=none:=by unfold Ob.loc;split<;>rfl
    rw[hn]at hb cg;obtain⟨v1,dp,dO,gW⟩:=om cg ht;refine jH h (v:=.pointer (some ⟨b,of+i.toNat*qK,none⟩)) (av:=.q t1 0) ?_ hd he ⟨b,of+i.toNat*qK,v1,rfl,hb,fun j u hj=>?_,dO⟩ h2
    ·simp only[execOp,bl,vH];have eX:a.eval x'=.slice (some ⟨b,of,none⟩) es.length cap:=by simpa using hv
     rw[eX];exact jG (Yo hg h0 (by omega))
    ·rw[iZ hh,fK];exact bP _ _ (gW j u hj)
  ·simp[Pg.run]at h6
 case w r k2 p z lo n=>
  split at h6
  ·rename_i hc;obtain⟨h0,kq,rfl⟩:=hc;obtain⟨rfl,rfl⟩:=bS h6;obtain⟨⟨⟨A,C,hv,KQ,hA⟩,vW⟩,bD⟩:=fQ;obtain⟨b,of,rfl⟩:=hA (by omega);refine jH h (v:=.pointer (some ⟨b,of+i.toNat*z,none⟩)) (av:=.ptr r k2 (p++[lo+i.toNat]) 0) ?_ hd he ⟨⟨⟨_,_,rfl⟩,fun c hc hk bo eF=>?_⟩,bD⟩ h2
   ·simp only[execOp,bl,vH,hv];exact jG (Yo hg h0 (by omega))
   ·obtain⟨h7,h8⟩:=vW c hc (apy hk);rcases Zhy eF with⟨cs,h9⟩|⟨ob,qK,es,ad,N,C',h9,eU,lP⟩
    ·exact absurd h9 (h7 cs)
    ·obtain⟨rfl,hle,A2,N2,C2,A3,c3,e1,e2,sv,vo,Kv,RS⟩:=h8 _ _ _ h9 _ _ _ eU;simp only[Value.slice.injEq]at e1;obtain⟨rfl,rfl,rfl⟩:=e1;rw[hv]at e2;simp only[Value.slice.injEq,true_and]at e2;obtain⟨rfl,rfl⟩:=e2;subst lP;simp only[pc];rcases Kv with⟨e3,e4⟩|⟨ot,x0,e3,e4,e5⟩
     ·simp only[aR]at e3;subst e3;rcases e4 with rfl|e4
      ·simp
      ·omega
     ·simp only[aR]at e3 e4;subst e3;simp only[Addr.mk.injEq,and_true]at e4;obtain⟨rfl,rfl⟩:=e4;rcases e5 with rfl|⟨e5,_⟩
      ·rw[Nat.add_mul,fK]
      ·omega
  ·simp[Pg.run]at h6
theorem Z6z (h:Rel X U J σ a w ow) (hd:eW X o) (he:∀x,bJ e x->¬U x) {x:aL}{x':Operand} (hx:x.is X.ae x'=true) (bl:o.op=.move x') (vN:∀n,x=.t n->∀m,σ n≠.dj m)
  (aq:(exec e o.dst (.mv x)).run σ=some ((),aj)):Sound X U a w e o aj:=by
 obtain⟨av,aZ,h1,h2⟩:=aW aq;have vV:∀n,av≠.dj n:=fun n e=>by
  subst e;cases x with
  |t s=>
   have jh:=hx;simp only[look]at h1;obtain⟨v0,aX,h3,h4⟩:=aW h1;obtain⟨rfl,rfl⟩:=jv h3;have:=vN s rfl;cases hs:aX s<;>rw[hs]at h4 this
   case own k t=>
    cases t<;>(obtain⟨e1,_⟩:=bS h4;cases e1)
   case dj m=>exact this m rfl
   all_goals (obtain⟨e1,_⟩:=bS h4;cases e1)
  |k c=>
   simp only[look]at h1;obtain⟨e1,_⟩:=bS h1;unfold sd at e1;split at e1<;>cases e1
 have hl:=fun bD=>Zef (e:=e) h hx h1 vV bD;have cC:(execOp a.eval o).run X.P w=.ok (.value (a.eval x')) w:=by simp only[execOp,bl];rfl
 cases av
 case dj n=>exact absurd rfl (vV n)
 case st cs=>
  simp only at h2;split at h2
  ·simp[Pg.run]at h2
  ·rename_i dK;obtain⟨rfl,hl⟩:=hl (fun cA e=>by cases e;simpa using dK);exact jH h cC hd he hl h2
 all_goals
  obtain⟨rfl,hl⟩:=hl (fun cA e=>by cases e);exact jH h cC hd he hl h2
def J4 (P:Program) (t:TypeId) (n sz:Nat):Bool:=match P.underlying t with
 |some (.array m el)=>m==n&&nj P el sz
 |_=>false
theorem Yn {P:Program}{t:TypeId}{n sz:Nat}{b o:Nat}{k:IntKind}{i:Int} (hg:J4 P t n sz=true) (h0:0<=i) (hi:i<(n:Int)):
  (Instr.indexAt t (.pointer (some ⟨b,o,none⟩)) (.int k i)).run P w=.ok (.pointer (some ⟨b,o+i.toNat*sz,none⟩)) w:=by
 unfold J4 at hg;split at hg
 ·rename_i m el hu;simp only[Y8,beq_iff_eq]at hg;obtain⟨rfl,hg⟩:=hg;unfold Instr.indexAt;rw[bu (x:=(k,i)) (w':=w) rfl];simp only;rw[bu (jF hu)];simp only;rw[bu (x:=(⟨b,o,none⟩:Addr)) (w':=w) rfl];rw[bu (x:=(some (⟨b,o,none⟩:Addr),m,el)) (w':=w) rfl];simp only;rw[bu (jF hu)];simp only;rw[if_pos ⟨h0,hi⟩];rw[bu (qX hg),Z7];rfl
 ·cases hg
theorem Z6s (h:Rel X U J σ a w ow) (hd:eW X o) (he:∀x,bJ e x->¬U x) {n sz:Nat}{x ix:aL}{x' pC:Operand}{t:TypeId} (hx:x.is X.ae x'=true) (hi:ix.is X.ae pC=true) (hg:J4 X.P t n sz=true) (bl:o.op=.indexAddr t x' pC)
  (aq:(exec e o.dst (.xO n sz x ix)).run σ=some ((),aj)):Sound X U a w e o aj:=by
 obtain⟨iv,aX,h3,h4⟩:=aW aq;obtain⟨e1,cj⟩:=kn h hi h3;rw[e1]at h4;clear h3 e1 aX;cases iv<;>try simp only[Pg.run,reduceCtorEq]at h4
 rename_i ti;cases ti<;>try simp only[Pg.run,reduceCtorEq]at h4
 rename_i kd i;have vH:a.eval pC=.int kd i:=by simpa[fw,ay]using cj
 obtain⟨av,aZ,h1,h2⟩:=aW h4;obtain⟨e1,hl,kK⟩:=Z8 h hx h1;rw[e1]at h2;clear h1 e1 aZ;rcases kK with⟨r,k,p,o1,rfl⟩|⟨t0,o1,rfl⟩
 ·simp only at h2;split at h2
  ·rename_i hc;obtain⟨⟨⟨b,o2,hv⟩,hp⟩,bD⟩:=hl;refine jH h (v:=.pointer (some ⟨b,o2+i.toNat*sz,none⟩)) ?_ hd he (av:=.ptr r k p (o1+i.toNat*sz)) ⟨⟨⟨_,_,rfl⟩,fun c hc hk bo eF=>?_⟩,bD⟩ h2
   ·simp only[execOp,bl,vH,hv];exact jG (Yn hg hc.1 hc.2)
   ·have:=hp c hc hk bo eF;rw[hv]at this;simp only[Value.pointer.injEq,aR,Addr.mk.injEq,and_true]at this;obtain⟨rfl,rfl⟩:=this;rw[fK]
  ·simp[Pg.run]at h2
 ·simp only at h2;split at h2
  ·rename_i hc;obtain⟨b,o2,vs,hv,hz,ha,hr⟩:=hl;refine jH h (v:=.pointer (some ⟨b,o2+o1+i.toNat*sz,none⟩)) ?_ hd he (av:=.q t0 (o1+i.toNat*sz)) ⟨b,o2,vs,by rw[fK],hz,ha,hr⟩ h2;simp only[execOp,bl,vH,hv];exact jG (Yn hg hc.1 hc.2)
  ·simp[Pg.run]at h2
end
section
variable {X:Cx}{U:Nat->Prop}{J J':Nat}{σ aj aX:St}{a a' a2:Act}{w w' w2:World}{ow ap aU:Nat->Ow}{e:Nat}{o:Oper}
def l6 (ow:Nat->Ow) (g:Nat->Option (Nat×List Nat)):Nat->Ow:=fun b=>
 match ow b with
 |.own (.ar i) q=>match g i with
  |some (n,pre)=>.own (.ar n) (pre++q)
  |none=>.own (.ar i) q
 |x=>x
theorem EP {g:Nat->Option (Nat×List Nat)}:Zs w ow w (l6 ow g):=fun b hb=>⟨by simp[l6,hb],rfl⟩
theorem XW {g:Nat->Option (Nat×List Nat)}{i n b:Nat}{pre q:List Nat} (hg:g i=some (n,pre)) (hb:ow b=.own (.ar i) q):l6 ow g b=.own (.ar n) (pre++q):=by
 simp[l6,hb,hg]
theorem XY {g:Nat->Option (Nat×List Nat)}{b s:Nat}{q:List Nat} (hb:ow b=.own (.sl s) q):l6 ow g b=.own (.sl s) q:=by
 simp[l6,hb]
theorem XX (h:Rel X U J σ a w ow) {g:Nat->Option (Nat×List Nat)} (hJ:J<=J') (hg:∀i n pre,g i=some (n,pre)->n<J'):Rel X U J' σ a w (l6 ow g):=by
 have dD:∀r,dn U σ a w σ a w r:=fun r=>ph (h.slot r) rfl rfl (EP (g:=g)) (fun _ _ _=>rfl);refine⟨h.size,h.small,h.defers,fun s=>?_,h.fh,fun b hb=>h.low b fun e=>hb (by simp[l6,e]),fun b i q hb=>?_,h.grown,fun b hb hr=>?_,h.os,h.output,h.cO,h.pR⟩
 ·exact qg (h.slot s) (h.fh s) EP dD (fun b q hb=>⟨XY hb,rfl⟩)
 ·unfold l6 at hb;split at hb
  ·rename_i m q2 hm;split at hb
   ·rename_i n pre ry;cases hb;exact hg _ _ _ ry
   ·cases hb;exact iF (h.dw b _ _ hm) hJ
  ·exact iF (h.dw b i q hb) hJ
 ·obtain⟨h1,h2⟩:=h.same b hb hr;refine⟨h1,?_⟩;unfold l6;split
  ·rename_i m q2 hm;rw[hm]at h2;exact absurd h2.symm (hr _ _)
  ·exact h2
end
end Go.Wr

