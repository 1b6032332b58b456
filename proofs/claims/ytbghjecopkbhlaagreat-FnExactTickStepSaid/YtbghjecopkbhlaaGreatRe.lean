/-
  What is proved: lemmas for the laws. No condition.
-/
import Derived.Test.YtbghjecopkbhlaaGreatRc
import Derived.Sort.Defs
import Derived.Lib.BitFns
import Derived.Lib.Small
import Derived.Shelf.SlSortCmp.NoneTotal
set_option linter.unusedVariables false
set_option linter.unusedSimpArgs false
namespace Go.Wr
def af0:T->Option (Int×Int)
 |.a [.i .i64 a,.i .i64 b]=>some (a,b)
 |_=>none
def Bp:List T->Option (List (Int×Int))
 |[]=>some []
 |t::ts=>match af0 t,Bp ts with
  |some x,some xs=>some (x::xs)
  |_,_=>none
def pM (x:Int×Int):T:=.a [.i .i64 x.1,.i .i64 x.2]
theorem YO:∀{es:List T}{l:List (Int×Int)},Bp es=some l->es=l.map pM
 |[],l,h=>by
  simp only[Bp,aR]at h;subst h;rfl
 |t::ts,l,h=>by
  simp only[Bp]at h;split at h
  ·rename_i x xs h1 h2;simp only[aR]at h;subst h;rw[YO h2];have:t=pM x:=by
    unfold af0 at h1;split at h1
    ·simp only[aR]at h1;subst h1;rfl
    ·cases h1
   rw[this];rfl
  ·cases h
theorem Zq0 (l:List (Int×Int)):Bp (l.map pM)=some l:=by
 induction l with
 |nil=>rfl
 |cons x l ih=>simp only[fc,Bp,ih];rfl
def Fc (x y:Int×Int):Int:=Go.Lib.compareInt x.1 y.1
def AY (x y:Int×Int):Bool:=decide (Fc x y<0)
def l7 (l:List (Int×Int)):List (Int×Int):=(Go.Sort.pdq AY l.toArray 0 l.length (Go.Lib.bitLen l.length) true true).toList
def DJ (gc:Nat):aB
 |[.mu (.l .y 2 es),.x (.f g [])]=>if g=gc then match Bp es with
   |some l=>if l.length<4611686018427387904 then some ⟨[],[[.l .y 2 ((l7 l).map pM)]]⟩ else none
   |none=>none
  else none
 |_=>none
theorem Zpl {gc:Nat} (l:List (Int×Int)) (h:l.length<4611686018427387904):DJ gc [.mu (.l .y 2 (l.map pM)),.x (.f gc [])]=some ⟨[],[[.l .y 2 ((l7 l).map pM)]]⟩:=by
 simp only[DJ,if_true,Zq0,h]
theorem Zpm {gc:Nat}{gH:List Arg}{out:Out} (h:DJ gc gH=some out):∃l,gH=[.mu (.l .y 2 (l.map pM)),.x (.f gc [])]/\l.length<4611686018427387904/\out=⟨[],[[.l .y 2 ((l7 l).map pM)]]⟩:=by
 unfold DJ at h;split at h
 ·split at h
  ·rename_i hg;subst hg;split at h
   ·rename_i l hl;split at h
    ·rename_i aF;simp only[aR]at h;exact⟨l,by rw[YO hl],aF,h.symm⟩
    ·cases h
   ·cases h
  ·cases h
 ·cases h
open Go.Sort Go.Shelf Go.Proofs
def gV (x:Int×Int):List Value:=[.int .i64 x.1,.int .i64 x.2]
theorem Zeo:Go.Proofs.ltOf Fc=AY:=rfl
theorem I4 (x y:Int×Int):AY x y=decide (x.1<y.1):=by
 unfold AY Fc Lib.compareInt;by_cases h1:x.1<y.1
 ·simp[h1]
 ·by_cases h2:y.1<x.1<;>simp[h1,h2]
theorem af1:SWO AY where
 irrefl x:=by rw[I4];simp
 trans x y z h1 h2:=by rw[I4]at*;simp at*;omega
 ntrans x y z h1 h2:=by rw[I4]at*;simp at*;omega
theorem JH (l:List (Int×Int)):(l7 l).Perm l/\(l7 l).Pairwise fun x y=>x.1<=y.1:=by
 obtain⟨h1,h2⟩:=pdq_sorts AY af1 l.toArray 0 l.length (Lib.bitLen l.length) true true (Nat.zero_le _) (by simp) (Or.inl rfl);unfold l7;generalize pdq AY l.toArray 0 l.length (Lib.bitLen l.length) true true=d at h1 h2;have hs:d.size=l.length:=by simpa using h1.1
 refine⟨?_,?_⟩
 ·have:=h1.2.2;rw[<-hs]at this;have e1:d.extract 0 d.size=d:=by simp
  have e2:l.toArray.extract 0 d.size=l.toArray:=by rw[hs];simp
  rw[e1,e2]at this;simpa using this
 ·rw[qR];intro i j hi hj lg;have xH:j<l.length:=by simpa[hs]using hj
  have:=h2 i j (Nat.zero_le _) lg xH;rw[I4]at this;have kp:i<d.size:=by omega
  have fP:j<d.size:=by omega
  rw[getElem!_pos d i kp,getElem!_pos d j fP]at this;simp only[decide_eq_false_iff_not]at this;simp only[Array.getElem_toList];omega
theorem JG (l:List (Int×Int)):(l7 l).length=l.length:=(JH l).1.length_eq
theorem V2 (l:List (Int×Int)) {i:Nat}{x:Int×Int} (h:l[i]?=some x):(flatK gV 2 l.toArray)[i*2]! =.int .i64 x.1/\(flatK gV 2 l.toArray)[i*2+1]! =.int .i64 x.2:=by
 obtain⟨hi,rfl⟩:=bt.1 h;rw[get_flatK _ _ _ _ (by simp;omega),get_flatK _ _ _ _ (by simp;omega)];have e1:i*2/2=i:=by omega
 have e2:(i*2+1)/2=i:=by omega
 have e3:i*2%2=0:=by omega
 have e4:(i*2+1)%2=1:=by omega
 rw[e1,e2,e3,e4];simp[hi,gV]
section
variable {P:Program}{ae:Nat->FuncId}{ρ:Ren}
theorem Zl4 {w:World}{ow:Nat->Ow}{mv:Nat->Value}{c:Loc} (l:List (Int×Int)):cw ae mv w ow c 2 0 (l.map pM) (flatK gV 2 l.toArray).toList:=by
 have key:∀(l:List (Int×Int)) (k:Nat),cw ae mv w ow c 2 k (l.map pM) (l.flatMap gV):=by
  intro l
  induction l with
  |nil=>intro k;simp[cw]
  |cons x l ih=>
   intro k;simp only[fc,List.flatMap_cons,cw];exact⟨gV x,l.flatMap gV,rfl,rfl,by simp[gV,pM,ay,bZ],ih (k+1)⟩
 have e:(flatK gV 2 l.toArray).toList=l.flatMap gV:=by
  have hl:∀l:List (Int×Int),(l.flatMap gV).length=l.length*2:=by
   intro l
   induction l with
   |nil=>rfl
   |cons x l ih=>simp[List.flatMap_cons,ih,gV];omega
  have hg:∀(l:List (Int×Int)) (i:Nat) x,l[i]?=some x->(l.flatMap gV)[i*2]?=some (.int .i64 x.1)/\(l.flatMap gV)[i*2+1]?=some (.int .i64 x.2):=by
   intro l
   induction l with
   |nil=>intro i x h;simp at h
   |cons y l ih=>
    intro i x h;cases i with
    |zero=>simp at h;subst h;simp[gV]
    |succ i=>
     have:=ih i x (by simpa using h);simp only[List.flatMap_cons,gV,gf,eC];rw[show(i+1)*2=(i*2)+1+1 by omega];simpa using this
  apply uB;intro j;by_cases hj:j<l.length*2
  ·have hi:l[j/2]?=some l[j/2]:=bF (by omega);obtain⟨h1,h2⟩:=hg l _ _ hi;obtain⟨h3,h4⟩:=V2 l hi;have hs:∀t,t<l.length*2->(flatK gV 2 l.toArray).toList[t]?=some (flatK gV 2 l.toArray)[t]!:=fun t ht=>by
    have:t<(flatK gV 2 l.toArray).size:=by simpa using ht
    rw[getElem!_pos _ t this];simp[this]
   rcases Nat.mod_two_eq_zero_or_one j with hm|hm
   ·have:j=j/2*2:=by omega
    rw[this,h1,hs _ (by omega),h3]
   ·have:j=j/2*2+1:=by omega
    rw[this,h2,hs _ (by omega),h4]
  ·rw[pe (by simp;omega),pe (by rw[hl];omega)]
 rw[e];exact key l 0
theorem Zpt {gs gc:Nat} (L:SlLaysF0.n6 P ρ) (aE:∀w,(isAgg (ρ.t 24)).run P w=.ok true w) (zE:∀w,(Go.sizeOf (ρ.t 24)).run P w=.ok 2 w) (hs:ae gs=ρ.f 6) (eg:∀args w,(callFunc (ae gc) args).run P w=.ok (.enter (ae gc) args) w)
  (hc:∀(x y:Int×Int) (W:World),Calls P (ae gc) #[.agg #[.int .i64 x.1,.int .i64 x.2],.agg #[.int .i64 y.1,.int .i64 y.2]] W fun e w'=>e=.returned (.int .i64 (Lib.compareInt x.1 y.1))/\∃q T4,w'=grow (W.drewN q) T4):
  ik P ae gs (DJ gc):=by
 intro xs vs w ow out hF hl hA dl j3 _;obtain⟨l,rfl,hlen,rfl⟩:=Zpm hF
 match vs,hl with
 |[v0,v1],_=>
 have h0:=hA 0 _ v0 rfl rfl;have h1:=hA 1 _ v1 rfl rfl;simp only[oZ,ay,bZ]at h1;obtain⟨eR,gW,Db⟩:=h1;have amM:eR=#[]:=by simpa using Db
 subst amM;have aoB:v1=.func (.func (ae gc)) #[] #[]:=by simpa using gW
 subst aoB;obtain⟨_,h0⟩:=h0;simp only[ay,cL]at h0;obtain⟨_,A,cap,uc,hQ,_,rj⟩:=h0;have aoA:v0=.slice A l.length cap:=by simpa using uc
 subst aoA;rw[hs];have auW:∀b,ow b≠.no->b<w.heap.size:=dl;by_cases tW:l=[]
 ·subst tW;refine Calls.mono (AnyF.slices_SortFunc_none L A cap (.func (.func (ae gc)) #[] #[]) w) fun e w' he=>?_;obtain⟨rfl,rfl⟩:=he;refine⟨ow,⟨fun b hb=>⟨hb,rfl⟩,fun b _ hb=>⟨hb,rfl⟩,dl,Nat.le_refl _,rfl,rfl,⟨#[],rfl,rfl,fun j r u hj=>by simp at hj⟩,?_,fun b j q hb=>by obtain⟨i,h,_⟩:=j3 b _ q hb;cases h⟩⟩;have:l7 []=[]:=iY.1 (JG []);rw[this];exact⟨⟨_,rfl,⟨_,_,rfl⟩,by simp only[ay];exact⟨fun _=>by simp,A,cap,rfl,hQ,(fun k hk=>by cases hk),rj⟩⟩,trivial⟩
 ·have oL:0<l.length:=BS.2 tW;cases A with
  |none=>simp only at rj;omega
  |some ad=>
  obtain⟨dg,dq,aG,ty,fr,bE,hh,eA,bP,cg⟩:=rj (.inl rfl);obtain⟨Gp,Dd⟩:=eA rfl;obtain⟨aO,off,sp⟩:=ad;simp only at dg dq hh Dd bP;subst dg;have hblk:aO<w.heap.size:=dl aO (by rw[dq];simp[Ob.loc,Ob.own,Loc.ow]);have hH:HoldsK gV 2 w aO off l.toArray:=fun j hj=>by
   have xH:j<l.length*2:=by simpa using hj
   have hi:l[j/2]?=some l[j/2]:=bF (by omega);obtain⟨h3,h4⟩:=V2 l hi;have kp:(l.map pM)[j/2]?=some (pM l[j/2]):=by rw[iX,hi];rfl
   obtain⟨u1,ub,pA,vC⟩:=om cg kp;have hu:u1=gV l[j/2]:=by
    simp only[pM,ay,bZ]at pA;obtain⟨a1,r1,e1,e2,a2,r2,e3,e4,e5⟩:=pA;rw[e1,e3,e5];simp only[fq,and_true]at e2 e4;rw[e2,e4];rfl
   have qx:off+j<aG.size:=by
    have:l.length*2<=cap*2:=kC 2 hQ;omega
   refine⟨?_,?_⟩
   ·simp only[World.cell?,hh,id];rcases Nat.mod_two_eq_zero_or_one j with hm|hm
    ·have fP:j=j/2*2:=by omega
     have:=bP _ _ (vC 0 (.int .i64 l[j/2].1) (by rw[hu];rfl));rw[pc,<-fP]at this;rw[<-fP]at h3;simp[this,h3]
    ·have fP:j=j/2*2+1:=by omega
     have:=bP _ _ (vC 1 (.int .i64 l[j/2].2) (by rw[hu];rfl));rw[<-fP]at this;rw[<-fP]at h4;simp[this,h4]
   ·simp only[World.frozen?,hh];obtain⟨lo,hi⟩:=fr;simp only at Gp⊢;by_cases h5:lo<=off+j
    ·have:¬(off+j<hi):=by
      rcases Gp with h|h
      ·omega
      ·omega
     simp[this]
    ·simp[h5]
  have Gk:=AnyQ.slices_SortFunc_eq L 2 aE zE gV (fun _=>rfl) (fun x v hv=>by simp[gV]at hv;rcases hv with rfl|rfl<;>rfl) Fc af1 (ae gc) #[] aO off cap l.toArray w eg (fun _ _ _ _ x y=>hc x y _) hH hblk (by simpa using hlen);simp only[List.size_toArray]at Gk;refine Calls.mono Gk fun e w' he=>?_;obtain⟨rfl,n,os,rfl⟩:=he;have hd:pdq (Go.Proofs.ltOf Fc) l.toArray 0 l.length (Lib.bitLen l.length) true true=(l7 l).toArray:=by unfold l7;rw[Zeo]
  rw[hd];have iO:∀b,b<w.heap.size->(sortWorldK gV 2 w aO off n (l7 l).toArray os).heap[b]?=if b=aO then some (.cells (Go.Sort.putCells id off (flatK gV 2 (l7 l).toArray) aG) ty fr) else w.heap[b]?:=fun b hb=>by
   show(w.heap.modify aO (onCells (Go.Sort.putCells id off (flatK gV 2 (l7 l).toArray)))++os)[b]?=_;rw[Array.getElem?_append_left (by simpa using hb),Array.getElem?_modify];by_cases h:aO=b
   ·subst h;simp[hh,onCells]
   ·rw[if_neg h,if_neg (fun e=>h e.symm)]
  have KZ:w.heap.size<=(sortWorldK gV 2 w aO off n (l7 l).toArray os).heap.size:=by
   show _<=(w.heap.modify aO (onCells (Go.Sort.putCells id off (flatK gV 2 (l7 l).toArray)))++os).size;simp
  refine⟨ow,⟨fun b hb=>⟨hb,?_⟩,fun b hb hn=>⟨hn,?_⟩,fun b hb=>iF (dl b hb) KZ,KZ,rfl,rfl,⟨#[],rfl,rfl,fun j r u hj=>by simp at hj⟩,⟨⟨_,rfl,⟨_,_,rfl⟩,?_⟩,trivial⟩,fun b j q hb=>by obtain⟨i,h,_⟩:=j3 b _ q hb;cases h⟩⟩
  ·rw[iO b (dl b (by rw[hb];simp)),if_neg];intro e;subst e;rw[dq]at hb;cases hb
  ·rw[iO b hb,if_neg];intro e;subst e;rw[dq]at hn;cases hn
  ·simp only[ay,cL,JG];refine⟨fun _=>by simp,some ⟨aO,off,none⟩,cap,rfl,hQ,(fun k hk=>by cases hk),fun _=>⟨rfl,dq,_,ty,fr,(flatK gV 2 (l7 l).toArray).toList,by rw[iO aO hblk,if_pos rfl],fun _=>⟨?_,?_⟩,fun j v hj=>?_,Zl4 _⟩⟩
   ·simpa[Go.Sort.putCells]using Gp
   ·simpa[Go.Sort.putCells]using Dd
   ·have fP:j<(flatK gV 2 (l7 l).toArray).size:=by
     have:=(bt.1 hj).1;simpa using this
    have hj3:j<l.length*2:=by simpa[JG]using fP
    have qx:off+j<aG.size:=by
     have:l.length*2<=cap*2:=kC 2 hQ;omega
    have hv:(flatK gV 2 (l7 l).toArray)[j]! =v:=by
     rw[getElem!_pos _ j fP];have:=(bt.1 hj).2;simpa using this
    simp only[Go.Sort.putCells,Array.getElem?_mapIdx];rw[Array.getElem?_eq_getElem qx];simp only[s5,id];rw[if_pos ⟨by omega,by omega⟩,Nat.add_sub_cancel_left,hv]
end
end Go.Wr

