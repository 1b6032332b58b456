/-
  What is proved: lemmas for the laws. No condition.
-/
import Derived.Test.YtbghjecopkbhlaaGreatRd
import Derived.Test.YtbghjecopkbhlaaGreatRe
import Derived.Test.YtbghjecopkbhlaaGreatRb
import Derived.Laws.IdiomCopy
set_option linter.unusedVariables false
set_option linter.unusedSimpArgs false
namespace Go.Wr
structure fO (b2 b3:Nat) (w w':World):Prop where
 h:∀b,b≠b2->b≠b3->w'.heap[b]?=w.heap[b]?
 s:w'.heap.size=w.heap.size
 o:w'.os=w.os
 p:w'.output=w.output
theorem fO.refl {b2 b3:Nat}{w:World}:fO b2 b3 w w:=⟨fun _ _ _=>rfl,rfl,rfl,rfl⟩
theorem fO.drew {b2 b3:Nat}{w w':World} (h:fO b2 b3 w w'):fO b2 b3 w w'.drew:=⟨h.h,h.s,h.o,h.p⟩
theorem fO.yb {b2 b3 j:Nat}{v:Value}{w w':World} (h:fO b2 b3 w w'):fO b2 b3 w (w'.setCell ⟨b2,j,none⟩ v):=
 ⟨fun b h2 h3=>by rw[heap_setCell_other _ _ _ _ h2];exact h.h b h2 h3,by rw[<-h.s];simp[World.setCell],by rw[<-h.o];simp[World.setCell],by rw[<-h.p];simp[World.setCell]⟩
theorem fO.ye {b2 b3 j:Nat}{v:Value}{w w':World} (h:fO b2 b3 w w'):fO b2 b3 w (w'.setCell ⟨b3,j,none⟩ v):=
 ⟨fun b h2 h3=>by rw[heap_setCell_other _ _ _ _ h3];exact h.h b h2 h3,by rw[<-h.s];simp[World.setCell],by rw[<-h.o];simp[World.setCell],by rw[<-h.p];simp[World.setCell]⟩
structure Gr (b2 b3:Nat) (w w':World):Prop where
 h:∀b,b<w.heap.size->b≠b2->b≠b3->w'.heap[b]?=w.heap[b]?
 s:w.heap.size<=w'.heap.size
 o:w'.os=w.os
 p:w'.output=w.output
theorem Gr.refl {b2 b3:Nat}{w:World}:Gr b2 b3 w w:=⟨fun _ _ _ _=>rfl,Nat.le_refl _,rfl,rfl⟩
theorem Gr.drew {b2 b3:Nat}{w w':World} (h:Gr b2 b3 w w'):Gr b2 b3 w w'.drew:=⟨h.h,h.s,h.o,h.p⟩
theorem Gr.alloc {b2 b3:Nat}{w w':World}{o:Obj} (h:Gr b2 b3 w w'):Gr b2 b3 w (w'.alloc o):=
 ⟨fun b hb h2 h3=>by
  have:=h.s;show(w'.heap.push o)[b]?=_;rw[Y3,if_neg (by omega)];exact h.h b hb h2 h3,by have:=h.s;show _<=(w'.heap.push o).size;simp;omega,h.o,h.p⟩
theorem Gr.yb {b2 b3 j:Nat}{v:Value}{w w':World} (h:Gr b2 b3 w w'):Gr b2 b3 w (w'.setCell ⟨b2,j,none⟩ v):=
 ⟨fun b hb h2 h3=>by rw[heap_setCell_other _ _ _ _ h2];exact h.h b hb h2 h3,by have:=h.s;simpa[World.setCell]using this,by rw[<-h.o];simp[World.setCell],by rw[<-h.p];simp[World.setCell]⟩
theorem Gr.ye {b2 b3 j:Nat}{v:Value}{w w':World} (h:Gr b2 b3 w w'):Gr b2 b3 w (w'.setCell ⟨b3,j,none⟩ v):=
 ⟨fun b hb h2 h3=>by rw[heap_setCell_other _ _ _ _ h3];exact h.h b hb h2 h3,by have:=h.s;simpa[World.setCell]using this,by rw[<-h.o];simp[World.setCell],by rw[<-h.p];simp[World.setCell]⟩
theorem Gr.trans {b2 b3:Nat}{w w' gS:World} (h:Gr b2 b3 w w') (h2:Gr b2 b3 w' gS):Gr b2 b3 w gS:=
 ⟨fun b hb x2 x3=>(h2.h b (iF hb h.s) x2 x3).trans (h.h b hb x2 x3),eQ h.s h2.s,h2.o.trans h.o,h2.p.trans h.p⟩
theorem Gr.cell {b2 b3:Nat}{w w':World} (h:Gr b2 b3 w w') (x:Addr) (hl:x.block<w.heap.size) (h2:x.block≠b2) (h3:x.block≠b3):w'.cell? x=w.cell? x:=World.cell?_of_block (h.h x.block hl h2 h3)
def BJ (te:TypeId) (w w':World) (A:Option Addr) (k C:Nat) (news:List Value):Prop:=
 ∃(g:Nat) (aG:Array Value),A=some ⟨g,0,none⟩/\w.heap.size<=g/\g<w'.heap.size/\w'.heap[g]?=some (.cells aG te (0,0))/\aG.size=C*10/\k<=C/\∀(j:Nat) (u:Value),news[j]?=some u->aG[j]?=some u
theorem BJ.mono {te:TypeId}{b2 b3:Nat}{w w' gS:World}{A:Option Addr}{k C:Nat}{news:List Value} (h:BJ te w w' A k C news) (hg:Gr b2 b3 w' gS) (h2:b2<w.heap.size) (h3:b3<w.heap.size):BJ te w gS A k C news:=by
 obtain⟨g,aG,e1,e2,e3,e4,e5,e6,e7⟩:=h;exact⟨g,aG,e1,e2,iF e3 hg.s,(hg.h g e3 (by omega) (by omega)).trans e4,e5,e6,e7⟩
theorem Zer (w:World) (o:Obj):(w.alloc o).drew.heap[w.heap.size]?=some o:=by show(w.heap.push o)[w.heap.size]?=_;simp
theorem Zes (w:World) (o:Obj):∀x:Addr,x.block<w.heap.size->(w.alloc o).drew.cell? x=w.cell? x/\(w.alloc o).drew.frozen? x=w.frozen? x:=fun x hx=>by
 have h:(w.alloc o).drew.heap[x.block]?=w.heap[x.block]?:=by show(w.heap.push o)[x.block]?=_;rw[Y3,if_neg (by omega)]
 exact⟨World.cell?_of_block h,World.frozen?_of_block h⟩
theorem Zqc {P:Program}{ops:Array Oper}{o:Oper}{a:Act}{w:World}{K:Act->World->Prop}{Q:Exit->Act->World->Prop}{E:Prop} (w2:World) (b2 b3 aO off m c:Nat) (vD:o.guard=none) (s x:Operand) (t:TypeId)
  (ho:o.op=.call {callee:=.builtin .append,args:=#[s,x],argTypes:=#[t,t]}) (te:TypeId) (i:TypeInfo) (z:Value) (ht:P.underlying t=some (.slice te)) (hi:P.info? te=some i) (hz:i.zero=some z) (KZ:i.size=10) (j5:z.cells.size=10) (KD:i.bytes<=1024)
  (hG:Gr b2 b3 w2 w) (dt:aO≠b2) (lQ:aO≠b3) (aF:aO<w2.heap.size) (g0:Nat) (Sq:w2.heap.size<=g0) (Su:w.heap[g0]?=some (.cells #[] te (0,0))) (mX:∀x:Addr,x.block<w2.heap.size->w.cell? x=w2.cell? x/\w.frozen? x=w2.frozen? x) (hs:a.eval s=.slice (some ⟨g0,0,none⟩) 0 0)
  (hx:a.eval x=.slice (if c=1 then some ⟨aO,off,none⟩ else some ⟨aO,off+10,none⟩) (m-1) (c-1)) (hm:0<m) (SF:m<=c) (vK:m<4294967296) (news:List Value) (hl:news.length=(m-1)*10) (KT:∀j u,news[j]?=some u->w2.cell? ⟨aO,off+10+j,none⟩=some u)
  (h:∀A C w',Gr b2 b3 w2 w'->(∀x:Addr,x.block<w2.heap.size->w'.cell? x=w2.cell? x/\w'.frozen? x=w2.frozen? x)->BJ te w2 w' A (m-1) C news->K (a.put o.dst (.slice A (m-1) C)) w'):
  if Region.wanted o (yielded ops a.tmps)=true then Oper.wp P o a w K Q else E:=by
 have hw:Region.wanted o (yielded ops a.tmps)=true:=by simp[Region.wanted,vD]
 rw[if_pos hw];have hgl:g0<w.heap.size:=by
  rcases js g0 w.heap.size with h1|h1
  ·exact h1
  ·rw[Y2 h1]at Su;cases Su
 have hfc:∀w1:World,w1.heap=w.heap->(Builtin.firstCells 10 (m-1) (.slice (if c=1 then some ⟨aO,off,none⟩ else some ⟨aO,off+10,none⟩) (m-1) (c-1))).run P w1=.ok news.toArray w1:=fun w1 lm=>by
  by_cases mZ:m-1=0
  ·have:news=[]:=iY.1 (by rw[hl,mZ]);subst this;rw[mZ];exact EU (.inr ⟨rfl,rfl⟩) (by simp)
  ·have nB:c≠1:=by omega
   rw[if_neg nB];refine EU (.inl ⟨aO,off+10,rfl,fun j v hj=>?_⟩) hl;have h1:=KT j v hj;have h2:=hG.cell ⟨aO,off+10+j,none⟩ aF dt lQ;have:w1.cell? ⟨aO,off+10+j,none⟩=w.cell? ⟨aO,off+10+j,none⟩:=by simp only[World.cell?,lm]
   rw[this,h2,h1]
 have pv:∀(v:Value) (w':World),(Builtin.append_ #[t,t] o.type #[.slice (some ⟨g0,0,none⟩) 0 0,.slice (if c=1 then some ⟨aO,off,none⟩ else some ⟨aO,off+10,none⟩) (m-1) (c-1)]).run P w=.ok v w'->K (a.put o.dst v) w'->Oper.wp P o a w K Q:=fun v w' hr hK=>by
  unfold Oper.wp execOp;simp only[ho,resolve,invoke,builtin,Sem.run_bind,Sem.run_pure,Result.andThen_ok,List.map_toArray,fc,s8,hs,hx,hr];exact hK
 have C5:(#[Value.slice (some ⟨g0,0,none⟩) 0 0,.slice (if c=1 then some ⟨aO,off,none⟩ else some ⟨aO,off+10,none⟩) (m-1) (c-1)]:Array Value)[0]?=some (.slice (some ⟨g0,0,none⟩) 0 0):=by simp
 have C6:(#[Value.slice (some ⟨g0,0,none⟩) 0 0,.slice (if c=1 then some ⟨aO,off,none⟩ else some ⟨aO,off+10,none⟩) (m-1) (c-1)]:Array Value)[1]?=some (.slice (if c=1 then some ⟨aO,off,none⟩ else some ⟨aO,off+10,none⟩) (m-1) (c-1)):=by simp
 have qz:(#[t,t]:Array TypeId)[0]?=some t:=rfl;have iP:(#[t,t]:Array TypeId)[1]?=some t:=rfl;have dW:∀w:World,(sizeOf te).run P w=.ok 10 w:=fun w=>by simp[sizeOf,typeInfo,program,Bind.bind,Sem.bind,Sem.run,hi,Pure.pure,KZ]
 have vU:∀w:World,(typeInfo te).run P w=.ok i w:=fun w=>by simp[typeInfo,program,Bind.bind,Sem.bind,Sem.run,hi,Pure.pure]
 have hlen:(Builtin.lenOf (.slice (if c=1 then some ⟨aO,off,none⟩ else some ⟨aO,off+10,none⟩) (m-1) (c-1))).run P w=.ok (m-1) w:=by split<;>rfl
 by_cases mZ:m-1=0
 ·-- nothing
  have GA:news=[]:=iY.1 (by rw[hl,mZ]);refine pv (.slice (some ⟨g0,0,none⟩) (m-1) 0) w ?_ (h _ 0 w hG mX ⟨g0,#[],rfl,Sq,hgl,Su,rfl,by omega,fun j u hj=>by rw[GA]at hj;simp at hj⟩);unfold Builtin.append_;rw[qz,iP,C5,C6];simp only;rw[bu (jF ht)];simp only;rw[bu (dW w)];rw[bu (jF ht),bu (x:=false) (w':=w) rfl];simp only[cX,if_false];rw[bu (x:=m-1) (w':=w) (by first|exact hlen|rfl)];simp only[uA,if_true];rw[if_pos (by omega),bu (hfc w rfl),GA];rw[mZ];rfl
 ·generalize lm:({w with drawn:=w.drawn+1}:World)=w1;have xM:w1.heap=w.heap:=by rw[<-lm]
  obtain⟨mB,vL,R9⟩:∃mB,0+(m-1)<=mB/\(choose (.appendCap (0+(m-1)) 0 te)).run P w=.ok mB w1:=by
   refine⟨(Question.appendCap (0+(m-1)) 0 te).cut (w.tape w.drawn (.appendCap (0+(m-1)) 0 te)),?_,?_⟩
   ·simp only[Question.cut];omega
   ·rw[<-lm];simp[choose,Sem.run,Question.forced]
  obtain⟨zc,lW⟩:∃zc,zc=Builtin.zeroCells z.cells (mB-(0+(m-1))):=⟨_,rfl⟩
  have sK:∀w:World,(zeroValue te).run P w=.ok z w:=fun w=>by simp[zeroValue,typeInfo,program,Bind.bind,Sem.bind,Sem.run,hi,hz,Pure.pure]
  have Sc:((#[]:Array Value)++news.toArray++zc).size=mB*10:=by
   rw[lW];simp only[Array.size_append,List.size_toArray,PX,j5,hl];have:mB=(m-1)+(mB-(0+(m-1))):=by omega
   rw[this,Nat.add_mul];simp
  have iO:(World.more w1 (.cells ((#[]:Array Value)++news.toArray++zc) te (0,0))).heap=w.heap.push (.cells ((#[]:Array Value)++news.toArray++zc) te (0,0)):=by
   show w1.heap.push _=_;rw[xM]
  have hold:∀b,b<w.heap.size->(World.more w1 (.cells ((#[]:Array Value)++news.toArray++zc) te (0,0))).heap[b]?=w.heap[b]?:=fun b hb=>by
   rw[iO,Y3,if_neg (mM hb)]
  refine pv (.slice (some ⟨w.heap.size,0,none⟩) (m-1) mB) (World.more w1 (.cells ((#[]:Array Value)++news.toArray++zc) te (0,0))) ?_ (h _ mB _ ?_ ?_ ?_)
  ·unfold Builtin.append_;rw[qz,iP,C5,C6];simp only;rw[bu (jF ht)];simp only;rw[bu (dW w)];rw[bu (jF ht),bu (x:=false) (w':=w) rfl];simp only[cX,if_false];rw[bu (x:=m-1) (w':=w) (by first|exact hlen|rfl)];simp only[uA,if_true];rw[if_neg (by omega)];rw[bu (vU w)];have SE:IntKind.i64.max=9223372036854775807:=by decide
   rw[if_neg (by rw[SE];omega)];rw[bu (vU w)];have hnx:=Xc (0+(m-1)) 0 (by omega);have vx:Builtin.nextslicecap (0+(m-1)) 0*i.bytes<=(2*4294967296+1024)*1024:=Nat.mul_le_mul (by omega) KD;have hp:(2:Nat)^48=281474976710656:=by decide
   rw[if_neg (by rw[hp];omega)];rw[bu R9,bu (vU w1),bu (Px _)];have Ay:(Builtin.firstCells 10 0 (.slice (some ⟨g0,0,none⟩) 0 0)).run P w1=.ok (#[]:Array Value) w1:=EU (vs:=[]) (.inr ⟨rfl,rfl⟩) (by simp);rw[bu Ay,bu (hfc w1 xM)];rw[bu (sK w1),<-lW,bu Cn];rw[xM,db]
   first|rfl|skip
  ·refine hG.trans ⟨fun b hb _ _=>hold b hb,by rw[iO];simp,by show w1.os=_;rw[<-lm],by show w1.output=_;rw[<-lm]⟩
  ·intro x hx;have ue:x.block<w.heap.size:=iF hx hG.s;exact⟨(World.cell?_of_block (hold _ ue)).trans (mX x hx).1,(World.frozen?_of_block (hold _ ue)).trans (mX x hx).2⟩
  ·refine⟨w.heap.size,_,rfl,hG.s,by rw[iO];simp,by rw[iO];simp,Sc,by omega,fun j u hj=>?_⟩;have iA:=(bt.1 hj).1;rw[Y0 (by simp;omega)];simpa using hj
section
variable {ae:Nat->FuncId}{mv:Nat->Value}{w w':World}{ow ap:Nat->Ow}
theorem Vu:∀{es:List T}{j:Nat}{t:T},cP es=true->es[j]?=some t->t.closed=true
 |[],j,t,_,h=>by simp at h
 |e::es,0,t,hc,h=>by simp only[cP,Y8]at hc;simp at h;subst h;exact hc.1
 |e::es,j+1,t,hc,h=>by simp only[cP,Y8]at hc;exact Vu hc.2 (by simpa using h)
theorem Ya {r r':aJ}{p p':List Nat}{sz:Nat}{es:List T}{k k':Nat}{vs:List Value} (hc:cP es=true)
  (ht:∀j,j<es.length->Tr w ow w' ap (some (r,p++[k+j])) (some (r',p'++[k'+j]))) (h:cw ae mv w ow (some (r,p)) sz k es vs):cw ae mv w' ap (some (r',p')) sz k' es vs:=
 tC h fun j t v1 hj hr=>Jw t (Vu hc hj) (ht j (bt.1 hj).1) hr
theorem Zle {r r':aJ}{p p':List Nat}{sz:Nat}{e:T}{es:List T}{aO off nK cap uY:Nat} (hc:cP es=true)
  (h:ay ae mv w ow (some (r,p)) (.l .y sz (e::es)) [.slice (some ⟨aO,off,none⟩) (es.length+1) cap])
  (hb:ap aO=.own r' p'/\w'.heap[aO]?=w.heap[aO]?) (ht:∀j,Tr w ow w' ap (some (r,p++[j+1])) (some (r',p'++[j])))
  (ho:cap=1/\nK=off/\uY=0\/nK=off+sz/\uY=cap-1):ay ae mv w' ap (some (r',p')) (.l .y sz es) [.slice (some ⟨aO,nK,none⟩) es.length uY]:=by
 simp only[ay]at h⊢;obtain⟨_,A,cp,hv,h1,_,h3⟩:=h;simp only[fq,Value.slice.injEq,and_true]at hv;obtain⟨rfl,_,rfl⟩:=hv;refine⟨fun _=>by simp,_,_,rfl,by simp only[dH]at h1;omega,(fun k hk=>by cases hk),fun _=>?_⟩;obtain⟨hs,eF,aG,ty,fr,bE,hh,eA,bP,cg⟩:=h3 (.inl rfl);have hl:∀c:aJ×List Nat,Ob.loc .y (some c)=some c:=fun _=>rfl;rw[hl]at eF cg⊢;simp only[cw]at cg;obtain⟨v1,rest,rfl,dp,_,h2⟩:=cg;simp only[dH]at h1;obtain⟨hf1,Ax⟩:=eA rfl;simp only at Ax bP hh eF;have tP:cw ae mv w' ap (some (r',p')) sz 0 es rest:=Ya hc (fun j _=>by have:=ht j;rw[show 0+1+j=j+1 by omega,show 0+j=j by omega];exact this) h2;refine⟨rfl,hb.1,aG,ty,fr,rest,hb.2.trans hh,fun _=>⟨hf1,?_⟩,fun j v hj=>?_,tP⟩
 ·rcases ho with⟨rfl,rfl,rfl⟩|⟨rfl,rfl⟩
  ·have q:nK+1*sz<=aG.size:=Ax;show nK+0*sz<=aG.size;omega
  ·obtain⟨c,rfl⟩:∃c,cap=c+1:=⟨cap-1,by omega⟩
   have q:off+(c+1)*sz<=aG.size:=Ax;rw[iW]at q;show off+sz+(c+1-1)*sz<=aG.size;rw[Nat.add_sub_cancel];omega
 ·rcases ho with⟨rfl,rfl,rfl⟩|⟨rfl,rfl⟩
  ·have:es=[]:=iY.1 (by omega);subst this;simp only[cw]at h2;subst h2;simp at hj
  ·have:=bP (sz+j) v (by rw[kD (by omega),dp];simpa using hj);rw[<-fK]at this;exact this
end
theorem Ll {cs:List T}{i g:Nat}{p:Prop} (h:[Arg.st cs][i]?=some (.fb g)):p:=by
 cases i<;>simp at h
open Go.Proofs
def jy (ow:Nat->Ow):Nat->Ow:=fun b=>match ow b with|.own _ _=>.no|x=>x
theorem Iy {ae:Nat->FuncId}{mv:Nat->Value}{w:World}{ow:Nat->Ow}{c:Loc}{e:List T}{vs:List Value} (he:J8 e=true) (h:bZ ae mv w ow c 0 e vs):
  ∃(a0 a1:Int) (A2:Option Addr) (n2 c2:Nat) (a3 a4 a5 a6:Int) (A7:Option Addr) (n7 c7:Nat) (A8:Option Addr) (n8 c8:Nat) (A9:Option Addr) (n9 c9:Nat),
   vs=[.int .i64 a0,.int .i64 a1,.slice A2 n2 c2,.int .i64 a3,.int .i64 a4,.int .i64 a5,.int .i64 a6,.slice A7 n7 c7,.slice A8 n8 c8,.slice A9 n9 c9]:=by
 unfold J8 at he;split at he
 ·simp only[bZ,ay]at h;obtain⟨_,_,rfl,h0,_,_,rfl,h1,_,_,rfl,⟨_,A2,c2,h2,_⟩,_,_,rfl,h3,_,_,rfl,h4,_,_,rfl,h5,_,_,rfl,h6,_,_,rfl,⟨_,A7,c7,h7,_⟩,_,_,rfl,⟨_,A8,c8,h8,_⟩,_,_,rfl,⟨_,A9,c9,h9,_⟩,rfl⟩:=h;simp only[fq,and_true]at h0 h1 h2 h3 h4 h5 h6 h7 h8 h9;subst h0 h1 h2 h3 h4 h5 h6 h7 h8 h9;exact⟨_,_,_,_,_,_,_,_,_,_,_,_,_,_,_,_,_,_,rfl⟩
 ·cases he
theorem eE (w:World) (o:Obj):(w.alloc o).heap=w.heap.push o:=rfl
theorem ZR {ae:Nat->FuncId}{w:World}{ow:Nat->Ow}{r:aJ}:bZ ae eZ w ow (some (r,[])) 0 Uy [.int .i64 0,.int .i64 0,.slice none 0 0,.int .i64 0,.int .i64 0,.int .i64 0,.int .i64 0,.slice none 0 0,.slice none 0 0,.slice none 0 0]:=by
 simp only[Uy,bZ];exact⟨_,_,rfl,(by simp only[ay]),_,_,rfl,(by simp only[ay]),_,_,rfl,(by simp only[ay];exact⟨fun _=>by simp[Loc.push],none,0,rfl,Nat.le_refl _,(fun k hk=>by cases hk),rfl⟩),_,_,rfl,(by simp only[ay]),_,_,rfl,(by simp only[ay]),_,_,rfl,(by simp only[ay]),_,_,rfl,(by simp only[ay]),_,_,rfl,(by simp only[ay];exact⟨fun _=>by simp[Loc.push],none,0,rfl,Nat.le_refl _,(fun k hk=>by cases hk),rfl⟩),_,_,rfl,(by simp only[ay];exact⟨fun _=>by simp[Loc.push],none,0,rfl,Nat.le_refl _,(fun k hk=>by cases hk),rfl⟩),_,_,rfl,(by simp only[ay];exact⟨fun _=>by simp[Loc.push],none,0,rfl,Nat.le_refl _,(fun k hk=>by cases hk),rfl⟩),rfl⟩
def nN (f:aJ->List Nat->Ow) (bB aU:Nat->Ow):Nat->Ow:=fun b=>match bB b with|.own r p=>f r p|_=>aU b
def nO (f:aJ->List Nat->Ow) (bB aU:Nat->Ow) (g:Option Nat):Nat->Ow:=fun b=>if g=some b then .own (.rs 1) [0] else nN f bB aU b
theorem EO {f:aJ->List Nat->Ow}{bB aU:Nat->Ow}:nO f bB aU none=nN f bB aU:=by funext b;simp[nO]
theorem XV {f:aJ->List Nat->Ow}{bB aU:Nat->Ow}{g b:Nat} (h:b≠g):nO f bB aU (some g) b=nN f bB aU b:=by simp only[nO,aR];rw[if_neg (Ne.symm h)]
theorem fO.gr {b2 b3:Nat}{w w':World} (h:fO b2 b3 w w'):Gr b2 b3 w w':=⟨fun b _ h2 h3=>h.h b h2 h3,by rw[h.s];exact Nat.le_refl _,h.o,h.p⟩
section
variable {ae:Nat->FuncId}
theorem Jn {xs:List Arg}{vs:List Value}{arC afg out:Out}{w W3 w1 wo w2 w':World}{ow bB aU:Nat->Ow}{v vC vO:Value}{f:aJ->List Nat->Ow}{b2 b3:Nat} (g:Option Nat)
  (dl:∀b,ow b≠.no->b<w.heap.size) (s3:w.heap.size<=W3.heap.size) (e3:∀b,b<w.heap.size->W3.heap[b]?=w.heap[b]?) (o3:W3.os=w.os) (p3:W3.output=w.output)
  (ha:kw ae xs vs arC W3 ow w1 bB vC) (s4:w1.heap.size<=wo.heap.size) (e4:∀b,b<w1.heap.size->wo.heap[b]?=w1.heap[b]?) (o4:wo.os=w1.os) (p4:wo.output=w1.output)
  (eV:kw ae xs vs afg wo (jy bB) w2 aU vO) (hS:Gr b2 b3 w2 w') (hg:∀b,g=some b->w2.heap.size<=b/\b<w'.heap.size) (n2:w.heap.size<=b2) (n3:w.heap.size<=b3)
  (dK:afg.dG.length<=out.dG.length) (auH:1<out.dG.length) (hf:∀r p j q,f r p=.own (.rs j) q->j<out.dG.length)
  (sI:nU ae w' (nO f bB aU g) out.dG v) (An:jN ae w' (nO f bB aU g) 0 xs vs out.back):kw ae xs vs out w ow w' (nO f bB aU g) v:=by
 have l12:w1.heap.size<=w2.heap.size:=eQ s4 eV.grown;have l01:w.heap.size<=w1.heap.size:=eQ s3 ha.grown;have Dt:∀b,b<w2.heap.size->nO f bB aU g b=nN f bB aU b:=fun b hb=>by
  simp only[nO];rw[if_neg];intro e;have:=(hg b e).1;omega
 have hz:∀b,ow b=.z->bB b=.z/\aU b=.z/\w'.heap[b]?=w.heap[b]?:=fun b hb=>by
  have l:=dl b (by rw[hb];simp);have q1:=ha.z b hb;have l1:=ha.low b (by rw[q1.1];simp);have q2:=eV.z b (by simp only[jy,q1.1]);exact⟨q1.1,q2.1,by rw[hS.h b (by omega) (by omega) (by omega),q2.2,e4 b l1,q1.2,e3 b l]⟩
 have hn:∀b,b<w.heap.size->ow b=.no->bB b=.no/\aU b=.no/\w'.heap[b]?=w.heap[b]?:=fun b l hb=>by
  have q1:=ha.no b (by omega) hb;have l1:b<w1.heap.size:=by omega
  have q2:=eV.no b (by omega) (by simp only[jy,q1.1]);exact⟨q1.1,q2.1,by rw[hS.h b (by omega) (by omega) (by omega),q2.2,e4 b l1,q1.2,e3 b l]⟩
 refine⟨fun b hb=>?_,fun b l hb=>?_,fun b hb=>?_,?_,?_,?_,sI,An,fun b j q hb=>?_⟩
 ·obtain⟨h1,h2,h3⟩:=hz b hb;have l:=dl b (by rw[hb];simp);exact⟨by rw[Dt b (by omega)];simp only[nN,h1,h2],h3⟩
 ·obtain⟨h1,h2,h3⟩:=hn b l hb;exact⟨by rw[Dt b (by omega)];simp only[nN,h1,h2],h3⟩
 ·have hs:=hS.s;by_cases e:g=some b
  ·exact(hg b e).2
  ·simp only[nO,if_neg e]at hb;cases h:bB b with
   |own r p=>have:=ha.low b (by rw[h];simp);omega
   |no=>have:=eV.low b (by simpa only[nN,h]using hb);omega
   |z=>have:=eV.low b (by simpa only[nN,h]using hb);omega
 ·have:=hS.s;omega
 ·rw[hS.o,eV.os,o4,ha.os,o3]
 ·rw[hS.p,eV.output,p4,ha.output,p3]
 ·simp only[nO]at hb;split at hb
  ·simp at hb;omega
  ·simp only[nN]at hb;split at hb
   ·exact hf _ _ _ _ hb
   ·exact iF (eV.rs b j q hb) dK
end
end Go.Wr
namespace Go.Wr
open Go.Proofs
theorem JB {P:Program} (w:World) (dT sT ty elem:TypeId) (b o aah alL:Nat) (a:Addr) (afW atz:Nat) (cs:List Value) (sz n:Nat)
  (hu:P.underlying dT=some (.slice elem)) (hs:(P.info? elem).map (·.size)=some sz) (Gz:Nat.min afW aah=n) (hn:cs.length=n*sz)
  (GH:∀j v,cs[j]?=some v->w.cell? (a.add j)=some v) (hc:∀j,j<cs.length->(w.cell? ⟨b,o+j,none⟩).isSome=true) (hf:∀j,j<cs.length->w.frozen? ⟨b,o+j,none⟩=false) (h1:∀v∈cs,v.oneCell'=true):
  (Builtin.copy_ #[dT,sT] ty #[.slice (some ⟨b,o,none⟩) aah alL,.slice (some a) afW atz]).run P w=.ok (goInt (n:Int)) (w.setCells b o cs):=by
 have hl:=run_loadCells_list (P:=P) w a cs GH;have bD:=run_storeCells_cells (P:=P) b o cs 0 w (by simpa using hc) (by simpa using hf) h1;cases hq:P.info? elem with
 |none=>simp[hq]at hs
 |some i=>
  have hi:i.size=sz:=by simpa[hq]using hs
  rw[hn]at hl;simp[Builtin.copy_,run_underlying hu,Builtin.lenOf,Builtin.firstCells,sizeOf,typeInfo,hq,hi,Gz,hl,bD]
theorem Znd {P:Program}{t:TypeId}{n:Nat} (h:(P.info? t).map (·.size)=some n) (w:World):(Go.sizeOf t).run P w=.ok n w:=by
 cases hq:P.info? t with
 |none=>simp[hq]at h
 |some i=>
  have hi:i.size=n:=by simpa[hq]using h
  simp[Go.sizeOf,typeInfo,hq,hi]
end Go.Wr
namespace Go.Wr
open Go.Proofs
theorem Xn {v:Value} (h:oT v=true):v.oneCell'=true:=by cases v<;>first|rfl|cases h
theorem EY {b:Nat}{ty:TypeId}{fr:Nat×Nat}:∀(vs:List Value) (o:Nat) (w:World) (aG:Array Value),w.heap[b]?=some (.cells aG ty fr)->
  ∃fy,(w.setCells b o vs).heap[b]?=some (.cells fy ty fr)/\fy.size=aG.size/\(∀b',b'≠b->(w.setCells b o vs).heap[b']?=w.heap[b']?)/\(w.setCells b o vs).heap.size=w.heap.size/\(w.setCells b o vs).os=w.os/\(w.setCells b o vs).output=w.output
 |[],o,w,aG,h=>⟨aG,h,rfl,fun _ _=>rfl,rfl,rfl,rfl⟩
 |v::vs,o,w,aG,h=>by
  obtain⟨h1,h2,h3⟩:=YF (o:=o) (v:=v) h;obtain⟨fy,h4,h5,h6,h7,h8,h9⟩:=EY vs (o+1) (w.setCell ⟨b,o,none⟩ v) _ h1;exact⟨fy,h4,by rw[h5];simp,fun b' cU=>(h6 b' cU).trans (h2 b' cU),h7.trans h3,h8.trans (by simp[World.setCell]),h9.trans (by simp[World.setCell])⟩
structure Ea (w w':World) (aO:Option Nat) (n:Nat) (cells:List Value) (A:Option Addr) (C:Nat):Prop where
 ex:∃(b' nK:Nat) (aG:Array Value) (ty:TypeId) (fr:Nat×Nat),A=some ⟨b',nK,none⟩/\(aO=some b'\/w.heap.size<=b')/\b'<w'.heap.size/\w'.heap[b']?=some (.cells aG ty fr)/\sV 10 aG fr/\nK+C*10<=aG.size/\
  (∀(j:Nat) (u:Value),cells[j]?=some u->aG[nK+j]?=some u)/\∀b,b<w.heap.size->b≠b'->w'.heap[b]?=w.heap[b]?
 cap:n<=C
 s:w.heap.size<=w'.heap.size
 o:w'.os=w.os
 p:w'.output=w.output
def ug (ow:Nat->Ow) (i:Nat) (b':Nat):Nat->Ow:=fun b=>if b=b' then .own (.rs 0) [] else match ow b with
 |.own (.ar 0) (j::q)=>.own (.rs 0) ((if j<i then j else j+1)::q)
 |.own (.ar 2) (0::q)=>.own (.rs 0) (i::q)
 |.own _ _=>.no
 |x=>x
theorem X6 {ae:Nat->FuncId}{mv:Nat->Value}{w w':World}{ow ap:Nat->Ow}{c c2 c':Loc}{e:T}:∀{es:List T}{i k k':Nat}{vs ek:List Value},i<=es.length->cw ae mv w ow c 10 k es vs->cw ae mv w ow c2 10 0 [e] ek->
  (∀(j:Nat) t v1,es[j]?=some t->ay ae mv w ow (c.push (k+j)) t v1->ay ae mv w' ap (c'.push (k'+if j<i then j else j+1)) t v1)->(∀v1,ay ae mv w ow (c2.push 0) e v1->ay ae mv w' ap (c'.push (k'+i)) e v1)->
  cw ae mv w' ap c' 10 k' (es.take i++e::es.drop i) (vs.take (i*10)++(ek++vs.drop (i*10)))
 |es,0,k,k',vs,ek,_,h,h2,hm,he=>by
  simp only[List.take_zero,eC,List.drop_zero,BL];simp only[cw]at h2⊢;obtain⟨v1,rest,rfl,hl,hr,hn⟩:=h2;subst hn;refine⟨v1,vs,by simp,hl,he v1 hr,tC h fun j t v1 ht hr=>?_⟩;have:=hm j t v1 ht hr;rw[if_neg (by omega)]at this;rw[show k'+1+j=k'+(j+1) by omega];exact this
 |[],i+1,_,_,_,_,hi,_,_,_,_=>by simp at hi
 |t::es,i+1,k,k',vs,ek,hi,h,h2,hm,he=>by
  simp only[cw]at h;obtain⟨v1,rest,rfl,hl,hr,h3⟩:=h;have e1:(v1++rest).take ((i+1)*10)=v1++rest.take (i*10):=by
   rw[List.take_append,hl,p8 (by omega)];congr 2;omega
  have e2:(v1++rest).drop ((i+1)*10)=rest.drop (i*10):=by
   rw[List.drop_append,hl,List.drop_of_length_le (by omega),eC];congr 1;omega
  rw[e1,e2,List.take_succ_cons,List.drop_succ_cons,gf,gY];simp only[cw];refine⟨v1,_,rfl,hl,?_,X6 (by simpa using hi) h3 h2 (fun j t v1 ht hr=>?_) (fun v1 hr=>?_)⟩
  ·have:=hm 0 t v1 rfl hr
   rwa [if_pos (by omega)]at this
  ·have:=hm (j+1) t v1 (by simpa using ht) (by rw[show k+(j+1)=k+1+j by omega];exact hr);by_cases h:j<i
   ·rw[if_pos (by omega)]at this;rw[if_pos h,show k'+1+j=k'+(j+1) by omega];exact this
   ·rw[if_neg (by omega)]at this;rw[if_neg h,show k'+1+(j+1)=k'+(j+1+1) by omega];exact this
  ·have:=he v1 hr;rw[show k'+1+i=k'+(i+1) by omega];exact this
theorem EA {ae:Nat->FuncId}{w w':World}{ow:Nat->Ow}{es:List T}{e:T}{i:Nat}{v0 v1 v2:Value}{jM ek:List Value}{aO:Option Nat}{A:Option Addr}{C:Nat}
  (dl:∀b,ow b≠.no->b<w.heap.size) (j3:∀b r q,ow b=.own r q->∃i,r=.ar i/\i<3) (hi:i<=es.length)
  (cg:cw ae eZ w ow (some (.ar 0,[])) 10 0 es jM) (he:cw ae eZ w ow (some (.ar 2,[])) 10 0 [e] ek) (hblk:∀b,aO=some b->ow b=.own (.ar 0) [])
  (hR:Ea w w' aO (es.length+1) (jM.take (i*10)++(ek++jM.drop (i*10))) A C):
  ∃ap,kw ae [.own (.l .y 10 es),.x (.i .i64 (i:Nat)),.own (.l .y 10 [e])] [v0,v1,v2] ⟨[.one (.l .y 10 (es.take i++e::es.drop i))],[]⟩ w ow w' ap (.slice A (es.length+1) C):=by
 obtain⟨b',nK,aG,ty,fr,rfl,cU,rn,hh,hf,dW,eu,KG⟩:=hR.ex;have eh:∀b,ow b≠.no->ow b≠.own (.ar 0) []->b≠b':=fun b hb hn sx=>by
  rcases cU with h|h
  ·exact hn (sx▸hblk b' h)
  ·have:=dl b hb;omega
 have bC:∀b r k q,ow b=.own r (k::q)->b≠b':=fun b r k q hb=>eh b (by rw[hb];simp) (by rw[hb];simp);have hz:Zs w ow w' (ug ow i b'):=fun b hb=>by
  have:b≠b':=eh b (by rw[hb];simp) (by rw[hb];simp);exact⟨by simp only[ug,if_neg this,hb],KG b (dl b (by rw[hb];simp)) this⟩
 refine⟨ug ow i b',⟨hz,fun b hb hn=>?_,fun b hb=>?_,hR.s,hR.o,hR.p,?_,trivial,fun b j q hb=>?_⟩⟩
 ·have:b≠b':=fun e=>by
   rcases cU with h|h
   ·have:=hblk b' h;rw[<-e,hn]at this;cases this
   ·omega
  exact⟨by simp only[ug,if_neg this,hn],KG b hb this⟩
 ·by_cases h:b=b'
  ·rw[h];exact rn
  ·have:ow b≠.no:=fun e=>hb (by simp only[ug,if_neg h,e]);exact iF (dl b this) hR.s
 ·show ay ae eZ w' (ug ow i b') (some (.rs 0,[])) (.l .y 10 (es.take i++e::es.drop i)) [_];have hlen:(es.take i++e::es.drop i).length=es.length+1:=by simp;omega
  simp only[ay,hlen];refine⟨fun _=>by simp,some ⟨b',nK,none⟩,C,rfl,hR.cap,(fun k hk=>by cases hk),fun _=>⟨rfl,by simp[ug,Ob.loc,Ob.own,Loc.ow],aG,ty,fr,_,hh,fun _=>⟨hf,dW⟩,eu,?_⟩⟩;refine X6 hi cg he (fun j t v1 ht hr=>?_) fun v1 hr=>?_
  ·refine cB hz t (c:=some (.ar 0,[]++[0+j])) (c':=some (.rs 0,[]++[0+if j<i then j else j+1])) (fun b q hb=>?_) hr;simp only[db,eC,gf]at hb⊢;have h1:=bC b _ _ _ hb;exact⟨by simp only[ug,if_neg h1,hb],KG b (dl b (by rw[hb];simp)) h1⟩
  ·refine cB hz e (c:=some (.ar 2,[]++[0])) (c':=some (.rs 0,[]++[0+i])) (fun b q hb=>?_) hr;simp only[db,eC,gf]at hb⊢;have h1:=bC b _ _ _ hb;exact⟨by simp only[ug,if_neg h1,hb],KG b (dl b (by rw[hb];simp)) h1⟩
 ·unfold ug at hb;split at hb
  ·simp at hb;obtain⟨rfl,_⟩:=hb;simp
  ·split at hb
   ·simp at hb;obtain⟨rfl,_⟩:=hb;simp
   ·simp at hb;obtain⟨rfl,_⟩:=hb;simp
   ·cases hb
   ·rename_i h3;exact absurd hb (h3 _ _)
theorem Ww {cs vs:List Value}{k:Nat}{C:Nat->Option Value} (hk:k<=cs.length) (hv:vs.length=10) (h1:∀(j:Nat) u,j<k->cs[j]?=some u->C j=some u) (h2:∀(j:Nat) u,vs[j]?=some u->C (k+j)=some u)
  (h3:∀(j:Nat) u,cs[k+j]?=some u->C (k+10+j)=some u):∀(j:Nat) u,(cs.take k++(vs++cs.drop k))[j]?=some u->C j=some u:=by
 intro j u hj;have ht:(cs.take k).length=k:=by simp;omega
 by_cases a:j<k
 ·rw[nl (by omega),wO a]at hj;exact h1 j u a hj
 ·rw[kD (by omega),ht]at hj;by_cases b:j-k<10
  ·rw[nl (by omega)]at hj;have:=h2 _ u hj
   rwa [show k+(j-k)=j by omega]at this
  ·rw[kD (by omega),hv,rT]at hj;have:=h3 _ u hj
   rwa [show k+10+(j-k-10)=j by omega]at this
theorem nY {w:World}{b:Nat}{aG:Array Value}{ty:TypeId}{fr:Nat×Nat} (h:w.heap[b]?=some (.cells aG ty fr)) (j:Nat):w.cell? ⟨b,j,none⟩=aG[j]?:=by simp[World.cell?,h]
theorem Wu {w w0:World}{b off n c i:Nat}{cs vs:List Value}{aG:Array Value}{ty:TypeId}{fr:Nat×Nat} (hw:w0.heap=w.heap) (ho:w0.os=w.os) (hp:w0.output=w.output) (hh:w.heap[b]?=some (.cells aG ty fr)) (hf:sV 10 aG fr)
  (dW:off+c*10<=aG.size) (vL:n+1<=c) (hi:i<=n) (dV:cs.length=n*10) (dC:vs.length=10) (fX:∀(j:Nat) u,cs[j]?=some u->aG[off+j]?=some u):
  Ea w ((w0.setCells b (off+(i+1)*10) (cs.drop (i*10))).setCells b (off+i*10) vs) (some b) (n+1) (cs.take (i*10)++(vs++cs.drop (i*10))) (some ⟨b,off,none⟩) c:=by
 have De:w0.heap[b]?=some (.cells aG ty fr):=by rw[hw];exact hh
 obtain⟨a1,h1,s1,f1,z1,o1,p1⟩:=EY (cs.drop (i*10)) (off+(i+1)*10) w0 aG De;obtain⟨a2,h2,s2,f2,z2,o2,p2⟩:=EY vs (off+i*10) _ a1 h1;have rn:b<w.heap.size:=by
  rcases js b w.heap.size with h|h
  ·exact h
  ·rw[Y2 h]at hh;cases hh
 have Ar:(cs.drop (i*10)).length=(n-i)*10:=by rw[wP,dV];omega
 have atB:∀x,x<aG.size->(w0.cell? ⟨b,x,none⟩).isSome=true:=fun x hx=>by rw[nY De,Y1 hx];rfl
 have atC:∀x,x<aG.size->((w0.setCells b (off+(i+1)*10) (cs.drop (i*10))).cell? ⟨b,x,none⟩).isSome=true:=fun x hx=>by rw[nY h1,Y1 (by omega)];rfl
 refine⟨⟨b,off,a2,ty,fr,rfl,.inl rfl,by rw[z2,z1,hw];exact rn,h2,by unfold sV at*;rw[s2,s1];exact hf,by rw[s2,s1];exact dW,?_,fun x _ hx=>by rw[f2 x hx,f1 x hx,hw]⟩,vL,by rw[z2,z1,hw];exact Nat.le_refl _,by rw[o2,o1,ho],by rw[p2,p1,hp]⟩;refine Ww (C:=fun j=>a2[off+j]?) (by omega) dC (fun j u hj hu=>?_) (fun j u hu=>?_) fun j u hu=>?_
 ·show a2[off+j]?=_;rw[<-nY h2,World.cell?_setCells_out b vs _ _ ⟨b,off+j,none⟩ (fun _ _=>.inl (by show off+j<_;omega)),World.cell?_setCells_out b _ _ _ ⟨b,off+j,none⟩ (fun _ _=>.inl (by show off+j<_;omega)),nY De];exact fX j u hu
 ·have iA:=(bt.1 hu).1;show a2[off+(i*10+j)]?=_;rw[<-nY h2];have:=World.cell?_setCells_in b vs (off+i*10) (w0.setCells b (off+(i+1)*10) (cs.drop (i*10))) (fun k hk=>atC _ (by omega)) j iA;rw[show off+(i*10+j)=off+i*10+j by omega,this];rw[<-hu,bF iA]
 ·have iA:=(bt.1 hu).1;show a2[off+(i*10+10+j)]?=_;rw[<-nY h2,World.cell?_setCells_out b vs _ _ ⟨b,off+(i*10+10+j),none⟩ (fun _ _=>.inr (by show _<=off+(i*10+10+j);omega))];have fP:j<(cs.drop (i*10)).length:=by rw[wP];omega
  have:=World.cell?_setCells_in b (cs.drop (i*10)) (off+(i+1)*10) w0 (fun k hk=>atB _ (by omega)) j fP;rw[show off+(i*10+10+j)=off+(i+1)*10+j by omega,this];rw[<-hu,List.getElem_drop,bF iA]
theorem Wt {w:World}{aO:Option Nat}{n G te:Nat}{cs vs:List Value}{zc:Array Value} (hG:n+1<=G) (dV:cs.length=n*10) (dC:vs.length=10) (hz:zc.size=(G-(n+1))*10):
  Ea w (w.drew.alloc (.cells ((cs++vs).toArray++zc) te)) aO (n+1) (cs.take (n*10)++(vs++cs.drop (n*10))) (some ⟨w.heap.size,0,none⟩) G:=by
 have e:cs.take (n*10)++(vs++cs.drop (n*10))=cs++vs:=by rw[p8 (by omega),List.drop_of_length_le (by omega),nW]
 rw[e];have iO:(w.drew.alloc (.cells ((cs++vs).toArray++zc) te)).heap=w.heap.push (.cells ((cs++vs).toArray++zc) te):=rfl;refine⟨⟨w.heap.size,0,(cs++vs).toArray++zc,te,(0,0),rfl,.inr (Nat.le_refl _),by rw[iO];simp,by rw[iO];simp,.inl (Nat.le_refl _),by simp[hz,dV,dC];omega,fun j u hj=>?_,fun b hb _=>by rw[iO,Y3,if_neg (by omega)]⟩,hG,by rw[iO];simp,rfl,rfl⟩;have iA:=(bt.1 hj).1;rw[db,Y0 (by simpa using iA)];simpa using hj
theorem Zbv {w:World}{aO:Option Nat}{n G te i:Nat}{cs vs:List Value}{zc:Array Value} (hi:i<=n) (hG:n+1<=G) (dV:cs.length=n*10) (dC:vs.length=10) (hz:zc.size=(G-i)*10):
  Ea w ((((w.alloc (.cells ((cs.take (i*10)).toArray++zc) te)).drew.setCells w.heap.size (i*10) vs).drew).setCells w.heap.size ((i+1)*10) (cs.drop (i*10))) aO (n+1) (cs.take (i*10)++(vs++cs.drop (i*10))) (some ⟨w.heap.size,0,none⟩) G:=by
 have iO:(w.alloc (.cells ((cs.take (i*10)).toArray++zc) te)).drew.heap=w.heap.push (.cells ((cs.take (i*10)).toArray++zc) te):=rfl;have dW:((cs.take (i*10)).toArray++zc).size=G*10:=by simp[hz,dV];omega
 have Ar:(cs.drop (i*10)).length=(n-i)*10:=by rw[wP,dV];omega
 obtain⟨a1,h1,s1,f1,z1,o1,p1⟩:=EY (b:=w.heap.size) (ty:=te) (fr:=(0,0)) vs (i*10) (w.alloc (.cells ((cs.take (i*10)).toArray++zc) te)).drew ((cs.take (i*10)).toArray++zc) (by rw[iO];simp);obtain⟨a2,h2,s2,f2,z2,o2,p2⟩:=EY (b:=w.heap.size) (ty:=te) (fr:=(0,0)) (cs.drop (i*10)) ((i+1)*10) ((w.alloc (.cells ((cs.take (i*10)).toArray++zc) te)).drew.setCells w.heap.size (i*10) vs).drew a1 h1;have De:(w.alloc (.cells ((cs.take (i*10)).toArray++zc) te)).drew.heap[w.heap.size]?=some (.cells ((cs.take (i*10)).toArray++zc) te (0,0)):=by rw[iO];simp
 have z2':((((w.alloc (.cells ((cs.take (i*10)).toArray++zc) te)).drew.setCells w.heap.size (i*10) vs).drew).setCells w.heap.size ((i+1)*10) (cs.drop (i*10))).heap.size=w.heap.size+1:=by
  rw[z2];show((w.alloc (.cells ((cs.take (i*10)).toArray++zc) te)).drew.setCells w.heap.size (i*10) vs).heap.size=_;rw[z1,iO];simp
 have xB:((w.alloc (.cells ((cs.take (i*10)).toArray++zc) te)).drew.setCells w.heap.size (i*10) vs).drew.heap[w.heap.size]?=some (.cells a1 te (0,0)):=h1;refine⟨⟨w.heap.size,0,a2,te,(0,0),rfl,.inr (Nat.le_refl _),by rw[z2'];omega,h2,.inl (Nat.le_refl _),by rw[s2,s1,dW];omega,?_,fun b hb bC=>?_⟩,hG,by rw[z2'];omega,by rw[o2];exact o1,by rw[p2];exact p1⟩
 ·refine Ww (C:=fun j=>a2[0+j]?) (by omega) dC (fun j u hj hu=>?_) (fun j u hu=>?_) fun j u hu=>?_
  ·show a2[0+j]?=_;rw[db,<-nY h2,World.cell?_setCells_out _ _ _ _ ⟨w.heap.size,j,none⟩ (fun _ _=>.inl (by show j<_;omega)),World.cell?_drew,World.cell?_setCells_out _ _ _ _ ⟨w.heap.size,j,none⟩ (fun _ _=>.inl hj),nY De];rw[Y0 (by simp;omega)];simp only[List.getElem?_toArray,wO hj];exact hu
  ·have iA:=(bt.1 hu).1;show a2[0+(i*10+j)]?=_;rw[db,<-nY h2,World.cell?_setCells_out _ _ _ _ ⟨w.heap.size,i*10+j,none⟩ (fun _ _=>.inl (by show i*10+j<_;omega)),World.cell?_drew];have:=World.cell?_setCells_in w.heap.size vs (i*10) (w.alloc (.cells ((cs.take (i*10)).toArray++zc) te)).drew (fun k hk=>by rw[nY De,Y1 (by rw[dW];omega)];rfl) j iA;rw[this,<-hu,bF iA]
  ·have iA:=(bt.1 hu).1;have fP:j<(cs.drop (i*10)).length:=by rw[wP];omega
   show a2[0+(i*10+10+j)]?=_;rw[db,<-nY h2];have:=World.cell?_setCells_in w.heap.size (cs.drop (i*10)) ((i+1)*10) ((w.alloc (.cells ((cs.take (i*10)).toArray++zc) te)).drew.setCells w.heap.size (i*10) vs).drew (fun k hk=>by rw[nY xB,Y1 (by rw[s1,dW];omega)];rfl) j fP;rw[show i*10+10+j=(i+1)*10+j by omega,this,<-hu,List.getElem_drop,bF iA]
 ·rw[f2 b (by omega)];show((w.alloc (.cells ((cs.take (i*10)).toArray++zc) te)).drew.setCells w.heap.size (i*10) vs).heap[b]?=_;rw[f1 b (by omega),iO,Y3,if_neg (by omega)]
end Go.Wr

