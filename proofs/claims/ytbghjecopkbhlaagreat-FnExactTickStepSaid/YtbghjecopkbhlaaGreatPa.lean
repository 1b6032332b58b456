/-
  What is proved: lemmas for the laws. No condition.
-/
import Derived.Test.YtbghjecopkbhlaaGreatQb
set_option linter.unusedVariables false
set_option linter.unusedSimpArgs false
namespace Go.Wr
def In (n:Int) (s:List af):Prop:=∃x∈s,x.Lo<=n/\n<=x.Hi
theorem oi {n:Int}:¬In n []:=by rintro⟨x,hx,_⟩;cases hx
theorem Ey {n:Int}:In n []<->False:=⟨oi,False.elim⟩
theorem qe {n:Int}{x:af}{s:List af}:In n (x::s)<->(x.Lo<=n/\n<=x.Hi)\/In n s:=by
 constructor
 ·rintro⟨y,hy,h⟩;rcases iG.1 hy with rfl|hy
  ·exact .inl h
  ·exact .inr ⟨y,hy,h⟩
 ·rintro(h|⟨y,hy,h⟩)
  ·exact⟨x,fe,h⟩
  ·exact⟨y,fJ _ hy,h⟩
theorem qd {n:Int}{s t:List af}:In n (s++t)<->In n s\/In n t:=by
 constructor
 ·rintro⟨x,hx,h⟩;rcases kF.1 hx with hx|hx
  ·exact .inl ⟨x,hx,h⟩
  ·exact .inr ⟨x,hx,h⟩
 ·rintro(⟨x,hx,h⟩|⟨x,hx,h⟩)
  ·exact⟨x,pf _ hx,h⟩
  ·exact⟨x,nX _ hx,h⟩
theorem IR {n:Int}{x:af}:In n [x]<->x.Lo<=n/\n<=x.Hi:=by rw[qe];simp[oi]
theorem zC {s:List af}{n:Int}:uo s n=true<->In n s:=by
 unfold uo;rw[qN];constructor
 ·rintro⟨x,hx,h⟩;exact⟨x,hx,by simpa[bq]using h⟩
 ·rintro⟨x,hx,h⟩;exact⟨x,hx,by simpa[bq]using h⟩
theorem zD:dv []:=⟨by simp,List.Pairwise.nil⟩
theorem dv.tail {x:af}{s:List af} (h:dv (x::s)):dv s:=⟨fun y hy=>h.lo y (fJ _ hy),(qQ.1 h.ord).2⟩
theorem dv.head {x:af}{s:List af} (h:dv (x::s)):∀y∈s,x.Hi+1<y.Lo:=(qQ.1 h.ord).1
theorem dv.one {x:af}{s:List af} (h:dv (x::s)):fo x:=h.lo x fe
theorem dv.span {s:List af} (h:dv s) {x:af} (hx:x∈s):fo x:=h.lo x hx
theorem dv.append {s t:List af} (hs:dv s) (ht:dv t) (h:∀x∈s,∀y∈t,x.Hi+1<y.Lo):dv (s++t):=
 ⟨fun x hx=>(kF.1 hx).elim (hs.lo x) (ht.lo x),List.pairwise_append.2 ⟨hs.ord,ht.ord,h⟩⟩
theorem EZ {x:af} (h:fo x):dv [x]:=⟨fun y hy=>by simp only[rU]at hy;subst hy;exact h,by simp⟩
theorem dv.gt {x:af}{s:List af} (h:dv (x::s)) {n:Int} (hn:In n s):x.Hi+1<n:=by
 obtain⟨y,hy,h1,_⟩:=hn;have:=h.head y hy;omega
theorem Fa:∀{s t:List af},dv s->dv t->(∀n,In n s<->In n t)->s=t
 |[],[],_,_,_=>rfl
 |[],y::t,_,ht,h=>by
  have:=(h y.Lo).2 ⟨y,fe,Int.le_refl _,(ht.one).2.1⟩;exact absurd this oi
 |x::s,[],hs,_,h=>by
  have:=(h x.Lo).1 ⟨x,fe,Int.le_refl _,(hs.one).2.1⟩;exact absurd this oi
 |x::s,y::t,hs,ht,h=>by
  have hx:=hs.one;have hy:=ht.one;unfold fo at hx hy;have iC:x.Lo=y.Lo:=by
   have h1:=(h x.Lo).1 ⟨x,fe,by omega,by omega⟩;have h2:=(h y.Lo).2 ⟨y,fe,by omega,by omega⟩;rw[qe]at h1 h2;rcases h1 with h1|h1<;>rcases h2 with h2|h2
   ·omega
   ·have:=hs.gt h2;omega
   ·have:=ht.gt h1;omega
   ·have:=hs.gt h2;have:=ht.gt h1;omega
  have AA:x.Hi=y.Hi:=by
   have no:∀{u:af}{l:List af},dv (u::l)->¬In (u.Hi+1) (u::l):=fun{u l} hu h2=>by
    rcases qe.1 h2 with h2|h2
    ·omega
    ·have:=hu.gt h2;omega
   have h1:=no hs;have h2:=no ht;rw[h]at h1;rw[<-h]at h2;rw[qe]at h1 h2;have h3:¬(y.Lo<=x.Hi+1/\x.Hi+1<=y.Hi):=fun h=>h1 (.inl h);have h4:¬(x.Lo<=y.Hi+1/\y.Hi+1<=x.Hi):=fun h=>h2 (.inl h);omega
  have oR:x=y:=by
   cases x;cases y;simp only at iC AA;rw[iC,AA]
  subst oR;rw[Fa hs.tail ht.tail fun n=>?_];have h1:=h n;rw[qe,qe]at h1;constructor
  ·intro h2;have:=hs.gt h2;rcases h1.1 (.inr h2) with h3|h3
   ·omega
   ·exact h3
  ·intro h2;have:=ht.gt h2;rcases h1.2 (.inr h2) with h3|h3
   ·omega
   ·exact h3
structure Ie (p:kS) (t:List af):Prop where
 out:dv p.out
 rest:dv t
 apart:∀y∈p.out,∀z∈t,y.Hi+1<z.Lo
 x:fo p.x
 no:p.done=false->∀y∈p.out,y.Hi+1<p.x.Lo
 yes:p.done=true->∀z∈t,p.x.Hi+1<z.Lo
def kS.all (p:kS):List af:=if p.done then p.out else p.out++[p.x]
theorem Zj6 {p:kS}{y:af}{t:List af} (h:Ie p (y::t)):Ie (iS p y) t/\∀n,In n (iS p y).all\/In n t<->In n p.all\/In n (y::t):=by
 have hy:=h.rest.one;have GN:=h.rest.head;have hx:=h.x;have SQ:∀z∈p.out,z.Hi+1<y.Lo:=fun z hz=>h.apart z hz y fe;have Dh:∀z∈p.out,∀w∈t,z.Hi+1<w.Lo:=fun z hz w hw=>h.apart z hz w (fJ _ hw);have abu:dv (p.out++[y]):=h.out.append (EZ hy) (by simpa using SQ);unfold fo at hx hy;unfold iS;split
 ·rename_i h1;have hd:p.done=false:=by
   cases hd:p.done with
   |false=>rfl
   |true=>have:=h.yes hd y fe;omega
  refine⟨⟨abu,h.rest.tail,?_,h.x,fun _=>?_,fun h2=>?_⟩,fun n=>?_⟩
  ·intro z hz w hw;rcases kF.1 hz with hz|hz
   ·exact Dh z hz w hw
   ·simp only[rU]at hz;subst hz;exact GN w hw
  ·intro z hz;rcases kF.1 hz with hz|hz
   ·exact h.no hd z hz
   ·simp only[rU]at hz;subst hz;exact h1
  ·rw[hd]at h2;cases h2
  ·simp only[kS.all,hd,cX,if_false,qd,Ey,or_false,qe]
   grind
 ·rename_i h1;split
  ·rename_i h2;cases hd:p.done with
   |true=>
    simp only[if_true];refine⟨⟨abu,h.rest.tail,?_,h.x,fun h3=>?_,fun _ z hz=>?_⟩,fun n=>?_⟩
    ·intro z hz w hw;rcases kF.1 hz with hz|hz
     ·exact Dh z hz w hw
     ·simp only[rU]at hz;subst hz;exact GN w hw
    ·cases h3
    ·exact h.yes hd z (fJ _ hz)
    ·simp only[kS.all,hd,if_true,qd,Ey,or_false,qe]
     grind
   |false=>
    simp only[cX,if_false];have dK:=h.no hd;have oR:dv [p.x,y]:=⟨by simpa using⟨h.x,hy⟩,by simp;omega⟩
    have dD:dv (p.out++[p.x,y]):=h.out.append oR (by
     intro z hz w hw;simp only[iG,List.not_mem_nil,or_false]at hw;rcases hw with rfl|rfl
     ·exact dK z hz
     ·exact SQ z hz)
    refine⟨⟨dD,h.rest.tail,?_,h.x,fun h3=>(by cases h3),fun _ z hz=>?_⟩,fun n=>?_⟩
    ·intro z hz w hw;simp only[kF,iG,List.not_mem_nil,or_false]at hz;rcases hz with hz|rfl|rfl
     ·exact Dh z hz w hw
     ·have:=GN w hw;omega
     ·exact GN w hw
    ·have:=GN z hz;simp only;omega
    ·simp only[kS.all,hd,cX,if_false,if_true,qd,Ey,or_false,qe]
     grind
  ·rename_i h2;have hd:p.done=false:=by
    cases hd:p.done with
    |false=>rfl
    |true=>have:=h.yes hd y fe;omega
   have dK:=h.no hd;refine⟨⟨h.out,h.rest.tail,Dh,?_,fun _ z hz=>?_,fun h3=>?_⟩,fun n=>?_⟩
   ·unfold fo;simp only;omega
   ·have:=dK z hz;have:=SQ z hz;simp only;omega
   ·rw[hd]at h3;cases h3
   ·simp only[kS.all,hd,cX,if_false,qd,Ey,or_false,qe];have e:(min p.x.Lo y.Lo<=n/\n<=max p.x.Hi y.Hi)<->(p.x.Lo<=n/\n<=p.x.Hi)\/(y.Lo<=n/\n<=y.Hi):=by omega
    rw[e]
    grind
theorem XH:∀{t:List af}{p:kS},Ie p t->dv (t.foldl iS p).all/\∀n,In n (t.foldl iS p).all<->In n p.all\/In n t
 |[],p,h=>by
  refine⟨?_,fun n=>by simp[oi]⟩;rw[List.foldl_nil,kS.all];by_cases hd:p.done=true
  ·rw[if_pos hd];exact h.out
  ·rw[if_neg hd];exact h.out.append (EZ h.x) (by simpa using h.no (by simpa using hd))
 |y::t,p,h=>by
  obtain⟨h1,h2⟩:=Zj6 h;obtain⟨h3,h4⟩:=XH h1;exact⟨h3,fun n=>(h4 n).trans (h2 n)⟩
theorem Zir (s:List af) (x:af):gh s x=(s.foldl iS ⟨[],false,x⟩).all:=rfl
theorem Ziu {s:List af}{x:af} (hs:dv s) (hx:fo x):dv (gh s x)/\∀n,In n (gh s x)<->In n s\/(x.Lo<=n/\n<=x.Hi):=by
 have h:Ie ⟨[],false,x⟩ s:=⟨zD,hs,by simp,hx,by simp,by simp⟩
 obtain⟨h1,h2⟩:=XH h;refine⟨h1,fun n=>?_⟩;rw[Zir,h2];simp only[kS.all,cX,if_false,eC,IR];exact or_comm
theorem Pl:∀{l o:List af},dv o->(∀x∈l,fo x)->dv (l.foldl gh o)/\∀n,In n (l.foldl gh o)<->In n o\/In n l
 |[],o,ho,_=>⟨ho,fun n=>by simp[oi]⟩
 |x::l,o,ho,hl=>by
  obtain⟨h1,h2⟩:=Ziu ho (hl x fe);obtain⟨h3,h4⟩:=Pl (l:=l) h1 fun y hy=>hl y (fJ _ hy);refine⟨h3,fun n=>?_⟩;show In n (l.foldl gh (gh o x))<->_;rw[h4,h2,qe,or_assoc]
theorem IU {a b:List af} (ha:dv a) (hb:dv b):dv (jA a b)/\∀n,In n (jA a b)<->In n a\/In n b:=Pl ha fun x hx=>hb.span hx
structure Ih (o t:List af):Prop where
 out:dv o
 rest:∀z∈t,fo z
 ord:t.Pairwise fun a b=>a.Lo<=b.Lo
 after:∀y∈o,∀z∈t,y.Lo<=z.Lo
theorem Ziy {o t:List af}{x:af} (h:Ih o (x::t)):Ih (lZ o x) t/\∀n,In n (lZ o x)<->In n o\/(x.Lo<=n/\n<=x.Hi):=by
 have hx:=h.rest x fe;have vQ:∀z∈t,fo z:=fun z hz=>h.rest z (fJ _ hz);obtain⟨y3,SN⟩:=qQ.1 h.ord;rcases List.eq_nil_or_concat o with rfl|⟨o,p,rfl⟩
 ·refine⟨⟨EZ hx,vQ,SN,by simpa[Jp]using y3⟩,fun n=>?_⟩;rw[Jp,IR];simp[oi]
 ·rw[List.concat_eq_append]at h⊢;have hp:=h.out.span (x:=p) (by simp);have hpx:=h.after p (by simp) x fe;have bl:=(List.pairwise_append.1 h.out.ord).2.2;have ho:dv o:=⟨fun y hy=>h.out.lo y (by simp[hy]),(List.pairwise_append.1 h.out.ord).1⟩
  have Dh:∀y∈o,∀z∈t,y.Lo<=z.Lo:=fun y hy z hz=>h.after y (by simp[hy]) z (fJ _ hz);have Dj:∀z∈t,p.Lo<=z.Lo:=fun z hz=>h.after p (by simp) z (fJ _ hz);rw[EN];unfold fo at hx hp;split
  ·rename_i h1;refine⟨⟨ho.append (EZ (by unfold fo;simp only;omega)) ?_,vQ,SN,?_⟩,fun n=>?_⟩
   ·intro y hy z hz;simp only[rU]at hz;subst hz;exact bl y hy p (by simp)
   ·intro y hy z hz;rcases kF.1 hy with hy|hy
    ·exact Dh y hy z hz
    ·simp only[rU]at hy;subst hy;exact Dj z hz
   ·simp only[qd,qe,Ey,or_false,or_assoc];have e:(p.Lo<=n/\n<=max p.Hi x.Hi)<->(p.Lo<=n/\n<=p.Hi)\/(x.Lo<=n/\n<=x.Hi):=by omega
    rw[e]
  ·rename_i h1;refine⟨⟨h.out.append (EZ hx) ?_,vQ,SN,?_⟩,fun n=>?_⟩
   ·intro y hy z hz;simp only[rU]at hz;subst hz;rcases kF.1 hy with hy|hy
    ·have:=bl y hy p (by simp);omega
    ·simp only[rU]at hy;subst hy;omega
   ·intro y hy z hz;rcases kF.1 hy with hy|hy
    ·exact h.after y hy z (fJ _ hz)
    ·simp only[rU]at hy;subst hy;exact y3 z hz
   ·rw[qd,IR]
theorem ZN:∀{t o:List af},Ih o t->dv (t.foldl lZ o)/\∀n,In n (t.foldl lZ o)<->In n o\/In n t
 |[],o,h=>⟨h.out,fun n=>by simp[oi]⟩
 |x::t,o,h=>by
  obtain⟨h1,h2⟩:=Ziy h;obtain⟨h3,h4⟩:=ZN h1;refine⟨h3,fun n=>?_⟩;show In n (t.foldl lZ (lZ o x))<->_;rw[h4,h2,qe,or_assoc]
theorem Zpq (s:List af):(mF s).Pairwise fun a b=>a.Lo<=b.Lo:=by
 have h:=(JH (s.map fun x=>(x.Lo,x.Hi))).2;rw[mF,List.pairwise_map];exact h
theorem Zpn (s:List af) (n:Int):In n (mF s)<->In n s:=by
 have h:=(JH (s.map fun x=>(x.Lo,x.Hi))).1;constructor
 ·rintro⟨x,hx,h2⟩;exact⟨x,PL s x hx,h2⟩
 ·rintro⟨x,hx,h2⟩;exact⟨x,jt.2 ⟨(x.Lo,x.Hi),h.mem_iff.2 (jt.2 ⟨x,hx,rfl⟩),rfl⟩,h2⟩
theorem E3 {s:List af} (hs:∀x∈s,fo x):dv (pQ s)/\∀n,In n (pQ s)<->In n s:=by
 have h:Ih [] (mF s):=⟨zD,fun z hz=>hs z (PL s z hz),Zpq s,by simp⟩
 obtain⟨h1,h2⟩:=ZN h;exact⟨h1,fun n=>by rw[pQ,h2,Zpn];simp[oi]⟩
def pT (s t:List af):Prop:=∀n,¬(In n s/\In n t)
theorem YN {x y:af} (hx:fo x) (hy:fo y):l8 x y=true<->∀n,¬((x.Lo<=n/\n<=x.Hi)/\y.Lo<=n/\n<=y.Hi):=by
 unfold fo at hx hy;simp only[l8,lC,Bool.and_eq_false_iff,decide_eq_false_iff_not];constructor
 ·intro h n;omega
 ·intro h;have:=h (max x.Lo y.Lo);omega
theorem EX {s t:List af}:jq s t=true<->dv s/\dv t/\pT s t:=by
 simp only[jq,Y8,tD,eJ,and_assoc];constructor
 ·rintro⟨hs,ht,h⟩;refine⟨hs,ht,fun n ⟨⟨x,hx,h1⟩,y,hy,h2⟩=>?_⟩;exact(YN (hs.span hx) (ht.span hy)).1 (h x hx y hy) n ⟨h1,h2⟩
 ·rintro⟨hs,ht,h⟩;refine⟨hs,ht,fun x hx y hy=>(YN (hs.span hx) (ht.span hy)).2 fun n h2=>?_⟩;exact h n ⟨⟨x,hx,h2.1⟩,y,hy,h2.2⟩
theorem pT.symm {s t:List af} (h:pT s t):pT t s:=fun n h2=>h n ⟨h2.2,h2.1⟩
structure kf (l:List aa):Prop where
 ok:∀e∈l,e.ok=true
 uZ:l.Pairwise fun a b=>pT a.aH b.aH
theorem jj {e:aa} (h:e.ok=true):dv e.aH:=(tD _).1 (GZ h)
theorem yZ {l:List aa}:kI l=true<->kf l:=by
 unfold kI;rw[Zm];constructor
 ·intro h;have bf:∀e∈l,e.ok=true:=fun e he=>BX (by unfold kI;rw[Zm];exact h) he;refine⟨bf,?_⟩;rw[qR];intro i j hi hj lg;have h1:=h j hj;rw[qZ,bF hj]at h1;simp only[Y8,eJ]at h1;have h2:=h1.2 l[i] (List.mem_take_iff_getElem.2 ⟨i,by omega,rfl⟩);exact(EX.1 h2).2.2.symm
 ·intro h j hj;rw[qZ,bF hj];simp only[Y8,eJ];refine⟨h.ok _ (pZ hj),fun o ho=>?_⟩;obtain⟨i,hi,rfl⟩:=List.mem_take_iff_getElem.1 ho;have lg:i<j:=by omega
  exact EX.2 ⟨jj (h.ok _ (pZ hj)),jj (h.ok _ (pZ _)),((qR.1 h.uZ) i j (by omega) hj lg).symm⟩
abbrev mA (l:List aa) (o:List af):List af:=l.foldl (fun o e=>jA o e.aH) o
theorem IV:∀{l:List aa}{o:List af},dv o->(∀e∈l,e.ok=true)->dv (mA l o)/\∀n,In n (mA l o)<->In n o\/In n (l.flatMap aa.aH)
 |[],o,ho,_=>⟨ho,fun n=>by simp[oi]⟩
 |e::l,o,ho,hl=>by
  obtain⟨h1,h2⟩:=IU ho (jj (hl e fe));obtain⟨h3,h4⟩:=IV (l:=l) h1 fun y hy=>hl y (fJ _ hy);refine⟨h3,fun n=>?_⟩;show In n (mA l (jA o e.aH))<->_;rw[h4,h2,List.flatMap_cons,qd,or_assoc]
theorem Z80 {l:List aa} (h:∀e∈l,e.ok=true):∀x∈l.flatMap aa.aH,fo x:=fun x hx=>by
 obtain⟨e,he,hx⟩:=uE.1 hx;exact(jj (h e he)).span hx
theorem wY {l:List aa} (h:∀e∈l,e.ok=true):dv (j6 l)/\∀n,In n (j6 l)<->In n (l.flatMap aa.aH):=E3 (Z80 h)
theorem Wo {l:List aa} (h:∀e∈l,e.ok=true):j6 l=mA l []:=by
 obtain⟨h1,h2⟩:=wY h;obtain⟨h3,h4⟩:=IV zD h;refine Fa h1 h3 fun n=>?_;rw[h2,h4];simp[oi]
theorem Pv (r:au):qH r=qI r:=by
 unfold qH qI;split
 ·rename_i h;exact Wo fun e he=>BX (Cm h) he
 ·rfl
theorem Pw (r:au):dv (qH r):=by
 unfold qH;split
 ·rename_i h;exact(wY fun e he=>BX (Cm h) he).1
 ·exact zD
def xj (l:List aa) (i:Nat):Bool:=match l[i]? with
 |none=>false
 |some e=>jq (mA (l.take i) []) e.aH
def CB (l:List aa):Bool:=eI l.length (xj l)
theorem Z1 {l:List aa} (bf:∀e∈l,e.ok=true):CB l=true<->l.Pairwise fun a b=>pT a.aH b.aH:=by
 unfold CB;rw[Zm,qR];have hj:∀i n,In n (mA (l.take i) [])<->∃j,∃h:j<l.length,j<i/\In n l[j].aH:=fun i n=>by
  rw[(IV zD fun e he=>bf e (s9 he)).2];constructor
  ·rintro(h|⟨x,hx,h⟩)
   ·exact absurd h oi
   ·obtain⟨e,he,hx⟩:=uE.1 hx;obtain⟨j,hj,rfl⟩:=List.mem_take_iff_getElem.1 he;exact⟨j,by omega,by omega,x,hx,h⟩
  ·rintro⟨j,hj,hji,x,hx,h⟩;exact .inr ⟨x,uE.2 ⟨l[j],List.mem_take_iff_getElem.2 ⟨j,by omega,rfl⟩,hx⟩,h⟩
 constructor
 ·intro h i j hi fP lg n ⟨h1,h2⟩;have h3:=h j fP;rw[xj,bF fP]at h3;exact(EX.1 h3).2.2 n ⟨(hj j n).2 ⟨i,hi,lg,h1⟩,h2⟩
 ·intro h j fP;rw[xj,bF fP];refine EX.2 ⟨(IV zD fun e he=>bf e (s9 he)).1,jj (bf _ (pZ fP)),fun n ⟨h1,h2⟩=>?_⟩;obtain⟨i,hi,lg,h1⟩:=(hj j n).1 h1;exact h i j hi fP lg n ⟨h1,h2⟩
def et (s:List af) (a:Int) (m:Nat):Nat:=(List.range m).countP fun(k:Nat)=>uo s (100*a+(k+1))
theorem Z4b {p q:Nat->Bool} (h:∀k,¬(p k=true/\q k=true)) (l:List Nat):l.countP (fun k=>p k||q k)=l.countP p+l.countP q:=by
 induction l with
 |nil=>rfl
 |cons x l ih=>
  simp only[List.countP_cons,ih];cases hp:p x with
  |false=>cases hq:q x<;>simp<;>omega
  |true=>
   cases hq:q x with
   |false=>simp;omega
   |true=>exact absurd ⟨hp,hq⟩ (h x)
theorem Z42 (lo hi:Int) (m:Nat):((List.range m).countP (fun(k:Nat)=>decide (lo<=(k:Int)+1)&&decide ((k:Int)+1<=hi)):Int)=max (min hi m-max lo 1+1) 0:=by
 induction m with
 |zero=>simp;omega
 |succ m ih=>
  rw[List.range_succ,List.countP_append,List.countP_singleton,Int.natCast_add,ih];simp only[Y8,decide_eq_true_eq];split<;>omega
theorem Ej {s t:List af} (h:∀n,In n s<->In n t) (a:Int) (m:Nat):et s a m=et t a m:=by
 unfold et
 congr 1
 funext k
 rw[ma,zC,zC];exact h _
theorem BW {s t:List af} (h:pT s t) (a:Int) (m:Nat):et (s++t) a m=et s a m+et t a m:=by
 unfold et;rw[<-Z4b]
 ·congr 1
  funext k
  simp only[uo,List.any_append]
 ·intro k hk;rw[zC,zC]at hk;exact h _ hk
theorem VA (a:Int) (m:Nat):et [] a m=0:=by
 unfold et;rw[List.countP_eq_zero];intro k _;simp[uo]
theorem Z3z (x:af) (a:Int):(et [x] a 60:Int)=sO x a:=by
 have h:=Z42 (x.Lo-100*a) (x.Hi-100*a) 60;have e:et [x] a 60=(List.range 60).countP (fun(k:Nat)=>decide (x.Lo-100*a<=(k:Int)+1)&&decide ((k:Int)+1<=x.Hi-100*a)):=by
  unfold et
  congr 1
  funext k
  simp only[uo,List.any_cons,List.any_nil,Bool.or_false,bq]
  congr 1<;>(rw[decide_eq_decide];omega)
 rw[e,h,sO];omega
theorem Ol:∀{s:List af},dv s->∀a,(et s a 60:Int)=jK s a
 |[],_,a=>by rw[VA];rfl
 |x::s,h,a=>by
  have hd:pT [x] s:=fun n ⟨h1,h2⟩=>by
   rw[IR]at h1;have:=h.gt h2;omega
  rw[show x::s=[x]++s from rfl,BW hd,Int.natCast_add,Z3z,Ol h.tail];rfl
theorem Iu {e:aa}{l:List aa} (h:∀x∈l,pT e.aH x.aH):pT e.aH (l.flatMap aa.aH):=by
 rintro n ⟨h1,x,hx,h2⟩;obtain⟨y,hy,hx⟩:=uE.1 hx;exact h y hy n ⟨h1,x,hx,h2⟩
theorem Vz:∀{l:List aa},kf l->∀a,(et (l.flatMap aa.aH) a 60:Int)=(l.map fun e=>jK e.aH a).sum
 |[],_,a=>by simp[VA]
 |e::l,h,a=>by
  obtain⟨h1,h2⟩:=qQ.1 h.uZ;have hl:kf l:=⟨fun x hx=>h.ok x (fJ _ hx),h2⟩
  rw[List.flatMap_cons,BW (Iu h1),Int.natCast_add,Ol (jj (h.ok e fe)),Vz hl,fc,im]
theorem kf.right {a b:List aa} (h:kf (a++b)):kf b:=⟨fun e he=>h.ok e (nX _ he),(List.pairwise_append.1 h.uZ).2.1⟩
theorem Z9 {l:List aa} (h:kf l) (a:Int):(et (j6 l) a 60:Int)=(l.map fun e=>jK e.aH a).sum:=by
 rw[Ej (wY h.ok).2,Vz h]
theorem Zgm {x:af} (hx:fo x) (a:Int):sO x a<=x.Hi-x.Lo+1/\(sO x a=x.Hi-x.Lo+1<->100*a+1<=x.Lo/\x.Hi<=100*a+60):=by
 unfold sO fo at*;omega
theorem Xi:∀{s:List af},(∀x∈s,fo x)->∀a,jK s a<=gD s/\(jK s a=gD s<->∀x∈s,100*a+1<=x.Lo/\x.Hi<=100*a+60)
 |[],_,a=>by simp[jK,gD]
 |x::s,h,a=>by
  have h1:=Zgm (h x fe) a;have h2:=Xi (s:=s) (fun y hy=>h y (fJ _ hy)) a;rw[Jb]at h2⊢;unfold gD at h2⊢;simp only[fc,im,iG,forall_eq_or_imp];rw[<-h2.2,<-h1.2];omega
theorem Xh {s:List af} (h:dv s) (a:Int):(jK s a==gi s)=mc s (100*a+1) (100*a+60):=by
 have bf:=(tD s).2 h;rw[gi,if_pos bf,mc,bf,pX,ma,beq_iff_eq,(Xi (fun x hx=>h.span hx) a).2,eJ];simp only[Y8,decide_eq_true_eq]
theorem zg {a:Nat} (ha:a<=2) {s:Int} (hs:1<=s/\s<=60):nI a s=100*a+s:=by
 unfold nI bq;simp only[Y8,decide_eq_true_eq];rw[if_pos (by omega)]
def ke (a:Nat) (r:au):Bool:=r.ok&&mc (qH r) (nI a 1) (nI a 60)
def lu (a:Nat) (r:au):Bool:=r.ok&&(jK (qI r) a==gi (qI r))
theorem Zme {a:Nat} (ha:a<=2) (r:au):ke a r=lu a r:=by
 unfold ke lu;rw[<-Pv,Xh (Pw r),zg ha (by omega),zg ha (by omega)]
def pL (kb:Nat->au->Bool) (h:aA) (a:Nat):Bool:=match h.bp[a]?,h.Rows[a]? with
 |some s,some rs=>s.ok h.aT.fm&&decide (rs.length=2)&&rs.all (kb a)
 |_,_=>false
def l9 (h:aA):Bool:=decide (h.bp.length=3)&&decide (h.Rows.length=3)&&decide (h.cI.length=2)&&bq h.fT 0 1000&&bq h.kR 0 100000
def gv (kb:Nat->au->Bool) (h:aA):Bool:=l9 h&&eI 3 (pL kb h)&&h.cI.all aK.ok
theorem Znz {h:aA}{a:Nat} (ha:a<3):pL ke h a=pL lu h a:=by
 unfold pL;split
 ·congr 2
  funext r
  exact Zme (by omega) r
 ·rfl
theorem Xv (h:aA):gv ke h=gv lu h:=by
 unfold gv;rw[Zl fun a ha=>Znz ha]
def sP (l:List aa) (i:Nat):Bool:=match l[i]? with
 |some e=>e.ok
 |none=>false
def nf (l:List aa) (i:Nat):Bool:=match l[i]? with
 |none=>false
 |some e=>match i with
  |0=>true
  |k+1=>match l[k]? with
   |some p=>eK p e
   |none=>false
def pt (l:List aC) (i:Nat):Bool:=match l[i]? with
 |none=>false
 |some o=>o.BI==(nR (l.take i) o.bg.Key o.bg.eo:Int)
def rG (l:List aC) (i:Nat):Bool:=match l[i]? with
 |some o=>o.bg.ok
 |none=>false
def pK (h:aA):Bool:=eI h.aJ.length (fun i=>sP h.aJ i&&nf h.aJ i)&&eI h.bz.length fun i=>rG h.bz i&&pt h.bz i
def sM (h:aA) (a:Nat):Bool:=match h.bp[a]? with
 |some s=>(et (j6 (fx h)) a 60:Int)==s.dM
 |none=>false
def ui (h:aA) (a:Nat):Bool:=match h.bp[a]? with
 |some s=>(h.aJ.map fun e=>jK e.aH a).sum+(h.bz.map fun o=>jK o.bg.aH a).sum==s.dM
 |none=>false
def cD (h:aA):List aa:=fR h++fx h
def li (h:aA):Bool:=h.aT.ok&&gv ke h&&eI h.aJ.length (nf h.aJ)&&kI (cD h)&&eI 3 (sM h)&&decide (pQ (fH h.bp 0)=j6 (cD h))&&eI h.bz.length (pt h.bz)
def fu (h:aA):Bool:=h.aT.ok&&gv lu h&&pK h&&CB (cD h)&&decide (mA (cD h) []=(fH h.bp 0).foldl gh [])&&eI 3 (ui h)
theorem Zk {n:Nat}{p q:Nat->Bool}:eI n (fun i=>p i&&q i)=(eI n p&&eI n q):=by
 rw[ma];simp only[Zm,Y8];exact⟨fun h=>⟨fun j hj=>(h j hj).1,fun j hj=>(h j hj).2⟩,fun h j hj=>⟨h.1 j hj,h.2 j hj⟩⟩
theorem Xk {l:List aa}:eI l.length (sP l)=true<->∀e∈l,e.ok=true:=by
 rw[Zm];constructor
 ·intro h e he;obtain⟨i,hi⟩:=gZ.1 he;have:=h i (bt.1 hi).1;simpa only[sP,hi]using this
 ·intro h j hj;rw[sP,bF hj];exact h _ (pZ hj)
theorem Xm {l:List aC}:eI l.length (rG l)=true<->∀o∈l,o.bg.ok=true:=by
 rw[Zm];constructor
 ·intro h e he;obtain⟨i,hi⟩:=gZ.1 he;have:=h i (bt.1 hi).1;simpa only[rG,hi]using this
 ·intro h j hj;rw[rG,bF hj];exact h _ (pZ hj)
theorem xe {kb:Nat->au->Bool}{h:aA}{a:Nat}{s:aD}{rs:List au} (h1:h.bp[a]?=some s) (h2:h.Rows[a]?=some rs) (h3:pL kb h a=true):s.ok h.aT.fm=true/\rs.length=2/\∀r∈rs,kb a r=true:=by
 simp only[pL,h1,h2,Y8,decide_eq_true_eq,eJ]at h3;exact⟨h3.1.1,h3.1.2,h3.2⟩
theorem Jj {kb:Nat->au->Bool}{h:aA} (hp:gv kb h=true):N9 h.bp:=by
 simp only[gv,l9,Y8,decide_eq_true_eq,Zm]at hp;obtain⟨⟨⟨⟨⟨⟨h3,RT⟩,_⟩,_⟩,_⟩,hs⟩,_⟩:=hp;refine⟨h3,fun s gP x hx=>?_⟩;obtain⟨i,hi⟩:=gZ.1 gP;have lT:=(bt.1 hi).1;have bf:=(xe hi (bF (show i<h.Rows.length by omega)) (hs i (by omega))).1;simp only[aD.ok,Y8,mc,eJ,bq,decide_eq_true_eq]at bf;obtain⟨⟨⟨⟨⟨⟨_,_⟩,hg⟩,Dg,SK⟩,_⟩,_⟩,_⟩:=bf;have h1:=SK x hx;have h2:=Cq Dg hx;omega
theorem Xw {kb:Nat->au->Bool}{h:aA} (hr:∀a r,kb a r=true->r.ok=true) (hp:gv kb h=true):∀e∈fR h,e.ok=true:=by
 simp only[gv,l9,Y8,decide_eq_true_eq,Zm]at hp;obtain⟨⟨⟨⟨⟨⟨h3,RT⟩,_⟩,_⟩,_⟩,hs⟩,_⟩:=hp;intro e he;obtain⟨l,hl,he⟩:=List.mem_flatten.1 he;obtain⟨rs,dY,rfl⟩:=jt.1 hl;obtain⟨l,hl,he⟩:=List.mem_flatten.1 he;obtain⟨r,dS,rfl⟩:=jt.1 hl;obtain⟨i,hi⟩:=gZ.1 dY;have lT:=(bt.1 hi).1;have bf:=(xe (bF (show i<h.bp.length by omega)) hi (hs i (by omega))).2.2 r dS;exact BX (Cm (hr i r bf)) he
theorem Jy {a:Nat}{r:au} (h:ke a r=true):r.ok=true:=by
 simp only[ke,Y8]at h;exact h.1
theorem qU (h:aA):li h=fu h:=by
 unfold li fu;rw[<-Xv];cases hc:h.aT.ok with
 |false=>rfl
 |true=>
  cases hp:gv ke h with
  |false=>rfl
  |true=>
   simp only[pX];have lk:=Jj hp;have gO:=Xw (fun a r h=>Jy h) hp;have j3:pK h=(eI h.aJ.length (sP h.aJ)&&eI h.bz.length (rG h.bz)&&(eI h.aJ.length (nf h.aJ)&&eI h.bz.length (pt h.bz))):=by
    unfold pK;rw[Zk,Zk];generalize eI h.aJ.length (sP h.aJ)=a;generalize eI h.aJ.length (nf h.aJ)=b;generalize eI h.bz.length (rG h.bz)=c;generalize eI h.bz.length (pt h.bz)=d
    revert a b c d;decide
   have xE:(eI h.aJ.length (sP h.aJ)&&eI h.bz.length (rG h.bz))=true<->∀e∈cD h,e.ok=true:=by
    rw[Y8,Xk,Xm];unfold cD fx;simp only[kF,jt,or_imp,forall_and];constructor
    ·rintro⟨h1,h2⟩;refine⟨gO,h1,?_⟩;rintro _ ⟨o,ho,rfl⟩;exact h2 o ho
    ·rintro⟨_,h1,h2⟩;exact⟨h1,fun o ho=>h2 _ ⟨o,ho,rfl⟩⟩
   have S4:pQ (fH h.bp 0)=(fH h.bp 0).foldl gh []:=by
    have hr:=Cw (l:=h.bp) (a:=0) lk.2 (by rw[lk.1];omega);obtain⟨h1,h2⟩:=E3 hr;obtain⟨h3,h4⟩:=Pl zD hr;refine Fa h1 h3 fun n=>?_;rw[h2,h4];simp[oi]
   rw[j3];by_cases bf:∀e∈cD h,e.ok=true
   ·rw[xE.2 bf,pX,S4,Wo bf];have e1:kI (cD h)=CB (cD h):=by
     rw[ma,yZ,Z1 bf];exact⟨fun h=>h.uZ,fun h=>⟨bf,h⟩⟩
    rw[<-e1];cases kX:kI (cD h) with
    |false=>simp
    |true=>
     have he:=yZ.1 kX;have e2:eI 3 (sM h)=eI 3 (ui h):=by
      refine Zl fun a ha=>?_;unfold sM ui;split
      ·rw[Z9 (kf.right he)];unfold fx;rw[kh,List.sum_append,yW];rfl
      ·rfl
     rw[e2];have e3:decide ((fH h.bp 0).foldl gh []=mA (cD h) [])=decide (mA (cD h) []=(fH h.bp 0).foldl gh []):=by rw[decide_eq_decide];exact eq_comm
     rw[e3];generalize eI 3 (ui h)=a;generalize decide (mA (cD h) []=(fH h.bp 0).foldl gh [])=b;generalize eI h.aJ.length (nf h.aJ)=c;generalize eI h.bz.length (pt h.bz)=d
     revert a b c d;decide
   ·have h1:(eI h.aJ.length (sP h.aJ)&&eI h.bz.length (rG h.bz))=false:=by
     rw[yR];exact fun h2=>bf (xE.1 h2)
    have h2:kI (cD h)=false:=by
     rw[yR];exact fun h2=>bf (yZ.1 h2).ok
    rw[h1,h2];simp
end Go.Wr

