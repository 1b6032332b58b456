/-
  What is proved: lemmas for the laws. No condition.
-/
import Derived.Test.YtbghjecopkbhlaaGreatPa
import Derived.Test.YtbghjecopkbhlaaGreatTa
set_option linter.unusedVariables false
set_option linter.unusedSimpArgs false
namespace Go.Wr
def bT.ok (x:bT):Bool:=bq x.Seq 1 60&&bq x.Hq 0 1&&bq x.Key 0 4&&bq x.eo 0 20&&x.aN.ok
def atA (l:List bT) (i:Nat):Bool:=match l[i]? with
 |some x=>x.ok&&x.Seq==(i:Int)+1
 |none=>false
def alD (a:cr):Bool:=bq a.Id 0 2&&bq a.o6 0 1000&&bq a.jO 0 60&&decide (a.lA.length<=60)&&bq a.Next 0 60
def cr.ok (a:cr):Bool:=alD a&&mc a.bK 1 a.lA.length&&(a.Live|| !decide (a.jO>0))&&eI a.lA.length (atA a.lA)
theorem PM:∀{s:List af}{lo m:Int},dv s->(∀x∈s,lo<=x.Lo/\x.Hi<=m)->lo<=m+1->gD s<=m-lo+1
 |[],lo,m,_,_,h=>by simp[gD];omega
 |x::s,lo,m,hs,h,_=>by
  have hx:=h x fe;have dg:=hs.one;unfold fo at dg;have h1:=PM (s:=s) (lo:=x.Hi+1) (m:=m) hs.tail (fun y hy=>by have:=hs.head y hy;have:=h y (fJ _ hy);omega) (by omega);unfold gD at h1⊢;simp only[fc,im];omega
theorem Wl {h:aA} (hh:fu h=true):h.bp.length=3/\h.Rows.length=3/\(∀rs∈h.Rows,rs.length=2)/\∀s∈h.bp,s.ok h.aT.fm=true:=by
 have hp:gv lu h=true:=by simp only[fu,Y8]at hh;exact hh.1.1.1.1.2
 simp only[gv,l9,Y8,decide_eq_true_eq,Zm]at hp;obtain⟨⟨⟨⟨⟨⟨h3,RT⟩,_⟩,_⟩,_⟩,hs⟩,_⟩:=hp;refine⟨h3,RT,fun rs hr=>?_,fun s gP=>?_⟩
 ·obtain⟨i,hi⟩:=gZ.1 hr;have lT:=(bt.1 hi).1;exact(xe (bF (show i<h.bp.length by omega)) hi (hs i (by omega))).2.1
 ·obtain⟨i,hi⟩:=gZ.1 gP;have lT:=(bt.1 hi).1;exact(xe hi (bF (show i<h.Rows.length by omega)) (hs i (by omega))).1
def F9 (s:List af):Int:=match s.getLast? with
 |some x=>x.Hi
 |none=>0
def dF (a b:Int):Int:=min (max 0 (min a 1000000000)+max 0 (min b 1000000000)) 1000000000
def gR (a b:bm):bm:=⟨dF a.Count b.Count,dF a.Sum b.Sum,if b.Count=0 then a.Min else if a.Count=0 then b.Min else min a.Min b.Min,max a.Max b.Max,List.zipWith dF a.ca b.ca,List.zipWith max a.bX b.bX,List.zipWith (List.zipWith dF) a.Rows b.Rows⟩
theorem Z2 (a b:Int):0<=dF a b/\dF a b<=1000000000:=by unfold dF;omega
theorem Z3 {a b:Int} (ha:0<=a/\a<=1000000000) (hb:0<=b/\b<=1000000000):dF a b=0<->a=0/\b=0:=by unfold dF;omega
theorem Zen {l:List Int}{n:Nat}{m:Int}{z:Bool}:xT l n m z=true<->l.length=n/\∀x∈l,0<=x/\x<=m/\(z=true->x=0):=by
 simp only[xT,Y8,decide_eq_true_eq,eJ,bq,lC,Y7,bne_eq_false_iff_eq];constructor
 ·rintro⟨h,h2⟩;refine⟨h,fun x hx=>⟨(h2 x hx).1.1,(h2 x hx).1.2,fun hz=>?_⟩⟩;rcases(h2 x hx).2 with h3|h3
  ·rw[hz]at h3;cases h3
  ·exact h3
 ·rintro⟨h,h2⟩;refine⟨h,fun x hx=>⟨⟨(h2 x hx).1,(h2 x hx).2.1⟩,?_⟩⟩;cases z with
  |false=>exact .inl rfl
  |true=>exact .inr ((h2 x hx).2.2 rfl)
structure sY (x:bm):Prop where
 Ff:0<=x.Count/\x.Count<=1000000000
 sum:0<=x.Sum/\x.Sum<=1000000000
 mn:0<=x.Min/\x.Min<=x.Max/\x.Max<=1000000
 zero:x.Count=0->x.Sum=0/\x.Max=0
 sD:x.ca.length=8/\∀y∈x.ca,0<=y/\y<=1000000000/\(x.Count=0->y=0)
 wg:x.bX.length=8/\∀y∈x.bX,0<=y/\y<=17/\(x.Count=0->y=0)
 rows:x.Rows.length=2/\∀r∈x.Rows,r.length=4/\∀y∈r,0<=y/\y<=1000000000/\(x.Count=0->y=0)
theorem r7 (x:bm):x.ok=true<->sY x:=by
 simp only[bm.ok,Y8,Zen,decide_eq_true_eq,bq,eJ,lC,Y7,Bool.or_eq_false_iff,beq_eq_false_iff_ne,bne_eq_false_iff_eq,beq_iff_eq];constructor
 ·rintro⟨⟨⟨⟨⟨⟨⟨⟨⟨h1,h2⟩,h3⟩,h4⟩,h5⟩,h6⟩,h7⟩,h8⟩,h9⟩,eU⟩;exact⟨h1,h2,⟨h3.1,h5,h4.2⟩,fun h=>h7.resolve_left (fun h2=>h2 h),h8,h9,h6,eU⟩
 ·rintro⟨h1,h2,h3,h4,h5,h6,h7,h8⟩;refine⟨⟨⟨⟨⟨⟨⟨⟨⟨h1,h2⟩,by omega,by omega⟩,by omega,by omega⟩,h3.2.1⟩,h7⟩,?_⟩,h5⟩,h6⟩,h8⟩;by_cases h:x.Count=0
  ·exact .inr (h4 h)
  ·exact .inl h
theorem E5 {α β γ:Type}{f:α->β->γ}:∀{a:List α}{b:List β}{z:γ},z∈List.zipWith f a b->∃x∈a,∃y∈b,z=f x y
 |[],_,z,h=>by simp at h
 |_::_,[],z,h=>by simp at h
 |x::a,y::b,z,h=>by
  rw[List.zipWith_cons_cons,iG]at h;rcases h with rfl|h
  ·exact⟨x,fe,y,fe,rfl⟩
  ·obtain⟨x',hx,y',hy,rfl⟩:=E5 h;exact⟨x',fJ _ hx,y',fJ _ hy,rfl⟩
theorem Zf7 {a b:bm} (ha:a.ok=true) (hb:b.ok=true):(gR a b).ok=true:=by
 rw[r7]at*;have h0:=Z3 ha.Ff hb.Ff;refine⟨Z2 _ _,Z2 _ _,?_,?_,⟨?_,?_⟩,⟨?_,?_⟩,⟨?_,?_⟩⟩
 ·have:=ha.mn;have:=hb.mn;simp only[gR];split<;>(try split)<;>omega
 ·intro h;obtain⟨h1,h2⟩:=h0.1 h;have:=ha.zero h1;have:=hb.zero h2;refine⟨(Z3 ha.sum hb.sum).2 ⟨by omega,by omega⟩,?_⟩;simp only[gR];omega
 ·simp[gR,ha.sD.1,hb.sD.1]
 ·intro z hz;obtain⟨x,hx,y,hy,rfl⟩:=E5 hz;refine⟨(Z2 _ _).1,(Z2 _ _).2,fun h=>?_⟩;have:=ha.sD.2 x hx;have:=hb.sD.2 y hy;exact(Z3 ⟨by omega,by omega⟩ ⟨by omega,by omega⟩).2 ⟨(ha.sD.2 x hx).2.2 (h0.1 h).1,(hb.sD.2 y hy).2.2 (h0.1 h).2⟩
 ·simp[gR,ha.wg.1,hb.wg.1]
 ·intro z hz;obtain⟨x,hx,y,hy,rfl⟩:=E5 hz;have h1:=ha.wg.2 x hx;have h2:=hb.wg.2 y hy;refine⟨by omega,by omega,fun h=>?_⟩;have:=h1.2.2 (h0.1 h).1;have:=h2.2.2 (h0.1 h).2;omega
 ·simp[gR,ha.rows.1,hb.rows.1]
 ·intro r hr;obtain⟨p,hp,q,hq,rfl⟩:=E5 hr;refine⟨by simp[(ha.rows.2 p hp).1,(hb.rows.2 q hq).1],fun z hz=>?_⟩;obtain⟨x,hx,y,hy,rfl⟩:=E5 hz;have h1:=(ha.rows.2 p hp).2 x hx;have h2:=(hb.rows.2 q hq).2 y hy;exact⟨(Z2 _ _).1,(Z2 _ _).2,fun h=>(Z3 ⟨h1.1,h1.2.1⟩ ⟨h2.1,h2.2.1⟩).2 ⟨h1.2.2 (h0.1 h).1,h2.2.2 (h0.1 h).2⟩⟩
theorem ul {e:aa} (h:e.ok=true):e.aN.ok=true:=by simp only[aa.ok,Y8]at h;exact h.2
theorem Eu {h:aA} (hh:fu h=true):∀e∈cD h,e.ok=true:=by
 rw[<-qU]at hh;simp only[li,Y8]at hh;exact(yZ.1 hh.1.1.1.2).ok
def cr.zero:cr:=⟨0,0,false,0,[],[],0⟩
def aD.zero:aD:=⟨0,0,[],0,0⟩
def wi (s:aD) (dI:Int):aD:=if s.ok dI then{s with jO:=min 60 (IntKind.i64.wrap (s.dM+dI))} else s
def bR.zero:bR:=⟨0,0,0,[],0,0,0,0⟩
def aA.zero:aA:=⟨bR.zero,0,false,[],[],[],0,[],[]⟩
theorem Cz {α:Type}:∀(l:List α),wL bj l=2*l.length
 |[]=>rfl
 |x::l=>by have:=Cz l;simp only[wL,fc,im,dH,bj]at*;omega
theorem PU {α:Type} (w:α->Nat) (x:α) (l:List α):wL w (x::l)=1+w x+wL w l:=rfl
theorem xg {α:Type}{w:α->Nat}{f:α->Nat} (h:∀x,w x+1<=8*(f x+1)):∀l:List α,wL w l<=8*aS f l
 |[]=>by simp[wL]
 |x::l=>by
  have h1:=xg h l;have h2:=h x;rw[PU];unfold aS at h1⊢;simp only[fc,im,dH];omega
theorem JR:∀l:List af,wL af.w1 l=3*l.length
 |[]=>rfl
 |x::l=>by rw[PU,JR l,dH];unfold af.w1;omega
theorem ZQ:∀l:List (List Int),wL (wL bj) l<=2*aS List.length l
 |[]=>by simp[wL]
 |x::l=>by
  have h1:=ZQ l;have h2:=Cz x;rw[PU,h2];unfold aS at h1⊢;simp only[fc,im,dH];omega
theorem PW (x:aa):aa.w1 x+2<=8*(x.al+1):=by
 have h3:=ZQ x.aN.Rows;unfold aa.w1 aa.al bm.al
 first|(simp only[bm.w1,Cz,JR];omega)|(simp only[Cz,JR];omega)
theorem Zsm (x:aC):aC.w1 x+1<=8*(x.al+1):=by
 have h:=PW x.bg;unfold aC.w1 aC.al;omega
theorem Zsn (x:au):au.w1 x+1<=8*(x.al+1):=by
 have h:=xg (w:=aa.w1) (f:=aa.al) (fun x=>by have:=PW x;omega) x.bV;unfold au.w1 au.al;omega
theorem Zso (x:aD):aD.w1 x+1<=8*(x.al+1):=by
 unfold aD.w1 aD.al;rw[JR];omega
theorem Zsp (x:aK):aK.w1 x+1<=8*(x.al+1):=by
 unfold aK.w1 aK.al;rw[Cz];omega
theorem Zsl (h:aA):aA.wS h<=8*h.al:=by
 have h1:=xg Zso h.bp;have h2:=xg (w:=wL au.w1) (f:=aS au.al) (fun x=>by have:=xg Zsn x;omega) h.Rows;have h3:=xg Zsp h.cI;have h4:=xg (w:=aa.w1) (f:=aa.al) (fun x=>by have:=PW x;omega) h.aJ;have h5:=xg Zsm h.bz;have h6:=Cz h.aT.dX;unfold aA.wS bR.wS aA.al bR.al;omega
theorem Wn {h:aA} (hl:h.al<=4000000):(1:Int)+(aA.wS h:Int)<=fv:=by
 have:=Zsl h;unfold fv;omega
def yg (s:aD):aD:={s with jO:=F9 s.bK}
def rb (h:aA):aA:=if fu h&& !h.gT then{h with gT:=true,bp:=h.bp.map yg} else h
theorem Oh {α β:Type}{f:α->Nat}{g:β->α}{k:β->Nat} (h:∀x,f (g x)=k x) (l:List β):aS f (l.map g)=aS k l:=by
 unfold aS;rw[cL,yW]
 congr 2
 exact List.map_congr_left fun x _=>h x
theorem Oj (h:aA):(rb h).al=h.al:=by
 unfold rb;split
 ·simp only[aA.al,Oh (f:=aD.al) (g:=yg) (k:=aD.al) fun _=>rfl]
 ·rfl
def mS (t:aa->Bool) (p:List aa×List aC) (e:aa):List aa×List aC:=if t e then(p.1,p.2++[⟨nR p.2 e.Key e.eo,e⟩]) else(p.1++[e],p.2)
def sh (t:aa->Bool) (root:List aa) (outs:List aC):List aa×List aC:=root.foldl (mS t) ([],outs)
def kJ (t:aa->Bool) (h:aA):aA:={h with aJ:=(sh t h.aJ h.bz).1,bz:=(sh t h.aJ h.bz).2}
theorem Vj {α:Type} (f:α->Nat) (l:List α) (x:α):aS f (l++[x])=aS f l+f x+1:=by
 unfold aS;simp only[jR,dH,p7,kh,fc,s8,List.sum_append,im,List.sum_nil];omega
theorem V7 (t:aa->Bool):∀(root:List aa) (p:List aa×List aC),aS aa.al (root.foldl (mS t) p).1+aS aC.al (root.foldl (mS t) p).2=aS aa.al root+aS aa.al p.1+aS aC.al p.2
 |[],p=>by simp[aS]
 |e::root,p=>by
  rw[qP,V7 t root];have e1:aS aa.al (e::root)=aS aa.al root+e.al+1:=by unfold aS;simp only[fc,im,dH];omega
  unfold mS;split
  ·simp only[Vj,e1,aC.al];omega
  ·simp only[Vj,e1];omega
theorem Z86 {t:aa->Bool}{l:List aa}{o:List aC}{i:Nat}{e:aa} (h:l[i]?=some e):sh t (l.take (i+1)) o=mS t (sh t (l.take i) o) e:=by
 unfold sh;rw[B4 h]
theorem kf.sub {a b:List aa} (h:kf b) (hs:a.Sublist b):kf a:=⟨fun e he=>h.ok e (hs.subset he),h.uZ.sublist hs⟩
theorem Zaq {h:aA} (hh:fu h=true):kf (cD h):=by
 rw[<-qU]at hh;simp only[li,Y8]at hh;exact yZ.1 hh.1.1.1.2
end Go.Wr

