/-
  What is proved: lemmas for the laws. No condition.
-/
import Derived.Test.YtbghjecopkbhlaaGreatPa
import Derived.Test.YtbghjecopkbhlaaGreatTa
set_option linter.unusedVariables false
set_option linter.unusedSimpArgs false
namespace Go.Wr
def bT.ok (x:bT):Bool:=bq x.Seq 1 60&&bq x.Hq 0 1&&bq x.Key 0 4&&bq x.eo 0 20&&x.aN.ok
def atA (l:List bT) (i:Nat):Bool:=match l[i]? with
 |some x=>x.ok&&x.Seq==(i:Int)+1
 |none=>false
def alD (a:cr):Bool:=bq a.Id 0 2&&bq a.o6 0 1000&&bq a.jO 0 60&&decide (a.lA.length<=60)&&bq a.Next 0 60
def cr.ok (a:cr):Bool:=alD a&&mc a.bK 1 a.lA.length&&(a.Live|| !decide (a.jO>0))&&eI a.lA.length (atA a.lA)
theorem Wl {h:aA} (hh:fu h=true):h.bp.length=3/\h.Rows.length=3/\(∀rs∈h.Rows,rs.length=2)/\∀s∈h.bp,s.ok h.aT.fm=true:=by
 have hp:gv lu h=true:=by simp only[fu,Y8]at hh;exact hh.1.1.1.1.2
 simp only[gv,l9,Y8,decide_eq_true_eq,Zm]at hp;obtain⟨⟨⟨⟨⟨⟨h3,RT⟩,_⟩,_⟩,_⟩,hs⟩,_⟩:=hp;refine⟨h3,RT,fun rs hr=>?_,fun s gP=>?_⟩
 ·obtain⟨i,hi⟩:=gZ.1 hr;have lT:=(bt.1 hi).1;exact(xe (bF (show i<h.bp.length by omega)) hi (hs i (by omega))).2.1
 ·obtain⟨i,hi⟩:=gZ.1 gP;have lT:=(bt.1 hi).1;exact(xe hi (bF (show i<h.Rows.length by omega)) (hs i (by omega))).1
def F9 (s:List af):Int:=match s.getLast? with
 |some x=>x.Hi
 |none=>0
def br (c:bR) (n:Int):Int:=if c.ok&&bq n 0 20 then c.mL*(n+1)+c.mJ else-1
structure sY (x:bm):Prop where
 Ff:0<=x.Count/\x.Count<=1000000000
 sum:0<=x.Sum/\x.Sum<=1000000000
 mn:0<=x.Min/\x.Min<=x.Max/\x.Max<=1000000
 zero:x.Count=0->x.Sum=0/\x.Max=0
 sD:x.ca.length=8/\∀y∈x.ca,0<=y/\y<=1000000000/\(x.Count=0->y=0)
 wg:x.bX.length=8/\∀y∈x.bX,0<=y/\y<=17/\(x.Count=0->y=0)
 rows:x.Rows.length=2/\∀r∈x.Rows,r.length=4/\∀y∈r,0<=y/\y<=1000000000/\(x.Count=0->y=0)
def cr.zero:cr:=⟨0,0,false,0,[],[],0⟩
def aD.zero:aD:=⟨0,0,[],0,0⟩
def bR.zero:bR:=⟨0,0,0,[],0,0,0,0⟩
def aA.zero:aA:=⟨bR.zero,0,false,[],[],[],0,[],[]⟩
theorem Cz {α:Type}:∀(l:List α),wL bj l=2*l.length
 |[]=>rfl
 |x::l=>by have:=Cz l;simp only[wL,fc,im,dH,bj]at*;omega
theorem PU {α:Type} (w:α->Nat) (x:α) (l:List α):wL w (x::l)=1+w x+wL w l:=rfl
theorem xg {α:Type}{w:α->Nat}{f:α->Nat} (h:∀x,w x+1<=8*(f x+1)):∀l:List α,wL w l<=8*aS f l
 |[]=>by simp[wL]
 |x::l=>by
  have h1:=xg h l;have h2:=h x;rw[PU];unfold aS at h1⊢;simp only[fc,im,dH];omega
theorem JR:∀l:List af,wL af.w1 l=3*l.length
 |[]=>rfl
 |x::l=>by rw[PU,JR l,dH];unfold af.w1;omega
theorem ZQ:∀l:List (List Int),wL (wL bj) l<=2*aS List.length l
 |[]=>by simp[wL]
 |x::l=>by
  have h1:=ZQ l;have h2:=Cz x;rw[PU,h2];unfold aS at h1⊢;simp only[fc,im,dH];omega
theorem PW (x:aa):aa.w1 x+2<=8*(x.al+1):=by
 have h3:=ZQ x.aN.Rows;unfold aa.w1 aa.al bm.al
 first|(simp only[bm.w1,Cz,JR];omega)|(simp only[Cz,JR];omega)
theorem Zsm (x:aC):aC.w1 x+1<=8*(x.al+1):=by
 have h:=PW x.bg;unfold aC.w1 aC.al;omega
theorem Zsn (x:au):au.w1 x+1<=8*(x.al+1):=by
 have h:=xg (w:=aa.w1) (f:=aa.al) (fun x=>by have:=PW x;omega) x.bV;unfold au.w1 au.al;omega
theorem Zso (x:aD):aD.w1 x+1<=8*(x.al+1):=by
 unfold aD.w1 aD.al;rw[JR];omega
theorem Zsp (x:aK):aK.w1 x+1<=8*(x.al+1):=by
 unfold aK.w1 aK.al;rw[Cz];omega
theorem Zsl (h:aA):aA.wS h<=8*h.al:=by
 have h1:=xg Zso h.bp;have h2:=xg (w:=wL au.w1) (f:=aS au.al) (fun x=>by have:=xg Zsn x;omega) h.Rows;have h3:=xg Zsp h.cI;have h4:=xg (w:=aa.w1) (f:=aa.al) (fun x=>by have:=PW x;omega) h.aJ;have h5:=xg Zsm h.bz;have h6:=Cz h.aT.dX;unfold aA.wS bR.wS aA.al bR.al;omega
theorem Wn {h:aA} (hl:h.al<=4000000):(1:Int)+(aA.wS h:Int)<=fv:=by
 have:=Zsl h;unfold fv;omega
theorem Oh {α β:Type}{f:α->Nat}{g:β->α}{k:β->Nat} (h:∀x,f (g x)=k x) (l:List β):aS f (l.map g)=aS k l:=by
 unfold aS;rw[cL,yW]
 congr 2
 exact List.map_congr_left fun x _=>h x
def mS (t:aa->Bool) (p:List aa×List aC) (e:aa):List aa×List aC:=if t e then(p.1,p.2++[⟨nR p.2 e.Key e.eo,e⟩]) else(p.1++[e],p.2)
def sh (t:aa->Bool) (root:List aa) (outs:List aC):List aa×List aC:=root.foldl (mS t) ([],outs)
def kJ (t:aa->Bool) (h:aA):aA:={h with aJ:=(sh t h.aJ h.bz).1,bz:=(sh t h.aJ h.bz).2}
theorem Vj {α:Type} (f:α->Nat) (l:List α) (x:α):aS f (l++[x])=aS f l+f x+1:=by
 unfold aS;simp only[jR,dH,p7,kh,fc,s8,List.sum_append,im,List.sum_nil];omega
theorem V7 (t:aa->Bool):∀(root:List aa) (p:List aa×List aC),aS aa.al (root.foldl (mS t) p).1+aS aC.al (root.foldl (mS t) p).2=aS aa.al root+aS aa.al p.1+aS aC.al p.2
 |[],p=>by simp[aS]
 |e::root,p=>by
  rw[qP,V7 t root];have e1:aS aa.al (e::root)=aS aa.al root+e.al+1:=by unfold aS;simp only[fc,im,dH];omega
  unfold mS;split
  ·simp only[Vj,e1,aC.al];omega
  ·simp only[Vj,e1];omega
theorem Zta (t:aa->Bool) (h:aA):(kJ t h).al=h.al:=by
 have h1:=V7 t h.aJ ([],h.bz);have h2:aS aa.al []=0:=rfl;unfold kJ sh aA.al;simp only at*;omega
theorem Z86 {t:aa->Bool}{l:List aa}{o:List aC}{i:Nat}{e:aa} (h:l[i]?=some e):sh t (l.take (i+1)) o=mS t (sh t (l.take i) o) e:=by
 unfold sh;rw[B4 h]
theorem kf.sub {a b:List aa} (h:kf b) (hs:a.Sublist b):kf a:=⟨fun e he=>h.ok e (hs.subset he),h.uZ.sublist hs⟩
end Go.Wr

