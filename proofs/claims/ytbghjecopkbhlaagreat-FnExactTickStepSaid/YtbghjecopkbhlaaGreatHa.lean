/-
  What is proved: lemmas for the laws. No condition.
-/
import Derived.Test.YtbghjecopkbhlaaGreatMa
import Derived.Test.YtbghjecopkbhlaaGreatRd
import Derived.Test.YtbghjecopkbhlaaGreatTa
set_option linter.unusedVariables false
set_option linter.unusedSimpArgs false
namespace Go.Wr
set_option maxRecDepth 20000
theorem Ha (l:List Int) (n:Int) (hn:eP n) (hl:l.length<=maxLen):Bv [.x (ints .n l),.x (iT n)]=some ⟨[.one (iT (left n (l.length)))],[]⟩:=by
 have e:=E4 (f:=iT) hn hl
 (refine aP rfl ?_;show Ev acu.code _ _ _)
 repeat' (first|refine ak ?_|refine ai ?_|refine yt ?_ ?_|refine yo ?_|apply zn|refine yc ?_|intro _)
 all_goals (refine fin rfl ?_;rename_i h;rw[e]at h;simp only[e,decide_eq_true_eq,decide_eq_false_iff_not]at h⊢)
 ·rw[left,if_pos (by omega)]
 ·rw[left,if_neg (by omega)]
theorem ar1 (x:bR) (n:Int) (hn:eP n) (hl:x.fit):Mu [.st (x.cs .n),.x (iT n)]=some ⟨[.one (iT (left n x.al))],[]⟩:=by
 have f0:=hl
 (refine aP rfl ?_;show Ev acv.code _ _ _)
 repeat' (first|(apply zk tM;exact rfl;simp only[List.map,iw];exact rfl;exact(Ha x.dX _ (by repeat (first|assumption|apply nn)) f0);exact rfl;exact rfl;exact rfl)|refine ak ?_|refine ai ?_|refine yt ?_ ?_|refine yo ?_|apply zn|refine yc ?_|intro _)
 all_goals (refine fin rfl ?_;unfold bR.al;grind [left,eP])
theorem ar2 (l:List (List Int)) (n:Int) (hn:eP n) (hl:fits (fun l=>l.length<=maxLen) l):Mv [.x (kg.lss .n l),.x (iT n)]=some ⟨[.one (iT (left n (aS List.length l)))],[]⟩:=by
 have dp:=hl.1;have e:=E4 (f:=(ints .n)) hn hl.1
 (refine aP rfl ?_;show Ev acw.code _ _ _)
 repeat' (first|refine ak ?_|refine ai ?_|refine yt ?_ ?_|refine yo ?_|apply zn|refine yc ?_|intro _)
 ·refine fin rfl ?_;rename_i h;have h2:=dA List.length l;rw[e]at h;simp only[decide_eq_true_eq]at h;rw[left,if_pos (by omega)]
 ·rename_i h;rw[e]at h;simp only[decide_eq_false_iff_not]at h;show Ev _ _ _ _;refine jS (fun i (x:Int)=>[(0,.x (kg.lss .n l)),(1,.x (iT x)),(5,.x (iT i))]) (fun i x=>x=n-l.length-pre List.length l i/\0<=x) l.length (n-l.length) ⟨by rw[Pf];omega,by omega⟩ (by rw[e];rfl) ?_;intro i x nF hinv ih;obtain⟨GL,Tf⟩:=hinv;rcases js i l.length with aF|fL
  ·have hx:=bF aF;generalize l[i]=y at hx;have hc:decide ((i:Int)<(l.map (ints .n)).length)=true:=by simpa using aF
   repeat' (first|refine yi ((ints .n) y) (bH hx) ?_|refine yv tM (Ha y x (by unfold eP at*;omega) (hl.2 y (cS hx))) ?_|refine ak ?_|refine ai ?_|refine yt ?_ ?_|refine yo ?_|apply zn|refine yc ?_|intro _)
   ·refine fin rfl ?_;rename_i h3;have h4:=w8 (f:=List.length) (l:=l) (i:=i+1);rw[uP hx]at h4;have h5:=OW (by unfold eP at*;omega) h3 (Nat.le_refl _);unfold left at h5⊢;split at h5<;>first|(rw[if_pos (by omega)];done)|omega
   ·rename_i h3;have h4:=IX (by unfold eP at*;omega) h3;refine ih (x-y.length) aF ⟨?_,?_⟩ _ _ ?_
    ·rw[uP hx];omega
    ·omega
    ·rw[<-bU (by unfold maxLen at dp;omega),<-h4.1];rfl
  ·have hc:decide ((i:Int)<(l.map (ints .n)).length)=false:=by simpa using fL
   repeat' (first|refine ak ?_|refine ai ?_|refine yt ?_ ?_|refine yo ?_|apply zn|refine yc ?_|intro _)
   refine fin rfl ?_;have h4:=Pe (f:=List.length) fL;rw[left,if_neg (by omega)];simp only[GL,RV.one.injEq,Out.mk.injEq,fq,T.i.injEq,and_true,true_and];omega
theorem ar4 (x:bm) (n:Int) (hn:eP n) (hl:x.fit):Mw [.st (x.cs .n),.x (iT n)]=some ⟨[.one (iT (left n x.al))],[]⟩:=by
 obtain⟨f0,f1,f2⟩:=hl
 (refine aP rfl ?_;show Ev acx.code _ _ _)
 repeat' (first|(apply zk tM;exact rfl;simp only[List.map,iw];exact rfl;exact(Ha x.ca _ (by repeat (first|assumption|apply nn)) f0);exact rfl;exact rfl;exact rfl)|(apply zk tM;exact rfl;simp only[List.map,iw];exact rfl;exact(Ha x.bX _ (by repeat (first|assumption|apply nn)) f1);exact rfl;exact rfl;exact rfl)|(apply zk QE;exact rfl;simp only[List.map,iw];exact rfl;exact(ar2 x.Rows _ (by repeat (first|assumption|apply nn)) f2);exact rfl;exact rfl;exact rfl)|refine ak ?_|refine ai ?_|refine yt ?_ ?_|refine yo ?_|apply zn|refine yc ?_|intro _)
 all_goals (refine fin rfl ?_;unfold bm.al;grind [left,eP])
theorem afr (l:List af) (n:Int) (hn:eP n) (hl:fits af.fit l):HB [.x (af.ls .n l),.x (iT n)]=some ⟨[.one (iT (left n (l.length)))],[]⟩:=by
 have e:=E4 (f:=(af.el .n)) hn hl.1
 (refine aP rfl ?_;show Ev acy.code _ _ _)
 repeat' (first|refine ak ?_|refine ai ?_|refine yt ?_ ?_|refine yo ?_|apply zn|refine yc ?_|intro _)
 all_goals (refine fin rfl ?_;rename_i h;rw[e]at h;simp only[e,decide_eq_true_eq,decide_eq_false_iff_not]at h⊢)
 ·rw[left,if_pos (by omega)]
 ·rw[left,if_neg (by omega)]
theorem afs (x:aa) (n:Int) (hn:eP n) (hl:x.fit):HC [.st (x.cs .n),.x (iT n)]=some ⟨[.one (iT (left n x.al))],[]⟩:=by
 obtain⟨f0,f1⟩:=hl
 (refine aP rfl ?_;show Ev acz.code _ _ _)
 repeat' (first|(apply zk Fy;exact rfl;simp only[List.map,iw];exact rfl;exact(afr x.aH _ (by repeat (first|assumption|apply nn)) f0);exact rfl;exact rfl;exact rfl)|(apply zk QF;exact rfl;simp only[List.map,iw];exact rfl;exact(ar4 x.aN _ (by repeat (first|assumption|apply nn)) f1);exact rfl;exact rfl;exact rfl)|refine ak ?_|refine ai ?_|refine yt ?_ ?_|refine yo ?_|apply zn|refine yc ?_|intro _)
 all_goals (refine fin rfl ?_;unfold aa.al;grind [left,eP])
open C in
theorem E1 {α:Type}{el:α->T}{m g:Nat}{F:aB}{f:α->Nat}{l:List α}{n:Int} (hn:eP n) (dp:l.length<=maxLen)
  (hR:∀(i:Nat) (y:α) (x:Int) (K:LS->Prop),y∈l->(l.map el)[((i:Nat):Int).toNat]?=some (el y)->eP x->K [(0,.x (.l .n m (l.map el))),(5,.x (iT i)),(1,.x (iT (left x (f y))))]->
   cc 7 (0+1+1) [ii 20 m 18 19,LL 21 m 20,vv 22 1,dd 23 g F [21,22],ww 1 23] none
    [(0,.x (.l .n m (l.map el))),(1,.x (iT x)),(5,.x (iT i)),(18,.x (.l .n m (l.map el))),(19,.x (.i .i64 i))] K):
  lock (aQ (yP m g F)) [.x (.l .n m (l.map el)),.x (iT n)]=some ⟨[.one (iT (left n (aS f l)))],[]⟩:=by
 have e:=E4 (f:=el) hn dp
 (refine aP rfl ?_;show Ev (yP m g F).code _ _ _)
 repeat' (first|refine ak ?_|refine ai ?_|refine yt ?_ ?_|refine yo ?_|apply zn|refine yc ?_|intro _)
 ·refine fin rfl ?_;rename_i h;have h2:=dA f l;rw[e]at h;simp only[decide_eq_true_eq]at h;rw[left,if_pos (by omega)]
 ·rename_i h;rw[e]at h;simp only[decide_eq_false_iff_not]at h;show Ev _ _ _ _;refine jS (fun i (x:Int)=>[(0,.x (.l .n m (l.map el))),(1,.x (iT x)),(5,.x (iT i))]) (fun i x=>x=n-l.length-pre f l i/\0<=x) l.length (n-l.length) ⟨by rw[Pf];omega,by omega⟩ (by rw[e];rfl) ?_;intro i x nF hinv ih;obtain⟨GL,Tf⟩:=hinv;rcases js i l.length with aF|fL
  ·have hx:=bF aF;generalize l[i]=y at hx;have hc:decide ((i:Int)<(l.map el).length)=true:=by simpa using aF
   repeat' (first|refine hR i y x _ (cS hx) (bH hx) (by unfold eP at*;omega) ?_|refine ak ?_|refine ai ?_|refine yt ?_ ?_|refine yo ?_|apply zn|refine yc ?_|intro _)
   ·refine fin rfl ?_;rename_i h3;have h4:=w8 (f:=f) (l:=l) (i:=i+1);rw[uP hx]at h4;have h5:=OW (by unfold eP at*;omega) h3 (Nat.le_refl _);unfold left at h5⊢;split at h5<;>first|(rw[if_pos (by omega)];done)|omega
   ·rename_i h3;have h4:=IX (by unfold eP at*;omega) h3;refine ih (x-f y) aF ⟨?_,?_⟩ _ _ ?_
    ·rw[uP hx];omega
    ·omega
    ·rw[<-bU (by unfold maxLen at dp;omega),<-h4.1];rfl
  ·have hc:decide ((i:Int)<(l.map el).length)=false:=by simpa using fL
   repeat' (first|refine ak ?_|refine ai ?_|refine yt ?_ ?_|refine yo ?_|apply zn|refine yc ?_|intro _)
   refine fin rfl ?_;have h4:=Pe (f:=f) fL;rw[left,if_neg (by omega)];simp only[GL,RV.one.injEq,Out.mk.injEq,fq,T.i.injEq,and_true,true_and];omega
theorem aft (l:List aa) (n:Int) (hn:eP n) (hl:fits aa.fit l):HD [.x (aa.ls .n l),.x (iT n)]=some ⟨[.one (iT (left n (aS aa.al l)))],[]⟩:=
 E1 hn hl.1 fun i y x K h1 hx hr h=>by
  repeat' (first|exact h|refine yi _ hx ?_|refine yv FA (afs y x hr (hl.2 y h1)) ?_|refine yo ?_|apply zn)
theorem ar5 (x:aC) (n:Int) (hn:eP n) (hl:x.fit):Mx [.st (x.cs .n),.x (iT n)]=some ⟨[.one (iT (left n x.al))],[]⟩:=by
 have f0:=hl
 (refine aP rfl ?_;show Ev acA.code _ _ _)
 repeat' (first|(apply zk FA;exact rfl;simp only[List.map,iw];exact rfl;exact(afs x.bg _ (by repeat (first|assumption|apply nn)) f0);exact rfl;exact rfl;exact rfl)|refine ak ?_|refine ai ?_|refine yt ?_ ?_|refine yo ?_|apply zn|refine yc ?_|intro _)
 all_goals (refine fin rfl ?_;unfold aC.al;grind [left,eP])
theorem ar6 (l:List aC) (n:Int) (hn:eP n) (hl:fits aC.fit l):My [.x (aC.ls .n l),.x (iT n)]=some ⟨[.one (iT (left n (aS aC.al l)))],[]⟩:=
 E1 hn hl.1 fun i y x K h1 hx hr h=>by
  repeat' (first|exact h|refine yi _ hx ?_|refine yv QG (ar5 y x hr (hl.2 y h1)) ?_|refine yo ?_|apply zn)
theorem ar7 (x:au) (n:Int) (hn:eP n) (hl:x.fit):Mz [.st (x.cs .n),.x (iT n)]=some ⟨[.one (iT (left n x.al))],[]⟩:=by
 have f0:=hl
 (refine aP rfl ?_;show Ev acB.code _ _ _)
 repeat' (first|(apply zk FB;exact rfl;simp only[List.map,iw];exact rfl;exact(aft x.bV _ (by repeat (first|assumption|apply nn)) f0);exact rfl;exact rfl;exact rfl)|refine ak ?_|refine ai ?_|refine yt ?_ ?_|refine yo ?_|apply zn|refine yc ?_|intro _)
 all_goals (refine fin rfl ?_;unfold au.al;grind [left,eP])
theorem ar8 (l:List au) (n:Int) (hn:eP n) (hl:fits au.fit l):MA [.x (au.ls .n l),.x (iT n)]=some ⟨[.one (iT (left n (aS au.al l)))],[]⟩:=
 E1 hn hl.1 fun i y x K h1 hx hr h=>by
  repeat' (first|exact h|refine yi _ hx ?_|refine yv QI (ar7 y x hr (hl.2 y h1)) ?_|refine yo ?_|apply zn)
theorem ar9 (l:List (List au)) (n:Int) (hn:eP n) (hl:fits (fits au.fit) l):MB [.x (au.lss .n l),.x (iT n)]=some ⟨[.one (iT (left n (aS (aS au.al) l)))],[]⟩:=by
 have dp:=hl.1;have e:=E4 (f:=(au.ls .n)) hn hl.1
 (refine aP rfl ?_;show Ev acC.code _ _ _)
 repeat' (first|refine ak ?_|refine ai ?_|refine yt ?_ ?_|refine yo ?_|apply zn|refine yc ?_|intro _)
 ·refine fin rfl ?_;rename_i h;have h2:=dA (aS au.al) l;rw[e]at h;simp only[decide_eq_true_eq]at h;rw[left,if_pos (by omega)]
 ·rename_i h;rw[e]at h;simp only[decide_eq_false_iff_not]at h;show Ev _ _ _ _;refine jS (fun i (x:Int)=>[(0,.x (au.lss .n l)),(1,.x (iT x)),(5,.x (iT i))]) (fun i x=>x=n-l.length-pre (aS au.al) l i/\0<=x) l.length (n-l.length) ⟨by rw[Pf];omega,by omega⟩ (by rw[e];rfl) ?_;intro i x nF hinv ih;obtain⟨GL,Tf⟩:=hinv;rcases js i l.length with aF|fL
  ·have hx:=bF aF;generalize l[i]=y at hx;have hc:decide ((i:Int)<(l.map (au.ls .n)).length)=true:=by simpa using aF
   repeat' (first|refine yi ((au.ls .n) y) (bH hx) ?_|refine yv QJ (ar8 y x (by unfold eP at*;omega) (hl.2 y (cS hx))) ?_|refine ak ?_|refine ai ?_|refine yt ?_ ?_|refine yo ?_|apply zn|refine yc ?_|intro _)
   ·refine fin rfl ?_;rename_i h3;have h4:=w8 (f:=(aS au.al)) (l:=l) (i:=i+1);rw[uP hx]at h4;have h5:=OW (by unfold eP at*;omega) h3 (Nat.le_refl _);unfold left at h5⊢;split at h5<;>first|(rw[if_pos (by omega)];done)|omega
   ·rename_i h3;have h4:=IX (by unfold eP at*;omega) h3;refine ih (x-aS au.al y) aF ⟨?_,?_⟩ _ _ ?_
    ·rw[uP hx];omega
    ·omega
    ·rw[<-bU (by unfold maxLen at dp;omega),<-h4.1];rfl
  ·have hc:decide ((i:Int)<(l.map (au.ls .n)).length)=false:=by simpa using fL
   repeat' (first|refine ak ?_|refine ai ?_|refine yt ?_ ?_|refine yo ?_|apply zn|refine yc ?_|intro _)
   refine fin rfl ?_;have h4:=Pe (f:=(aS au.al)) fL;rw[left,if_neg (by omega)];simp only[GL,RV.one.injEq,Out.mk.injEq,fq,T.i.injEq,and_true,true_and];omega
theorem asa (x:aD) (n:Int) (hn:eP n) (hl:x.fit):MC [.st (x.cs .n),.x (iT n)]=some ⟨[.one (iT (left n x.al))],[]⟩:=by
 have f0:=hl
 (refine aP rfl ?_;show Ev acD.code _ _ _)
 repeat' (first|(apply zk Fy;exact rfl;simp only[List.map,iw];exact rfl;exact(afr x.bK _ (by repeat (first|assumption|apply nn)) f0);exact rfl;exact rfl;exact rfl)|refine ak ?_|refine ai ?_|refine yt ?_ ?_|refine yo ?_|apply zn|refine yc ?_|intro _)
 all_goals (refine fin rfl ?_;unfold aD.al;grind [left,eP])
theorem asb (l:List aD) (n:Int) (hn:eP n) (hl:fits aD.fit l):MD [.x (aD.ls .n l),.x (iT n)]=some ⟨[.one (iT (left n (aS aD.al l)))],[]⟩:=
 E1 hn hl.1 fun i y x K h1 hx hr h=>by
  repeat' (first|exact h|refine yi _ hx ?_|refine yv QL (asa y x hr (hl.2 y h1)) ?_|refine yo ?_|apply zn)
theorem asc (x:aK) (n:Int) (hn:eP n) (hl:x.fit):ME [.st (x.cs .n),.x (iT n)]=some ⟨[.one (iT (left n x.al))],[]⟩:=by
 have f0:=hl
 (refine aP rfl ?_;show Ev acE.code _ _ _)
 repeat' (first|(apply zk tM;exact rfl;simp only[List.map,iw];exact rfl;exact(Ha x.Left _ (by repeat (first|assumption|apply nn)) f0);exact rfl;exact rfl;exact rfl)|refine ak ?_|refine ai ?_|refine yt ?_ ?_|refine yo ?_|apply zn|refine yc ?_|intro _)
 all_goals (refine fin rfl ?_;unfold aK.al;grind [left,eP])
theorem asd (l:List aK) (n:Int) (hn:eP n) (hl:fits aK.fit l):MF [.x (aK.ls .n l),.x (iT n)]=some ⟨[.one (iT (left n (aS aK.al l)))],[]⟩:=
 E1 hn hl.1 fun i y x K h1 hx hr h=>by
  repeat' (first|exact h|refine yi _ hx ?_|refine yv QN (asc y x hr (hl.2 y h1)) ?_|refine yo ?_|apply zn)
theorem ase (x:aA) (n:Int) (hn:eP n) (hl:x.fit):MG [.st (x.cs .n),.x (iT n)]=some ⟨[.one (iT (left n x.al))],[]⟩:=by
 obtain⟨f0,f1,f2,f3,f4,f5⟩:=hl
 (refine aP rfl ?_;show Ev acF.code _ _ _)
 repeat' (first|(apply zk QD;exact rfl;simp only[List.map,iw];exact rfl;exact(ar1 x.aT _ (by repeat (first|assumption|apply nn)) f0);exact rfl;exact rfl;exact rfl)|(apply zk QM;exact rfl;simp only[List.map,iw];exact rfl;exact(asb x.bp _ (by repeat (first|assumption|apply nn)) f1);exact rfl;exact rfl;exact rfl)|(apply zk QK;exact rfl;simp only[List.map,iw];exact rfl;exact(ar9 x.Rows _ (by repeat (first|assumption|apply nn)) f2);exact rfl;exact rfl;exact rfl)|(apply zk QO;exact rfl;simp only[List.map,iw];exact rfl;exact(asd x.cI _ (by repeat (first|assumption|apply nn)) f3);exact rfl;exact rfl;exact rfl)|(apply zk FB;exact rfl;simp only[List.map,iw];exact rfl;exact(aft x.aJ _ (by repeat (first|assumption|apply nn)) f4);exact rfl;exact rfl;exact rfl)|(apply zk QH;exact rfl;simp only[List.map,iw];exact rfl;exact(ar6 x.bz _ (by repeat (first|assumption|apply nn)) f5);exact rfl;exact rfl;exact rfl)|refine ak ?_|refine ai ?_|refine yt ?_ ?_|refine yo ?_|apply zn|refine yc ?_|intro _)
 all_goals (refine fin rfl ?_;unfold aA.al;grind [left,eP])
theorem Hb (l:List Int) (hl:l.length<=1048576):yF [.x (ints .n l)]=some ⟨[.one (ints .y l)],[]⟩:=by
 have dp:=Nat.le_refl l.length
 (refine aP rfl ?_;show Ev acG.code _ _ _)
 repeat' (first|(apply zs;(iterate 3 exact rfl);exact(pY _);exact(by simp[cQ]<;>omega);exact rfl;exact rfl)|refine ak ?_|refine ai ?_|refine yt ?_ ?_|refine yo ?_|apply zn|refine yc ?_|intro _)
 show Ev _ _ _ _;refine jS (fun i (_:Unit)=>[(0,.x (ints .n l)),(3,.own ⟨0,0,0⟩ (.l .y 1 (iJ iT (iT 0) l i))),(4,.x (iT i))]) (fun i _=>True) l.length () trivial (by rw[IF,<-cL iT];rfl) ?_;intro i _ nF _ ih;rcases js i l.length with aF|fL
 ·have hx:=bF aF;generalize l[i]=x at hx;have hc:decide ((i:Int)<(l.map iT).length)=true:=by simpa using aF
  have hg:=IC iT (iT 0) l aF
  repeat' (first|refine yi (iT x) (bH hx) ?_|(apply zw;exact rfl;exact rfl;exact pY _;exact(by rw[ID iT (iT 0) l nF];omega);exact rfl;exact rfl)|(apply zS ((iT 0)) (.l .y 1 (iJ iT (iT 0) l (i+1)));(iterate 4 exact rfl);exact(by simp[T.aM,T.bA,hg]);exact(by simp[T.eO,Ob.own,hg]);exact rfl;exact(by simp[T.put,T.bA,T.dP,T.cells,T.jo,fG,hg,<-IE iT (iT 0) l hx]);iterate 3 exact rfl)|refine ak ?_|refine ai ?_|refine yt ?_ ?_|refine yo ?_|apply zn|refine yc ?_|intro _)
  refine ih () aF trivial _ _ ?_;rw[<-bU (by omega)];rfl
 ·have hc:decide ((i:Int)<(l.map iT).length)=false:=by simpa using fL
  repeat' (first|refine ak ?_|refine ai ?_|refine yt ?_ ?_|refine yo ?_|apply zn|refine yc ?_|intro _)
  refine fin rfl ?_;simp only[bN,IB _ _ _ fL]
theorem asf (x:bR) (hl:x.al<=1048576):MH [.st (x.cs .n)]=some ⟨[.st (x.cs .y)],[]⟩:=by
 simp only[bR.al]at hl
 (refine aP rfl ?_;show Ev acH.code _ _ _)
 repeat' (first|refine yv sm (Hb x.dX (by omega)) ?_|refine yo ?_|apply zn|refine yc ?_|intro _)
 refine fin rfl ?_
 try simp only[bN]
 rfl
theorem ash (l:List (List Int)) (hl:aS List.length l<=1048576):MI [.x (kg.lss .n l)]=some ⟨[.one (kg.lss .y l)],[]⟩:=by
 have dp:=dA List.length l
 (refine aP rfl ?_;show Ev acI.code _ _ _)
 repeat' (first|(apply zs;(iterate 3 exact rfl);exact(pY _);exact(by simp[cQ]<;>omega);exact rfl;exact rfl)|refine ak ?_|refine ai ?_|refine yt ?_ ?_|refine yo ?_|apply zn|refine yc ?_|intro _)
 show Ev _ _ _ _;refine jS (fun i (_:Unit)=>[(0,.x (kg.lss .n l)),(3,.own ⟨0,0,0⟩ (.l .y 1 (iJ (ints .y) (.l .y 1 []) l i))),(4,.x (iT i))]) (fun i _=>True) l.length () trivial (by rw[IF,<-cL (ints .n)];rfl) ?_;intro i _ nF _ ih;rcases js i l.length with aF|fL
 ·have hx:=bF aF;generalize l[i]=x at hx;have hc:decide ((i:Int)<(l.map (ints .n)).length)=true:=by simpa using aF
  have hg:=IC (ints .y) (.l .y 1 []) l aF
  repeat' (first|refine yi ((ints .n) x) (bH hx) ?_|(apply zw;exact rfl;exact rfl;exact pY _;exact(by rw[ID (ints .y) (.l .y 1 []) l nF];omega);exact rfl;exact rfl)|refine yv sm (Hb x (by have:=gk (f:=List.length) hx;omega)) ?_|(apply zS ((.l .y 1 [])) (.l .y 1 (iJ (ints .y) (.l .y 1 []) l (i+1)));(iterate 4 exact rfl);exact(by simp[T.aM,T.bA,hg]);exact(by simp[T.eO,Ob.own,hg]);exact rfl;exact(by simp[T.put,T.bA,T.dP,T.cells,T.jo,fG,hg,<-IE (ints .y) (.l .y 1 []) l hx]);iterate 3 exact rfl)|refine ak ?_|refine ai ?_|refine yt ?_ ?_|refine yo ?_|apply zn|refine yc ?_|intro _)
  refine ih () aF trivial _ _ ?_;rw[<-bU (by omega)];rfl
 ·have hc:decide ((i:Int)<(l.map (ints .n)).length)=false:=by simpa using fL
  repeat' (first|refine ak ?_|refine ai ?_|refine yt ?_ ?_|refine yo ?_|apply zn|refine yc ?_|intro _)
  refine fin rfl ?_;simp only[bN,IB _ _ _ fL]
theorem asi (x:bm) (hl:x.al<=1048576):MJ [.st (x.cs .n)]=some ⟨[.st (x.cs .y)],[]⟩:=by
 simp only[bm.al]at hl
 (refine aP rfl ?_;show Ev acJ.code _ _ _)
 repeat' (first|refine yv sm (Hb x.ca (by omega)) ?_|refine yv sm (Hb x.bX (by omega)) ?_|refine yv QQ (ash x.Rows (by omega)) ?_|refine yo ?_|apply zn|refine yc ?_|intro _)
 refine fin rfl ?_
 try simp only[bN]
 rfl
theorem asj (x:af):MK [.st (x.cs .n)]=some ⟨[.st (x.cs .y)],[]⟩:=by
 (refine aP rfl ?_;show Ev acK.code _ _ _)
 repeat' (first|refine yo ?_|apply zn|refine yc ?_|intro _)
 refine fin rfl ?_
 try simp only[bN]
 rfl
open C in
theorem Cy {α:Type}{el ey:α->T}{Z:List T}{n g:Nat}{F:aB} (l:List α) (dp:l.length<=1048576)
  (hR:∀(i:Nat) (x:α) (K:LS->Prop),l[i]?=some x->(l.map el)[((i:Nat):Int).toNat]?=some (el x)->(i:Int)<(iJ ey (.a Z) l i).length->
   (T.l .y n (iJ ey (.a Z) l i)).aM [0+((i:Nat):Int).toNat]=some (.a Z)->(T.l .y n (iJ ey (.a Z) l i)).eO [0+((i:Nat):Int).toNat]=true->
   (∀new,new.length=Z.length->T.a new=ey x->(T.l .y n (iJ ey (.a Z) l i)).put [0+((i:Nat):Int).toNat] ((T.a Z).jo (fG (T.a Z).cells 0 new))=.l .y n (iJ ey (.a Z) l (i+1)))->
   K [(0,.x (.l .n n (l.map el))),(3,.own ⟨0,0,0⟩ (.l .y n (iJ ey (.a Z) l (i+1)))),(4,.x (iT i))]->
   K [(0,.x (.l .n n (l.map el))),(3,.own ⟨0,0,40072⟩ (.l .y n (iJ ey (.a Z) l (i+1)))),(4,.x (iT i))]->
   cc 5 (0+1+1+1+1) [ii 18 n 16 17,LL 19 n 18,dd 20 g F [19],ii 21 n 14 15,s n 21 20 [20,21]] none
    [(0,.x (.l .n n (l.map el))),(3,.own ⟨0,0,0⟩ (.l .y n (iJ ey (.a Z) l i))),(4,.x (iT i)),(14,.w 3 ⟨0,0,0⟩ [] n 0 (iJ ey (.a Z) l i).length),(15,.x (.i .i64 i)),(16,.x (.l .n n (l.map el))),(17,.x (.i .i64 i))] K):
  lock (aQ (wD n Z g F)) [.x (.l .n n (l.map el))]=some ⟨[.one (.l .y n (l.map ey))],[]⟩:=by
 (refine aP rfl ?_;show Ev (wD n Z g F).code _ _ _)
 repeat' (first|(apply zs;(iterate 3 exact rfl);exact(pY _);exact(by simp[cQ]<;>omega);exact rfl;exact rfl)|refine ak ?_|refine ai ?_|refine yt ?_ ?_|refine yo ?_|apply zn|refine yc ?_|intro _)
 show Ev _ _ _ _;refine jS (fun i (_:Unit)=>[(0,.x (.l .n n (l.map el))),(3,.own ⟨0,0,0⟩ (.l .y n (iJ ey (.a Z) l i))),(4,.x (iT i))]) (fun i _=>True) l.length () trivial (by rw[IF,<-cL el];rfl) ?_;intro i _ nF _ ih;rcases js i l.length with aF|fL
 ·have hx:=bF aF;generalize l[i]=x at hx;have hc:decide ((i:Int)<(l.map el).length)=true:=by simpa using aF
  have hg:=IC ey (.a Z) l aF;have hw:(i:Int)<(iJ ey (.a Z) l i).length:=by rw[ID ey (.a Z) l nF];omega
  repeat' (first|refine ak ?_|refine ai ?_|refine yt ?_ ?_|refine yo ?_|apply zn|refine yc ?_|intro _)
  refine hR i x _ hx (bH hx) hw (by simp[T.aM,T.bA,hg]) (by simp[T.eO,Ob.own,hg]) (fun new h1 h2=>by simp[T.put,T.bA,T.dP,T.cells,T.jo,fG,hg,<-IE ey (.a Z) l hx,<-h2,h1]) ?_ ?_;all_goals
   repeat' (first|refine ak ?_|refine ai ?_|refine yt ?_ ?_|refine yo ?_|apply zn|refine yc ?_|intro _)
   refine ih () aF trivial _ _ ?_;rw[<-bU (by omega)];rfl
 ·have hc:decide ((i:Int)<(l.map el).length)=false:=by simpa using fL
  repeat' (first|refine ak ?_|refine ai ?_|refine yt ?_ ?_|refine yo ?_|apply zn|refine yc ?_|intro _)
  refine fin rfl ?_;simp only[bN,IB _ _ _ fL]
theorem afu (l:List af) (hl:l.length<=1048576):HE [.x (af.ls .n l)]=some ⟨[.one (af.ls .y l)],[]⟩:=
 Cy (el:=(af.el .n)) (ey:=(af.el .y)) l hl fun i x K h1 hx hw hn hm hp h h'=>by
  repeat' (first|exact h|exact h'|refine yi _ hx ?_|refine yx hw ?_|refine yv QS (asj x) ?_|(apply zS _ _;(iterate 4 exact rfl);exact hn;exact hm;exact rfl;exact(hp _ rfl rfl);iterate 3 exact rfl)|refine yo ?_|apply zn)
theorem afv (x:aa) (hl:x.al<=1048576):HF [.st (x.cs .n)]=some ⟨[.st (x.cs .y)],[]⟩:=by
 simp only[aa.al]at hl
 (refine aP rfl ?_;show Ev acL.code _ _ _)
 repeat' (first|refine yv FD (afu x.aH (by omega)) ?_|refine yv QR (asi x.aN (by omega)) ?_|refine yo ?_|apply zn|refine yc ?_|intro _)
 refine fin rfl ?_
 try simp only[bN]
 rfl
theorem afw (l:List aa) (hl:aS aa.al l<=1048576):HG [.x (aa.ls .n l)]=some ⟨[.one (aa.ls .y l)],[]⟩:=
 Cy (el:=(aa.el .n)) (ey:=(aa.el .y)) l (eQ (dA ..) hl) fun i x K h1 hx hw hn hm hp h h'=>by
  repeat' (first|exact h|exact h'|refine yi _ hx ?_|refine yx hw ?_|refine yv FE (afv x (by have:=gk (f:=aa.al) h1;omega)) ?_|(apply zS _ _;(iterate 4 exact rfl);exact hn;exact hm;exact rfl;exact(hp _ rfl rfl);iterate 3 exact rfl)|refine yo ?_|apply zn)
theorem asl (x:aC) (hl:x.al<=1048576):ML [.st (x.cs .n)]=some ⟨[.st (x.cs .y)],[]⟩:=by
 simp only[aC.al]at hl
 (refine aP rfl ?_;show Ev acM.code _ _ _)
 repeat' (first|refine yv FE (afv x.bg (by omega)) ?_|refine yo ?_|apply zn|refine yc ?_|intro _)
 refine fin rfl ?_
 try simp only[bN]
 rfl
theorem asm (l:List aC) (hl:aS aC.al l<=1048576):MM [.x (aC.ls .n l)]=some ⟨[.one (aC.ls .y l)],[]⟩:=
 Cy (el:=(aC.el .n)) (ey:=(aC.el .y)) l (eQ (dA ..) hl) fun i x K h1 hx hw hn hm hp h h'=>by
  repeat' (first|exact h|exact h'|refine yi _ hx ?_|refine yx hw ?_|refine yv QT (asl x (by have:=gk (f:=aC.al) h1;omega)) ?_|(apply zS _ _;(iterate 4 exact rfl);exact hn;exact hm;exact rfl;exact(hp _ rfl rfl);iterate 3 exact rfl)|refine yo ?_|apply zn)
theorem asn (x:au) (hl:x.al<=1048576):MN [.st (x.cs .n)]=some ⟨[.st (x.cs .y)],[]⟩:=by
 simp only[au.al]at hl
 (refine aP rfl ?_;show Ev acN.code _ _ _)
 repeat' (first|refine yv FF (afw x.bV (by omega)) ?_|refine yo ?_|apply zn|refine yc ?_|intro _)
 refine fin rfl ?_
 try simp only[bN]
 rfl
theorem aso (l:List au) (hl:aS au.al l<=1048576):MO [.x (au.ls .n l)]=some ⟨[.one (au.ls .y l)],[]⟩:=
 Cy (el:=(au.el .n)) (ey:=(au.el .y)) l (eQ (dA ..) hl) fun i x K h1 hx hw hn hm hp h h'=>by
  repeat' (first|exact h|exact h'|refine yi _ hx ?_|refine yx hw ?_|refine yv QV (asn x (by have:=gk (f:=au.al) h1;omega)) ?_|(apply zS _ _;(iterate 4 exact rfl);exact hn;exact hm;exact rfl;exact(hp _ rfl rfl);iterate 3 exact rfl)|refine yo ?_|apply zn)
theorem asq (l:List (List au)) (hl:aS (aS au.al) l<=1048576):MQ [.x (au.lss .n l)]=some ⟨[.one (au.lss .y l)],[]⟩:=by
 have dp:=dA (aS au.al) l
 (refine aP rfl ?_;show Ev acP.code _ _ _)
 repeat' (first|(apply zs;(iterate 3 exact rfl);exact(pY _);exact(by simp[cQ]<;>omega);exact rfl;exact rfl)|refine ak ?_|refine ai ?_|refine yt ?_ ?_|refine yo ?_|apply zn|refine yc ?_|intro _)
 show Ev _ _ _ _;refine jS (fun i (_:Unit)=>[(0,.x (au.lss .n l)),(3,.own ⟨0,0,0⟩ (.l .y 1 (iJ (au.ls .y) (.l .y 1 []) l i))),(4,.x (iT i))]) (fun i _=>True) l.length () trivial (by rw[IF,<-cL (au.ls .n)];rfl) ?_;intro i _ nF _ ih;rcases js i l.length with aF|fL
 ·have hx:=bF aF;generalize l[i]=x at hx;have hc:decide ((i:Int)<(l.map (au.ls .n)).length)=true:=by simpa using aF
  have hg:=IC (au.ls .y) (.l .y 1 []) l aF
  repeat' (first|refine yi ((au.ls .n) x) (bH hx) ?_|(apply zw;exact rfl;exact rfl;exact pY _;exact(by rw[ID (au.ls .y) (.l .y 1 []) l nF];omega);exact rfl;exact rfl)|refine yv QW (aso x (by have:=gk (f:=(aS au.al)) hx;omega)) ?_|(apply zS ((.l .y 1 [])) (.l .y 1 (iJ (au.ls .y) (.l .y 1 []) l (i+1)));(iterate 4 exact rfl);exact(by simp[T.aM,T.bA,hg]);exact(by simp[T.eO,Ob.own,hg]);exact rfl;exact(by simp[T.put,T.bA,T.dP,T.cells,T.jo,fG,hg,<-IE (au.ls .y) (.l .y 1 []) l hx]);iterate 3 exact rfl)|refine ak ?_|refine ai ?_|refine yt ?_ ?_|refine yo ?_|apply zn|refine yc ?_|intro _)
  refine ih () aF trivial _ _ ?_;rw[<-bU (by omega)];rfl
 ·have hc:decide ((i:Int)<(l.map (au.ls .n)).length)=false:=by simpa using fL
  repeat' (first|refine ak ?_|refine ai ?_|refine yt ?_ ?_|refine yo ?_|apply zn|refine yc ?_|intro _)
  refine fin rfl ?_;simp only[bN,IB _ _ _ fL]
theorem asr (x:aD) (hl:x.al<=1048576):MR [.st (x.cs .n)]=some ⟨[.st (x.cs .y)],[]⟩:=by
 simp only[aD.al]at hl
 (refine aP rfl ?_;show Ev acQ.code _ _ _)
 repeat' (first|refine yv FD (afu x.bK (by omega)) ?_|refine yo ?_|apply zn|refine yc ?_|intro _)
 refine fin rfl ?_
 try simp only[bN]
 rfl
theorem ass (l:List aD) (hl:aS aD.al l<=1048576):MS [.x (aD.ls .n l)]=some ⟨[.one (aD.ls .y l)],[]⟩:=
 Cy (el:=(aD.el .n)) (ey:=(aD.el .y)) l (eQ (dA ..) hl) fun i x K h1 hx hw hn hm hp h h'=>by
  repeat' (first|exact h|exact h'|refine yi _ hx ?_|refine yx hw ?_|refine yv QZ (asr x (by have:=gk (f:=aD.al) h1;omega)) ?_|(apply zS _ _;(iterate 4 exact rfl);exact hn;exact hm;exact rfl;exact(hp _ rfl rfl);iterate 3 exact rfl)|refine yo ?_|apply zn)
theorem ast (x:aK) (hl:x.al<=1048576):MT [.st (x.cs .n)]=some ⟨[.st (x.cs .y)],[]⟩:=by
 simp only[aK.al]at hl
 (refine aP rfl ?_;show Ev acR.code _ _ _)
 repeat' (first|refine yv sm (Hb x.Left (by omega)) ?_|refine yo ?_|apply zn|refine yc ?_|intro _)
 refine fin rfl ?_
 try simp only[bN]
 rfl
theorem asu (l:List aK) (hl:aS aK.al l<=1048576):MU [.x (aK.ls .n l)]=some ⟨[.one (aK.ls .y l)],[]⟩:=
 Cy (el:=(aK.el .n)) (ey:=(aK.el .y)) l (eQ (dA ..) hl) fun i x K h1 hx hw hn hm hp h h'=>by
  repeat' (first|exact h|exact h'|refine yi _ hx ?_|refine yx hw ?_|refine yv Q1 (ast x (by have:=gk (f:=aK.al) h1;omega)) ?_|(apply zS _ _;(iterate 4 exact rfl);exact hn;exact hm;exact rfl;exact(hp _ rfl rfl);iterate 3 exact rfl)|refine yo ?_|apply zn)
theorem asv (x:aA) (hl:x.al<=1048576):Bw [.st (x.cs .n)]=some ⟨[.st (x.cs .y)],[]⟩:=by
 simp only[aA.al]at hl
 (refine aP rfl ?_;show Ev acS.code _ _ _)
 repeat' (first|refine yv QP (asf x.aT (by omega)) ?_|refine yv Q0 (ass x.bp (by omega)) ?_|refine yv QY (asq x.Rows (by omega)) ?_|refine yv Q2 (asu x.cI (by omega)) ?_|refine yv FF (afw x.aJ (by omega)) ?_|refine yv QU (asm x.bz (by omega)) ?_|refine yo ?_|apply zn|refine yc ?_|intro _)
 refine fin rfl ?_
 try simp only[bN]
 rfl
theorem G9 (a b:List Int) (hl:a.length<=1048576):yC [.x (ints .n a),.x (ints .n b)]=some ⟨[.one (.b (decide (a=b)))],[]⟩:=by
 have dp:=Nat.le_refl a.length
 (refine aP rfl ?_;show Ev ab1.code _ _ _)
 repeat' (first|refine ak ?_|refine ai ?_|refine yt ?_ ?_|refine yo ?_|apply zn|refine yc ?_|intro _)
 ·refine fin rfl ?_;rename_i h;have h2:a≠b:=Cf h;simp[h2]
 ·have hlen:a.length=b.length:=by rename_i h;exact B1 h
  show Ev _ _ _ _;refine jS (fun i (_:Unit)=>[(0,.x (ints .n a)),(1,.x (ints .n b)),(5,.x (iT i))]) (fun i _=>a.take i=b.take i) a.length () (by simp) rfl ?_;intro i _ nF hinv ih;rcases js i a.length with aF|fL
  ·have hx:=bF aF;have hy:=bF (show i<b.length by omega);generalize a[i]=x at hx;generalize b[i]'(by omega)=y at hy;have hc:decide ((i:Int)<(a.map iT).length)=true:=by simpa using aF
   repeat' (first|refine yi (iT x) (bH hx) ?_|refine yi (iT y) (bH hy) ?_|refine ak ?_|refine ai ?_|refine yt ?_ ?_|refine yo ?_|apply zn|refine yc ?_|intro _)
   ·refine fin rfl ?_;rename_i h;have h2:a≠b:=Ce hx hy (by simpa using h);simp[h2]
   ·rename_i h;have oR:x=y:=by simpa using h
    refine ih () aF (B3 hinv hx (oR▸hy)) _ _ ?_;rw[<-bU (by omega)];rfl
  ·have hc:decide ((i:Int)<(a.map iT).length)=false:=by simpa using fL
   repeat' (first|refine ak ?_|refine ai ?_|refine yt ?_ ?_|refine yo ?_|apply zn|refine yc ?_|intro _)
   refine fin rfl ?_;simp[B0 hinv hlen fL]
theorem arH (a b:bR) (hl:a.al<=1048576):Ma [.st (a.cs .n),.st (b.cs .n)]=some ⟨[.one (.b (decide (a=b)))],[]⟩:=by
 simp only[bR.al]at hl
 (refine aP rfl ?_;show Ev ab2.code _ _ _)
 repeat' (first|refine yv sj (G9 a.dX b.dX (by omega)) ?_|refine ak ?_|refine ai ?_|refine yt ?_ ?_|refine yo ?_|apply zn|refine yc ?_|intro _)
 all_goals (refine fin rfl ?_;simp only[Out.mk.injEq,fq,RV.one.injEq,T.b.injEq,and_true])
 all_goals (rcases a with⟨a0,a1,a2,a3,a4,a5,a6,a7⟩;rcases b with⟨b0,b1,b2,b3,b4,b5,b6,b7⟩;simp only[bR.mk.injEq]at*;simp_all)
theorem arI (a b:List (List Int)) (hl:aS List.length a<=1048576):Mb [.x (kg.lss .n a),.x (kg.lss .n b)]=some ⟨[.one (.b (decide (a=b)))],[]⟩:=by
 have dp:=dA List.length a
 (refine aP rfl ?_;show Ev ab3.code _ _ _)
 repeat' (first|refine ak ?_|refine ai ?_|refine yt ?_ ?_|refine yo ?_|apply zn|refine yc ?_|intro _)
 ·refine fin rfl ?_;rename_i h;have h2:a≠b:=Cf h;simp[h2]
 ·have hlen:a.length=b.length:=by rename_i h;exact B1 h
  show Ev _ _ _ _;refine jS (fun i (_:Unit)=>[(0,.x (kg.lss .n a)),(1,.x (kg.lss .n b)),(5,.x (iT i))]) (fun i _=>a.take i=b.take i) a.length () (by simp) rfl ?_;intro i _ nF hinv ih;rcases js i a.length with aF|fL
  ·have hx:=bF aF;have hy:=bF (show i<b.length by omega);generalize a[i]=x at hx;generalize b[i]'(by omega)=y at hy;have hc:decide ((i:Int)<(a.map (ints .n)).length)=true:=by simpa using aF
   repeat' (first|refine yi ((ints .n) x) (bH hx) ?_|refine yi ((ints .n) y) (bH hy) ?_|refine yv sj (G9 x y (by have:=gk (f:=List.length) hx;omega)) ?_|refine ak ?_|refine ai ?_|refine yt ?_ ?_|refine yo ?_|apply zn|refine yc ?_|intro _)
   ·refine fin rfl ?_;rename_i h;have h2:a≠b:=Ce hx hy (by simpa using h);simp[h2]
   ·rename_i h;have oR:x=y:=by simpa using h
    refine ih () aF (B3 hinv hx (oR▸hy)) _ _ ?_;rw[<-bU (by omega)];rfl
  ·have hc:decide ((i:Int)<(a.map (ints .n)).length)=false:=by simpa using fL
   repeat' (first|refine ak ?_|refine ai ?_|refine yt ?_ ?_|refine yo ?_|apply zn|refine yc ?_|intro _)
   refine fin rfl ?_;simp[B0 hinv hlen fL]
theorem arJ (a b:bm) (hl:a.al<=1048576):Mc [.st (a.cs .n),.st (b.cs .n)]=some ⟨[.one (.b (decide (a=b)))],[]⟩:=by
 simp only[bm.al]at hl
 (refine aP rfl ?_;show Ev ab4.code _ _ _)
 repeat' (first|refine yv sj (G9 a.ca b.ca (by omega)) ?_|refine yv sj (G9 a.bX b.bX (by omega)) ?_|refine yv Ql (arI a.Rows b.Rows (by omega)) ?_|refine ak ?_|refine ai ?_|refine yt ?_ ?_|refine yo ?_|apply zn|refine yc ?_|intro _)
 all_goals (refine fin rfl ?_;simp only[Out.mk.injEq,fq,RV.one.injEq,T.b.injEq,and_true])
 all_goals (rcases a with⟨a0,a1,a2,a3,a4,a5,a6⟩;rcases b with⟨b0,b1,b2,b3,b4,b5,b6⟩;simp only[bm.mk.injEq]at*;simp_all)
theorem arK (a b:af):Md [.st (a.cs .n),.st (b.cs .n)]=some ⟨[.one (.b (decide (a=b)))],[]⟩:=by
 (refine aP rfl ?_;show Ev ab5.code _ _ _)
 repeat' (first|refine ak ?_|refine ai ?_|refine yt ?_ ?_|refine yo ?_|apply zn|refine yc ?_|intro _)
 all_goals (refine fin rfl ?_;simp only[Out.mk.injEq,fq,RV.one.injEq,T.b.injEq,and_true])
 all_goals (rcases a with⟨a0,a1⟩;rcases b with⟨b0,b1⟩;simp only[af.mk.injEq]at*;simp_all)
open C in
theorem BZ {α:Type} [DecidableEq α] {el:α->T}{n g:Nat}{F:aB} (a b:List α) (dp:a.length<=1048576)
  (hR:∀(i:Nat) (x y:α) (K:LS->Prop),a[i]?=some x->(a.map el)[((i:Nat):Int).toNat]?=some (el x)->(b.map el)[((i:Nat):Int).toNat]?=some (el y)->K [(0,.x (.l .n n (a.map el))),(1,.x (.l .n n (b.map el))),(5,.x (iT i)),(26,.x (.b (!decide (x=y))))]->
   cc 6 (0+1+1) [ii 19 n 17 18,LL 20 n 19,v' 21 1,v' 22 5,ii 23 n 21 22,LL 24 n 23,dd 25 g F [20,24],uu 26 25] (some (Qi [ii 19 n 17 18,LL 20 n 19,v' 21 1,v' 22 5,ii 23 n 21 22,LL 24 n 23,dd 25 g F [20,24],uu 26 25] [[],[],[],[],[],[],[],[]]))
    [(0,.x (.l .n n (a.map el))),(1,.x (.l .n n (b.map el))),(5,.x (iT i)),(17,.x (.l .n n (a.map el))),(18,.x (iT i))] K):
  lock (aQ (wC n g F)) [.x (.l .n n (a.map el)),.x (.l .n n (b.map el))]=some ⟨[.one (.b (decide (a=b)))],[]⟩:=by
 (refine aP rfl ?_;show Ev (wC n g F).code _ _ _)
 repeat' (first|refine ak ?_|refine ai ?_|refine yt ?_ ?_|refine yo ?_|apply zn|refine yc ?_|intro _)
 ·refine fin rfl ?_;rename_i h;have h2:a≠b:=Cf h;simp[h2]
 ·have hlen:a.length=b.length:=by rename_i h;exact B1 h
  show Ev _ _ _ _;refine jS (fun i (_:Unit)=>[(0,.x (.l .n n (a.map el))),(1,.x (.l .n n (b.map el))),(5,.x (iT i))]) (fun i _=>a.take i=b.take i) a.length () (by simp) rfl ?_;intro i _ nF hinv ih;rcases js i a.length with aF|fL
  ·have hx:=bF aF;have hy:=bF (show i<b.length by omega);generalize a[i]=x at hx;generalize b[i]'(by omega)=y at hy;have hc:decide ((i:Int)<(a.map el).length)=true:=by simpa using aF
   repeat' (first|refine hR i x y _ hx (bH hx) (bH hy) ?_|refine ak ?_|refine ai ?_|refine yt ?_ ?_|refine yo ?_|apply zn|refine yc ?_|intro _)
   ·refine fin rfl ?_;rename_i h;have h2:a≠b:=Ce hx hy (by simpa using h);simp[h2]
   ·rename_i h;have oR:x=y:=by simpa using h
    refine ih () aF (B3 hinv hx (oR▸hy)) _ _ ?_;rw[<-bU (by omega)];rfl
  ·have hc:decide ((i:Int)<(a.map el).length)=false:=by simpa using fL
   repeat' (first|refine ak ?_|refine ai ?_|refine yt ?_ ?_|refine yo ?_|apply zn|refine yc ?_|intro _)
   refine fin rfl ?_;simp[B0 hinv hlen fL]
theorem afk (a b:List af) (hl:a.length<=1048576):Hu [.x (af.ls .n a),.x (af.ls .n b)]=some ⟨[.one (.b (decide (a=b)))],[]⟩:=
 BZ a b hl fun i x y K h1 hx hy h=>by
  repeat' (first|exact h|refine yi _ hx ?_|refine yi _ hy ?_|refine yv Qn (arK x y) ?_|refine yo ?_|apply zn)
theorem afl (a b:aa) (hl:a.al<=1048576):Hv [.st (a.cs .n),.st (b.cs .n)]=some ⟨[.one (.b (decide (a=b)))],[]⟩:=by
 simp only[aa.al]at hl
 (refine aP rfl ?_;show Ev ab6.code _ _ _)
 repeat' (first|refine yv Fo (afk a.aH b.aH (by omega)) ?_|refine yv Qm (arJ a.aN b.aN (by omega)) ?_|refine ak ?_|refine ai ?_|refine yt ?_ ?_|refine yo ?_|apply zn|refine yc ?_|intro _)
 all_goals (refine fin rfl ?_;simp only[Out.mk.injEq,fq,RV.one.injEq,T.b.injEq,and_true])
 all_goals (rcases a with⟨a0,a1,a2,a3⟩;rcases b with⟨b0,b1,b2,b3⟩;simp only[aa.mk.injEq]at*;simp_all)
theorem afm (a b:List aa) (hl:aS aa.al a<=1048576):Hw [.x (aa.ls .n a),.x (aa.ls .n b)]=some ⟨[.one (.b (decide (a=b)))],[]⟩:=
 BZ a b (eQ (dA ..) hl) fun i x y K h1 hx hy h=>by
  repeat' (first|exact h|refine yi _ hx ?_|refine yi _ hy ?_|refine yv Fp (afl x y (by have:=gk (f:=aa.al) h1;omega)) ?_|refine yo ?_|apply zn)
theorem arL (a b:aC) (hl:a.al<=1048576):Me [.st (a.cs .n),.st (b.cs .n)]=some ⟨[.one (.b (decide (a=b)))],[]⟩:=by
 simp only[aC.al]at hl
 (refine aP rfl ?_;show Ev ab7.code _ _ _)
 repeat' (first|refine yv Fp (afl a.bg b.bg (by omega)) ?_|refine ak ?_|refine ai ?_|refine yt ?_ ?_|refine yo ?_|apply zn|refine yc ?_|intro _)
 all_goals (refine fin rfl ?_;simp only[Out.mk.injEq,fq,RV.one.injEq,T.b.injEq,and_true])
 all_goals (rcases a with⟨a0,a1⟩;rcases b with⟨b0,b1⟩;simp only[aC.mk.injEq]at*;simp_all)
theorem arM (a b:List aC) (hl:aS aC.al a<=1048576):Mf [.x (aC.ls .n a),.x (aC.ls .n b)]=some ⟨[.one (.b (decide (a=b)))],[]⟩:=
 BZ a b (eQ (dA ..) hl) fun i x y K h1 hx hy h=>by
  repeat' (first|exact h|refine yi _ hx ?_|refine yi _ hy ?_|refine yv Qo (arL x y (by have:=gk (f:=aC.al) h1;omega)) ?_|refine yo ?_|apply zn)
theorem arN (a b:au) (hl:a.al<=1048576):Mg [.st (a.cs .n),.st (b.cs .n)]=some ⟨[.one (.b (decide (a=b)))],[]⟩:=by
 simp only[au.al]at hl
 (refine aP rfl ?_;show Ev ab8.code _ _ _)
 repeat' (first|refine yv Fq (afm a.bV b.bV (by omega)) ?_|refine ak ?_|refine ai ?_|refine yt ?_ ?_|refine yo ?_|apply zn|refine yc ?_|intro _)
 all_goals (refine fin rfl ?_;simp only[Out.mk.injEq,fq,RV.one.injEq,T.b.injEq,and_true])
 all_goals (rcases a with⟨a0⟩;rcases b with⟨b0⟩;simp only[au.mk.injEq]at*;simp_all)
theorem arO (a b:List au) (hl:aS au.al a<=1048576):Mh [.x (au.ls .n a),.x (au.ls .n b)]=some ⟨[.one (.b (decide (a=b)))],[]⟩:=
 BZ a b (eQ (dA ..) hl) fun i x y K h1 hx hy h=>by
  repeat' (first|exact h|refine yi _ hx ?_|refine yi _ hy ?_|refine yv Qq (arN x y (by have:=gk (f:=au.al) h1;omega)) ?_|refine yo ?_|apply zn)
theorem arP (a b:List (List au)) (hl:aS (aS au.al) a<=1048576):Mi [.x (au.lss .n a),.x (au.lss .n b)]=some ⟨[.one (.b (decide (a=b)))],[]⟩:=by
 have dp:=dA (aS au.al) a
 (refine aP rfl ?_;show Ev ab9.code _ _ _)
 repeat' (first|refine ak ?_|refine ai ?_|refine yt ?_ ?_|refine yo ?_|apply zn|refine yc ?_|intro _)
 ·refine fin rfl ?_;rename_i h;have h2:a≠b:=Cf h;simp[h2]
 ·have hlen:a.length=b.length:=by rename_i h;exact B1 h
  show Ev _ _ _ _;refine jS (fun i (_:Unit)=>[(0,.x (au.lss .n a)),(1,.x (au.lss .n b)),(5,.x (iT i))]) (fun i _=>a.take i=b.take i) a.length () (by simp) rfl ?_;intro i _ nF hinv ih;rcases js i a.length with aF|fL
  ·have hx:=bF aF;have hy:=bF (show i<b.length by omega);generalize a[i]=x at hx;generalize b[i]'(by omega)=y at hy;have hc:decide ((i:Int)<(a.map (au.ls .n)).length)=true:=by simpa using aF
   repeat' (first|refine yi ((au.ls .n) x) (bH hx) ?_|refine yi ((au.ls .n) y) (bH hy) ?_|refine yv Qr (arO x y (by have:=gk (f:=(aS au.al)) hx;omega)) ?_|refine ak ?_|refine ai ?_|refine yt ?_ ?_|refine yo ?_|apply zn|refine yc ?_|intro _)
   ·refine fin rfl ?_;rename_i h;have h2:a≠b:=Ce hx hy (by simpa using h);simp[h2]
   ·rename_i h;have oR:x=y:=by simpa using h
    refine ih () aF (B3 hinv hx (oR▸hy)) _ _ ?_;rw[<-bU (by omega)];rfl
  ·have hc:decide ((i:Int)<(a.map (au.ls .n)).length)=false:=by simpa using fL
   repeat' (first|refine ak ?_|refine ai ?_|refine yt ?_ ?_|refine yo ?_|apply zn|refine yc ?_|intro _)
   refine fin rfl ?_;simp[B0 hinv hlen fL]
theorem arQ (a b:aD) (hl:a.al<=1048576):Mj [.st (a.cs .n),.st (b.cs .n)]=some ⟨[.one (.b (decide (a=b)))],[]⟩:=by
 simp only[aD.al]at hl
 (refine aP rfl ?_;show Ev aca.code _ _ _)
 repeat' (first|refine yv Fo (afk a.bK b.bK (by omega)) ?_|refine ak ?_|refine ai ?_|refine yt ?_ ?_|refine yo ?_|apply zn|refine yc ?_|intro _)
 all_goals (refine fin rfl ?_;simp only[Out.mk.injEq,fq,RV.one.injEq,T.b.injEq,and_true])
 all_goals (rcases a with⟨a0,a1,a2,a3,a4⟩;rcases b with⟨b0,b1,b2,b3,b4⟩;simp only[aD.mk.injEq]at*;simp_all)
theorem arR (a b:List aD) (hl:aS aD.al a<=1048576):Mk [.x (aD.ls .n a),.x (aD.ls .n b)]=some ⟨[.one (.b (decide (a=b)))],[]⟩:=
 BZ a b (eQ (dA ..) hl) fun i x y K h1 hx hy h=>by
  repeat' (first|exact h|refine yi _ hx ?_|refine yi _ hy ?_|refine yv Qt (arQ x y (by have:=gk (f:=aD.al) h1;omega)) ?_|refine yo ?_|apply zn)
theorem arS (a b:aK) (hl:a.al<=1048576):Ml [.st (a.cs .n),.st (b.cs .n)]=some ⟨[.one (.b (decide (a=b)))],[]⟩:=by
 simp only[aK.al]at hl
 (refine aP rfl ?_;show Ev acb.code _ _ _)
 repeat' (first|refine yv sj (G9 a.Left b.Left (by omega)) ?_|refine ak ?_|refine ai ?_|refine yt ?_ ?_|refine yo ?_|apply zn|refine yc ?_|intro _)
 all_goals (refine fin rfl ?_;simp only[Out.mk.injEq,fq,RV.one.injEq,T.b.injEq,and_true])
 all_goals (rcases a with⟨a0,a1,a2⟩;rcases b with⟨b0,b1,b2⟩;simp only[aK.mk.injEq]at*;simp_all)
theorem arT (a b:List aK) (hl:aS aK.al a<=1048576):Mm [.x (aK.ls .n a),.x (aK.ls .n b)]=some ⟨[.one (.b (decide (a=b)))],[]⟩:=
 BZ a b (eQ (dA ..) hl) fun i x y K h1 hx hy h=>by
  repeat' (first|exact h|refine yi _ hx ?_|refine yi _ hy ?_|refine yv Qv (arS x y (by have:=gk (f:=aK.al) h1;omega)) ?_|refine yo ?_|apply zn)
theorem arU (a b:aA) (hl:a.al<=1048576):yD [.st (a.cs .n),.st (b.cs .n)]=some ⟨[.one (.b (decide (a=b)))],[]⟩:=by
 simp only[aA.al]at hl
 (refine aP rfl ?_;show Ev acd.code _ _ _)
 repeat' (first|refine yv Qk (arH a.aT b.aT (by omega)) ?_|refine yv Qu (arR a.bp b.bp (by omega)) ?_|refine yv Qs (arP a.Rows b.Rows (by omega)) ?_|refine yv Qw (arT a.cI b.cI (by omega)) ?_|refine yv Fq (afm a.aJ b.aJ (by omega)) ?_|refine yv Qp (arM a.bz b.bz (by omega)) ?_|refine ak ?_|refine ai ?_|refine yt ?_ ?_|refine yo ?_|apply zn|refine yc ?_|intro _)
 all_goals (refine fin rfl ?_;simp only[Out.mk.injEq,fq,RV.one.injEq,T.b.injEq,and_true])
 all_goals (rcases a with⟨a0,a1,a2,a3,a4,a5,a6,a7,a8⟩;rcases b with⟨b0,b1,b2,b3,b4,b5,b6,b7,b8⟩;simp only[aA.mk.injEq]at*;simp_all)
end Go.Wr

