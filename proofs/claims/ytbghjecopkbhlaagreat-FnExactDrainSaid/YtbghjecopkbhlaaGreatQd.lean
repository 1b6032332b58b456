/-
  What is proved: lemmas for the laws. No condition.
-/
import Derived.Test.YtbghjecopkbhlaaGreatQc
import Derived.Test.YtbghjecopkbhlaaGreatPb
import Derived.Test.YtbghjecopkbhlaaGreatTa
set_option linter.unusedVariables false
set_option linter.unusedSimpArgs false
namespace Go.Wr
set_option maxRecDepth 20000
theorem Zo6 {s:aD} (hl:s.al<=4000000):s.bK.length<=4194304:=by unfold aD.al at hl;omega
theorem Ui (s:List af) (hl:s.length<=4194304):Nb [.x (af.ls .n s)]=some ⟨[.one (iT (F9 s))],[]⟩:=by
 rcases Nat.eq_zero_or_pos s.length with h0|h0
 ·obtain rfl:=List.eq_nil_of_length_eq_zero h0;have h3:(((([]:List af).map (af.el .n)).length:Int)==0)=true:=rfl
  (refine aP rfl ?_;show Ev Tv.code _ _ _)
  repeat' (first|refine ak ?_|refine ai ?_|refine yt ?_ ?_|refine yo ?_|apply zn|refine yc ?_|intro _)
  exact fin rfl rfl
 ·have h2:(((s.map (af.el .n)).length:Int)==0)=false:=by
   have:((s.length:Int)==0)=false:=by rw[beq_eq_false_iff_ne];omega
   rwa [cL]
  have hb:=bF (show s.length-1<s.length by omega);generalize s[s.length-1]'_=b at hb;have hk:IntKind.i64.wrap (((s.map (af.el .n)).length:Int)-1)=((s.length-1:Nat):Int):=by rw[cL,dQ (by omega)];omega
  have kM:0<=IntKind.i64.wrap (((s.map (af.el .n)).length:Int)-1):=by rw[hk];omega
  have mX:(s.map (af.el .n))[(IntKind.i64.wrap (((s.map (af.el .n)).length:Int)-1)).toNat]?=some (af.el .n b):=by rw[hk];exact bH hb
  (refine aP rfl ?_;show Ev Tv.code _ _ _)
  repeat' (first|refine yj (af.el .n b) (kM) (mX) ?_|refine ak ?_|refine ai ?_|refine yt ?_ ?_|refine yo ?_|apply zn|refine yc ?_|intro _)
  refine fin rfl (mC ?_);rw[F9,List.getLast?_eq_getElem?,hb]
theorem arF (n lo hi:Int):Hr [.x (iT n),.x (iT lo),.x (iT hi)]=some ⟨[.one (iT (min (max n lo) hi))],[]⟩:=by
 (refine aP rfl ?_;show Ev abW.code _ _ _)
 repeat' (first|refine yo ?_|apply zn|refine yc ?_|intro _)
 refine fin rfl (mC ?_);show(if hi<(if lo>n then lo else n) then hi else(if lo>n then lo else n))=_;split<;>split<;>omega
theorem T5 (a b:Int):Bu [.x (iT a),.x (iT b)]=some ⟨[.one (iT (dF a b))],[]⟩:=by
 (refine aP rfl ?_;show Ev abX.code _ _ _)
 repeat' (first|refine yk Kc (arF _ _ _) ?_|refine yo ?_|apply zn|refine yc ?_|intro _)
 refine fin rfl (mC ?_);show(if(1000000000:Int)<IntKind.i64.wrap (min (max a 0) 1000000000+min (max b 0) 1000000000) then(1000000000:Int) else IntKind.i64.wrap (min (max a 0) 1000000000+min (max b 0) 1000000000))=_;rw[dQ (by omega),dF];split<;>omega
theorem asI (n m:Int):HN [.x (iT n),.x (iT m)]=some ⟨[.one (iT (max 0 (min n m)))],[]⟩:=by
 (refine aP rfl ?_;show Ev adn.code _ _ _)
 repeat' (first|refine yk ko (qG _ _) ?_|refine yk ri (Hd _ _) ?_|refine yo ?_|apply zn|refine yc ?_|intro _)
 exact fin rfl rfl
theorem afD (a b:Int):DW [.x (iT a),.x (iT b)]=some ⟨[.one (iT (dF a b))],[]⟩:=by
 (refine aP rfl ?_;show Ev ado.code _ _ _)
 repeat' (first|refine yk Kf (asI _ _) ?_|refine yk ko (qG _ _) ?_|refine yo ?_|apply zn|refine yc ?_|intro _)
 refine fin rfl (mC ?_);rw[dQ (by omega),dF]
theorem YJ {x:bm} (h:x.al<=4194304):x.ca.length<=4194304/\x.bX.length<=4194304/\x.Rows.length<=4194304/\∀(i:Nat) r,x.Rows[i]?=some r->r.length<=4194304:=by
 have h1:=dA List.length x.Rows;unfold bm.al at h;refine⟨by omega,by omega,by omega,fun i r hr=>?_⟩;have:=gk (f:=List.length) hr;omega
theorem afj (x:bm) (hl:x.al<=4194304):Ht [.st (x.cs .n)]=some ⟨[.st (x.cs .y)],[]⟩:=by
 obtain⟨h1,h2,h3,h4⟩:=YJ hl
 (refine aP rfl ?_;show Ev abY.code _ _ _)
 repeat' (first|refine yk qn (DA x.ca h1) ?_|refine yk qn (DA x.bX h2) ?_|refine ak ?_|refine ai ?_|refine yt ?_ ?_|refine yo ?_|apply zn|refine yc ?_|intro _)
 refine cF (ints .n) x.Rows (fun i (es:List T)=>[(1,.box ⟨0,0,0⟩ (x.cs .n)),(2,.box ⟨0,0,0⟩ [iT 0,iT 0,iT 0,iT 0,.l .y 1 [],.l .y 1 [],.l .y 1 []]),(3,.box ⟨0,0,0⟩ [iT x.Count,iT x.Sum,iT x.Min,iT x.Max,ints .y x.ca,ints .y x.bX,.l .y 1 es]),(17,.x (kg.lss .n x.Rows)),(18,.x (iT (x.Rows.map (ints .n)).length)),(19,.x (iT i))]) (fun i es=>es=(x.Rows.take i).map (ints .y)) [] rfl rfl ?_ ?_
 ·rintro i es r hx aF hc _ hinv ih;have iD:=h4 i r hx;have dJ:es.length+1<cQ:=by
   rw[hinv,cL,fU];unfold cQ;omega
  repeat' (first|refine yi (ints .n r) (bH hx) ?_|refine yk qn (DA r iD) ?_|(apply zV;(iterate 8 exact rfl);exact(dJ);exact(rfl);exact(dJ);exact rfl;exact rfl)|refine ak ?_|refine ai ?_|refine yt ?_ ?_|refine yo ?_|apply zn|refine yc ?_|intro _)
  refine ih (es++[ints .y r]) ?_ _ _ ?_
  ·rw[hinv,km hx]
  ·rw[bU (by omega)];rfl
 ·rintro es hc _ hinv;rw[eD]at hinv;subst hinv
  repeat' (first|refine ak ?_|refine ai ?_|refine yt ?_ ?_|refine yo ?_|apply zn|refine yc ?_|intro _)
  refine fin rfl ?_
  try simp only[bN]
  try rfl
theorem T6 (e:aa) (hl:e.al<=4194304):DO [.st (e.cs .n)]=some ⟨[.st (e.cs .y)],[]⟩:=by
 have h1:e.aH.length<=4194304:=by unfold aa.al at hl;omega
 have h2:e.aN.al<=4194304:=by unfold aa.al at hl;omega
 (refine aP rfl ?_;show Ev ab0.code _ _ _)
 repeat' (first|refine yk vj (LP e.aH h1) ?_|refine yk Fm (afj e.aN h2) ?_|refine yo ?_|apply zn|refine yc ?_|intro _)
 refine fin rfl ?_
 try simp only[bN]
 try rfl
theorem ZS {f:Int->Int->Int}{a b:List Int}{i:Nat}{x y:Int} (hx:a[i]?=some x) (hy:b[i]?=some y):(List.zipWith f a b)[i]?=some (f x y):=by
 rw[List.getElem?_zipWith,hx,hy]
theorem Ue (a b:List Int) (hl:a.length<=4194304) (hb:a.length<=b.length):DX [.x (ints .n a),.x (ints .n b)]=some ⟨[.one (ints .y (List.zipWith dF a b))],[]⟩:=by
 (refine aP rfl ?_;show Ev adp.code _ _ _)
 repeat' (first|refine ak ?_|refine ai ?_|refine yt ?_ ?_|refine yo ?_|apply zn|refine yc ?_|intro _)
 refine cF iT a (fun i (es:List T)=>[(0,.x (ints .n a)),(1,.x (ints .n b)),(5,.own ⟨0,0,0⟩ (.l .y 1 es)),(6,.x (iT i))]) (fun i es=>es=((List.zipWith dF a b).take i).map iT) [] rfl rfl ?_ ?_
 ·rintro i es x hx aF hc _ hinv ih;have hy:=bF (show i<b.length by omega);generalize b[i]'(by omega)=y at hy;have dJ:es.length+[iT (dF x y)].length<cQ:=by
   show es.length+1<cQ;rw[hinv,cL,fU];unfold cQ;omega
  repeat' (first|refine yi (iT x) (bH hx) ?_|refine yi (iT y) (bH hy) ?_|refine yk CT (afD x y) ?_|(apply zv;(iterate 7 exact rfl);exact(dJ);exact(rfl);exact rfl;exact rfl)|refine ak ?_|refine ai ?_|refine yt ?_ ?_|refine yo ?_|apply zn|refine yc ?_|intro _)
  refine ih (es++[iT (dF x y)]) ?_ _ _ ?_
  ·rw[hinv,km (ZS hx hy)]
  ·rw[bU (by omega)];rfl
 ·rintro es hc _ hinv;rw[p8 (by rw[List.length_zipWith];omega)]at hinv;subst hinv
  repeat' (first|refine ak ?_|refine ai ?_|refine yt ?_ ?_|refine yo ?_|apply zn|refine yc ?_|intro _)
  exact fin rfl (by simp only[bN])
set_option maxHeartbeats 2000000 in
theorem asJ (a b:bm) (ha:sY a) (hb:sY b):M8 [.st (a.cs .n),.st (b.cs .n)]=some ⟨[.st ((gR a b).cs .y)],[]⟩:=by
 obtain⟨ac,az,an,ax,ah,ar,aw⟩:=a;obtain⟨bc,bs,bn,bx,bh,br,bw⟩:=b;obtain⟨_,_,_,_,⟨ha5,_⟩,⟨ha6,_⟩,ha7,ha8⟩:=ha;obtain⟨_,_,_,_,⟨C7,_⟩,⟨hb6,_⟩,hb7,hb8⟩:=hb;simp only at*
 match aw,bw,ha7,hb7 with
 |[p,q],[p',q'],_,_=>
 have hp:=(ha8 p (by simp)).1;have hq:=(ha8 q (by simp)).1;have hp':=(hb8 p' (by simp)).1;have hq':=(hb8 q' (by simp)).1;have k0:([p,q].map (ints .n))[(0:Int).toNat]?=some (ints .n p):=rfl;have k1:([p,q].map (ints .n))[(1:Int).toNat]?=some (ints .n q):=rfl;have k0':([p',q'].map (ints .n))[(0:Int).toNat]?=some (ints .n p'):=rfl;have k1':([p',q'].map (ints .n))[(1:Int).toNat]?=some (ints .n q'):=rfl
 (refine aP rfl ?_;show Ev adq.code _ _ _)
 repeat' (first|refine yk CT (afD _ _) ?_|refine yk ko (qG _ _) ?_|refine yk ri (Hd _ _) ?_|(apply zi (ints .n p);exact rfl;exact rfl;exact(by decide);exact(k0);exact rfl;exact rfl)|(apply zi (ints .n q);exact rfl;exact rfl;exact(by decide);exact(k1);exact rfl;exact rfl)|(apply zi (ints .n p');exact rfl;exact rfl;exact(by decide);exact(k0');exact rfl;exact rfl)|(apply zi (ints .n q');exact rfl;exact rfl;exact(by decide);exact(k1');exact rfl;exact rfl)|refine yk Aa (Ue ah bh (by omega) (by omega)) ?_|refine yk Aa (Ue p p' (by omega) (by omega)) ?_|refine yk Aa (Ue q q' (by omega) (by omega)) ?_|refine ak ?_|refine ai ?_|refine yt ?_ ?_|refine yo ?_|apply zn|refine yc ?_|intro _)
 all_goals
  rename_i h1 h2;simp only[beq_iff_eq,beq_eq_false_iff_ne,ne_eq]at h1 h2;refine cF iT ar (fun i (es:List T)=>[(2,.box ⟨0,0,0⟩ ((⟨ac,az,an,ax,ah,ar,[p,q]⟩:bm).cs .n)),(3,.box ⟨0,0,0⟩ ((⟨bc,bs,bn,bx,bh,br,[p',q']⟩:bm).cs .n)),(4,.box ⟨0,0,0⟩ [iT 0,iT 0,iT 0,iT 0,.l .y 1 [],.l .y 1 [],.l .y 1 []]),(5,.box ⟨0,0,0⟩ [iT (dF ac bc),iT (dF az bs),iT (if bc=0 then an else if ac=0 then bn else min an bn),iT (max ax bx),ints .y (List.zipWith dF ah bh),.l .y 1 es,.l .y 1 [ints .y (List.zipWith dF p p'),ints .y (List.zipWith dF q q')]]),(6,.x (iT i))]) (fun i es=>es=((List.zipWith max ar br).take i).map iT) [] rfl (by first|(rw[if_pos h2];rfl)|(rw[if_neg h2,if_pos h1];rfl)|(rw[if_neg h2,if_neg h1];rfl)) ?_ ?_
  ·rintro i es x hx aF _ _ hinv ih;have hc:decide ((i:Int)<8)=true:=by simp;omega
   have hy:=bF (show i<br.length by omega);generalize br[i]'(by omega)=y at hy;have dJ:es.length+[iT (max x y)].length<cQ:=by
    show es.length+1<cQ;rw[hinv,cL,fU];unfold cQ;omega
   repeat' (first|refine yi (iT x) (bH hx) ?_|refine yi (iT y) (bH hy) ?_|refine yk ri (Hd x y) ?_|(apply zv;(iterate 7 exact rfl);exact(dJ);exact(rfl);exact rfl;exact rfl)|refine ak ?_|refine ai ?_|refine yt ?_ ?_|refine yo ?_|apply zn|refine yc ?_|intro _)
   refine ih (es++[iT (max x y)]) ?_ _ _ ?_
   ·rw[hinv,km (ZS hx hy)]
   ·rw[bU (by omega)];rfl
  ·rintro es _ _ hinv;have hc:decide ((ar.length:Int)<8)=false:=by rw[ha6];rfl
   rw[p8 (by rw[List.length_zipWith];omega)]at hinv;subst hinv
   repeat' (first|refine ak ?_|refine ai ?_|refine yt ?_ ?_|refine yo ?_|apply zn|refine yc ?_|intro _)
   refine fin rfl ?_
   try simp only[bN]
   try rfl
theorem apv (a b:Int):(if b<a then b else a)=min a b:=by rw[Int.min_def];split<;>split<;>omega
theorem Uh (s:aD) (hl:s.al<=4000000):BA [.st (s.cs .n)]=some ⟨[.st (s.cs .y)],[]⟩:=by
 have dy:s.bK.length<=4194304:=by simp only[aD.al]at hl;omega
 (refine aP rfl ?_;show Ev adw.code _ _ _)
 repeat' (first|refine yk vj (LP s.bK dy) ?_|refine yo ?_|apply zn|refine yc ?_|intro _)
 refine fin rfl ?_;simp only[bN];rfl
theorem Uj (s:aD) (hl:s.al<=4000000):BE [.st (s.cs .n)]=some ⟨[.st (s.cs .y)],[]⟩:=by
 have dy:s.bK.length<=4194304:=by simp only[aD.al]at hl;omega
 (refine aP rfl ?_;show Ev adM.code _ _ _)
 repeat' (first|refine yk zX (Ub s.bK dy) ?_|refine yo ?_|apply zn|refine yc ?_|intro _)
 refine fin rfl ?_;simp only[bN];rfl
theorem atd (s:aD) (dI:Int) (hl:s.al<=4000000):NK [.st (s.cs .n),.x (iT dI)]=some ⟨[.st ((wi s dI).cs .y)],[]⟩:=by
 (refine aP rfl ?_;show Ev ad6.code _ _ _)
 repeat' (first|refine yk xw (Uh s hl) ?_|refine yk vl (LU s dI hl) ?_|refine ak ?_|refine ai ?_|refine yt ?_ ?_|refine yo ?_|apply zn|refine yc ?_|intro _)
 ·refine fin rfl ?_;rename_i h;simp only[bN];rw[wi,if_pos h,<-apv];rfl
 ·refine fin rfl ?_;rename_i h;simp only[bN];rw[wi,if_neg (by simpa using h)];rfl
theorem ath (s:aD) (dI:Int) (hl:s.al<=4000000):NM [.st (s.cs .n),.x (iT dI)]=some ⟨[.st ((wi s dI).cs .y)],[]⟩:=by
 (refine aP rfl ?_;show Ev ad8.code _ _ _)
 repeat' (first|refine yk xx (Uj s hl) ?_|refine yk vf (LK s dI hl) ?_|refine yk ko (qG _ _) ?_|refine ak ?_|refine ai ?_|refine yt ?_ ?_|refine yo ?_|apply zn|refine yc ?_|intro _)
 ·refine fin rfl ?_;rename_i h;simp only[bN];rw[wi,if_pos h];rfl
 ·refine fin rfl ?_;rename_i h;simp only[bN];rw[wi,if_neg (by simpa using h)];rfl
theorem asL (c:bR) (hl:c.dX.length<=4194304):M9 [.st (c.cs .n)]=some ⟨[.st (c.cs .y)],[]⟩:=by
 (refine aP rfl ?_;show Ev ads.code _ _ _)
 repeat' (first|refine yk qn (DA c.dX hl) ?_|refine yo ?_|apply zn|refine yc ?_|intro _)
 refine fin rfl ?_;simp only[bN];rfl
theorem asW (c:bR) (hl:c.dX.length<=4194304):Nl [.st (c.cs .n)]=some ⟨[.st (c.cs .y)],[]⟩:=by
 (refine aP rfl ?_;show Ev adL.code _ _ _)
 repeat' (first|(apply za;(iterate 3 exact rfl);exact(uH hl);exact(rV (fun _=>rfl) _);exact rfl;exact rfl)|refine yo ?_|apply zn|refine yc ?_|intro _)
 refine fin rfl ?_;simp only[bN];rfl
theorem zK:4000000<=4194304:=qM rfl
theorem uN {α:Type}{f:α->Nat}{l:List α}{i n:Nat}{x:α} (hl:aS f l<=n) (h:l[i]?=some x):f x<=n:=eQ (gk h) hl
theorem p9 {α:Type}{f:α->T}{g:α->Nat}{l:List α}{i:Nat}{es:List T} (hl:aS g l<=4000000) (h:es=(l.take i).map f):es.length+1<cQ:=by
 have:=dA g l;rw[h,cL,fU];unfold cQ;omega
theorem Ug (l:List aa) (hl:aS aa.al l<=4000000):DZ [.x (aa.ls .n l)]=some ⟨[.one (aa.ls .y l)],[]⟩:=by
 (refine aP rfl ?_;show Ev adt.code _ _ _)
 repeat' (first|refine ak ?_|refine ai ?_|refine yt ?_ ?_|refine yo ?_|apply zn|refine yc ?_|intro _)
 refine cF (aa.el .n) l (fun i (es:List T)=>[(3,.own ⟨0,0,0⟩ (.l .y 10 es)),(6,.x (aa.ls .n l)),(7,.x (iT (l.map (aa.el .n)).length)),(8,.x (iT i))]) (fun i es=>es=(l.take i).map (aa.el .y)) [] rfl rfl ?_ ?_
 ·rintro i es x hx aF hc _ hinv ih;have hb:=uN hl hx;have dt:=eQ hb zK;have n1:=dA aa.al l;have dJ:=p9 hl hinv
  repeat' (first|refine yi (aa.el .n x) (bH hx) ?_|refine yk xu (T6 x dt) ?_|(apply zV;(iterate 8 exact rfl);exact(dJ);exact(rfl);exact(dJ);exact rfl;exact rfl)|refine ak ?_|refine ai ?_|refine yt ?_ ?_|refine yo ?_|apply zn|refine yc ?_|intro _)
  refine ih (es++[aa.el .y x]) ?_ _ _ ?_
  ·rw[hinv,km hx]
  ·rw[bU (by omega)]
   first|rfl|(simp only[oq];rfl)|(simp only[bN];rfl)
 ·rintro es hc _ hinv;rw[eD]at hinv;subst hinv
  repeat' (first|refine ak ?_|refine ai ?_|refine yt ?_ ?_|refine yo ?_|apply zn|refine yc ?_|intro _)
  refine fin rfl ?_
  try simp only[bN]
  try rfl
theorem asM (l:List aC) (hl:aS aC.al l<=4000000):Na [.x (aC.ls .n l)]=some ⟨[.one (aC.ls .y l)],[]⟩:=by
 (refine aP rfl ?_;show Ev adu.code _ _ _)
 repeat' (first|refine ak ?_|refine ai ?_|refine yt ?_ ?_|refine yo ?_|apply zn|refine yc ?_|intro _)
 refine cF (aC.el .n) l (fun i (es:List T)=>[(3,.own ⟨0,0,0⟩ (.l .y 11 es)),(6,.x (aC.ls .n l)),(7,.x (iT (l.map (aC.el .n)).length)),(8,.x (iT i))]) (fun i es=>es=(l.take i).map (aC.el .y)) [] rfl rfl ?_ ?_
 ·rintro i es x hx aF hc _ hinv ih;have hb:=uN hl hx;have dt:=eQ hb zK;have n1:=dA aC.al l;have dJ:=p9 hl hinv
  repeat' (first|refine yi (aC.el .n x) (bH hx) ?_|refine yk xu (T6 x.bg dt) ?_|(apply zV;(iterate 8 exact rfl);exact(dJ);exact(rfl);exact(dJ);exact rfl;exact rfl)|refine ak ?_|refine ai ?_|refine yt ?_ ?_|refine yo ?_|apply zn|refine yc ?_|intro _)
  refine ih (es++[aC.el .y x]) ?_ _ _ ?_
  ·rw[hinv,km hx]
  ·rw[bU (by omega)]
   first|rfl|(simp only[oq];rfl)|(simp only[bN];rfl)
 ·rintro es hc _ hinv;rw[eD]at hinv;subst hinv
  repeat' (first|refine ak ?_|refine ai ?_|refine yt ?_ ?_|refine yo ?_|apply zn|refine yc ?_|intro _)
  refine fin rfl ?_
  try simp only[bN]
  try rfl
theorem afE (r:au) (hl:r.al<=4000000):HO [.st (r.cs .n)]=some ⟨[.st (r.cs .y)],[]⟩:=by
 (refine aP rfl ?_;show Ev adv.code _ _ _)
 repeat' (first|refine yk vg (Ug r.bV hl) ?_|refine yo ?_|apply zn|refine yc ?_|intro _)
 refine fin rfl ?_
 try simp only[bN]
 try rfl
theorem afF (t:aK) (hl:t.al<=4000000):HP [.st (t.cs .n)]=some ⟨[.st (t.cs .y)],[]⟩:=by
 (refine aP rfl ?_;show Ev adx.code _ _ _)
 repeat' (first|refine yk qn (DA t.Left (eQ hl zK)) ?_|refine yo ?_|apply zn|refine yc ?_|intro _)
 refine fin rfl ?_
 try simp only[bN]
 try rfl
theorem IP {h:aA} (hl:h.al<=4000000):aS aD.al h.bp<=4000000/\aS (aS au.al) h.Rows<=4000000/\aS aK.al h.cI<=4000000/\aS aa.al h.aJ<=4000000/\aS aC.al h.bz<=4000000:=by
 unfold aA.al at hl;omega
set_option maxHeartbeats 1000000 in
theorem Hf (h:aA) (hl:h.al<=4000000):BC [.st (h.cs .n)]=some ⟨[.st (h.cs .y)],[]⟩:=by
 obtain⟨eN,dt,lQ,Am,C7⟩:=IP hl;have n1:=dA aD.al h.bp;have n2:=dA (aS au.al) h.Rows;have n3:=dA aK.al h.cI
 (refine aP rfl ?_;show Ev ady.code _ _ _)
 repeat' (first|refine yk Rg (asL h.aT (Is hl)) ?_|refine yk vg (Ug h.aJ Am) ?_|refine yk Rh (asM h.bz C7) ?_|refine ak ?_|refine ai ?_|refine yt ?_ ?_|refine yo ?_|apply zn|refine yc ?_|intro _)
 refine cF (aD.el .n) h.bp (fun i (es:List T)=>[(1,.box ⟨0,0,0⟩ (h.cs .n)),(2,.box ⟨0,0,0⟩ (aA.zero.cs .y)),(3,.box ⟨0,0,0⟩ [iT h.aT.fm,iT h.aT.kx,iT h.aT.iV,ints .y h.aT.dX,iT h.aT.mK,iT h.aT.mL,iT h.aT.mJ,iT h.aT.Still,iT h.kR,.b h.gT,.l .y 5 es,.l .y 1 [],.l .y 3 [],iT h.fT,aa.ls .y h.aJ,aC.ls .y h.bz]),(30,.x (aD.ls .n h.bp)),(31,.x (iT (h.bp.map (aD.el .n)).length)),(32,.x (iT i))]) (fun i es=>es=(h.bp.take i).map (aD.el .y)) [] rfl ?_ ?_ ?_
 ·simp only[bN];rfl
 ·rintro i es x hx aF hc _ hinv ih;have dJ:=p9 eN hinv;have hb:=zB hl hx
  repeat' (first|refine yi (aD.el .n x) (bH hx) ?_|refine yk xw (Uh x hb) ?_|(apply zV;(iterate 8 exact rfl);exact(dJ);exact(rfl);exact(dJ);exact rfl;exact rfl)|refine ak ?_|refine ai ?_|refine yt ?_ ?_|refine yo ?_|apply zn|refine yc ?_|intro _)
  refine ih (es++[aD.el .y x]) ?_ _ _ ?_
  ·rw[hinv,km hx]
  ·rw[bU (by omega)]
   first|rfl|(simp only[oq];rfl)|(simp only[bN];rfl)
 rintro es hc _ hinv;rw[eD]at hinv;subst hinv
 repeat' (first|refine ak ?_|refine ai ?_|refine yt ?_ ?_|refine yo ?_|apply zn|refine yc ?_|intro _)
 refine cF (fun l=>au.ls .n l) h.Rows (fun i (es:List T)=>[(1,.box ⟨0,0,0⟩ (h.cs .n)),(2,.box ⟨0,0,0⟩ (aA.zero.cs .y)),(3,.box ⟨0,0,0⟩ [iT h.aT.fm,iT h.aT.kx,iT h.aT.iV,ints .y h.aT.dX,iT h.aT.mK,iT h.aT.mL,iT h.aT.mJ,iT h.aT.Still,iT h.kR,.b h.gT,aD.ls .y h.bp,.l .y 1 es,.l .y 3 [],iT h.fT,aa.ls .y h.aJ,aC.ls .y h.bz]),(45,.x (au.lss .n h.Rows)),(46,.x (iT (h.Rows.map (fun l=>au.ls .n l)).length)),(47,.x (iT i))]) (fun i es=>es=(h.Rows.take i).map (fun l=>au.ls .y l)) [] rfl rfl ?_ ?_
 ·rintro i es rs hx aF hc _ hinv ih;have dJ:=p9 dt hinv;have dY:=uN dt hx;have n4:=dA au.al rs
  repeat' (first|refine yi (au.ls .n rs) (bH hx) ?_|refine ak ?_|refine ai ?_|refine yt ?_ ?_|refine yo ?_|apply zn|refine yc ?_|intro _)
  refine cF (au.el .n) rs (fun j (fs:List T)=>[(1,.box ⟨0,0,0⟩ (h.cs .n)),(2,.box ⟨0,0,0⟩ (aA.zero.cs .y)),(3,.box ⟨0,0,0⟩ [iT h.aT.fm,iT h.aT.kx,iT h.aT.iV,ints .y h.aT.dX,iT h.aT.mK,iT h.aT.mL,iT h.aT.mJ,iT h.aT.Still,iT h.kR,.b h.gT,aD.ls .y h.bp,.l .y 1 es,.l .y 3 [],iT h.fT,aa.ls .y h.aJ,aC.ls .y h.bz]),(7,.x (au.ls .n rs)),(8,.own ⟨0,0,0⟩ (.l .y 1 fs)),(45,.x (au.lss .n h.Rows)),(46,.x (iT (h.Rows.map (fun l=>au.ls .n l)).length)),(47,.x (iT i)),(51,.x (au.ls .n rs)),(52,.x (iT (rs.map (au.el .n)).length)),(53,.x (iT j))]) (fun j fs=>fs=(rs.take j).map (au.el .y)) [] rfl rfl ?_ ?_
  ·rintro j fs x hy kN dx _ cG fZ;have vw:=p9 dY cG;have hb:=uN dY hy
   repeat' (first|refine yi (au.el .n x) (bH hy) ?_|refine yk Ri (afE x hb) ?_|(apply zV;(iterate 8 exact rfl);exact(vw);exact(rfl);exact(vw);exact rfl;exact rfl)|refine ak ?_|refine ai ?_|refine yt ?_ ?_|refine yo ?_|apply zn|refine yc ?_|intro _)
   refine fZ (fs++[au.el .y x]) ?_ _ _ ?_
   ·rw[cG,km hy]
   ·rw[bU (by omega)]
    first|rfl|(simp only[oq];rfl)|(simp only[bN];rfl)
  ·rintro fs dx _ cG;rw[eD]at cG;subst cG
   repeat' (first|(apply zV;(iterate 8 exact rfl);exact(dJ);exact(rfl);exact(dJ);exact rfl;exact rfl)|refine ak ?_|refine ai ?_|refine yt ?_ ?_|refine yo ?_|apply zn|refine yc ?_|intro _)
   refine ih (es++[au.ls .y rs]) ?_ _ _ ?_
   ·rw[hinv,km hx]
   ·rw[bU (by omega)]
    first|rfl|(simp only[oq];rfl)|(simp only[bN];rfl)
 rintro es hc _ hinv;rw[eD]at hinv;subst hinv
 repeat' (first|refine ak ?_|refine ai ?_|refine yt ?_ ?_|refine yo ?_|apply zn|refine yc ?_|intro _)
 refine cF (aK.el .n) h.cI (fun i (es:List T)=>[(1,.box ⟨0,0,0⟩ (h.cs .n)),(2,.box ⟨0,0,0⟩ (aA.zero.cs .y)),(3,.box ⟨0,0,0⟩ [iT h.aT.fm,iT h.aT.kx,iT h.aT.iV,ints .y h.aT.dX,iT h.aT.mK,iT h.aT.mL,iT h.aT.mJ,iT h.aT.Still,iT h.kR,.b h.gT,aD.ls .y h.bp,au.lss .y h.Rows,.l .y 3 es,iT h.fT,aa.ls .y h.aJ,aC.ls .y h.bz]),(71,.x (aK.ls .n h.cI)),(72,.x (iT (h.cI.map (aK.el .n)).length)),(73,.x (iT i))]) (fun i es=>es=(h.cI.take i).map (aK.el .y)) [] rfl rfl ?_ ?_
 ·rintro i es x hx aF hc _ hinv ih;have dJ:=p9 lQ hinv;have hb:=JP hl hx
  repeat' (first|refine yi (aK.el .n x) (bH hx) ?_|refine yk FL (afF x hb) ?_|(apply zV;(iterate 8 exact rfl);exact(dJ);exact(rfl);exact(dJ);exact rfl;exact rfl)|refine ak ?_|refine ai ?_|refine yt ?_ ?_|refine yo ?_|apply zn|refine yc ?_|intro _)
  refine ih (es++[aK.el .y x]) ?_ _ _ ?_
  ·rw[hinv,km hx]
  ·rw[bU (by omega)]
   first|rfl|(simp only[oq];rfl)|(simp only[bN];rfl)
 rintro es hc _ hinv;rw[eD]at hinv;subst hinv
 repeat' (first|refine ak ?_|refine ai ?_|refine yt ?_ ?_|refine yo ?_|apply zn|refine yc ?_|intro _)
 refine fin rfl ?_
 try simp only[bN]
 try rfl
theorem asV (x:bm) (hl:x.al<=4194304):Nk [.st (x.cs .n)]=some ⟨[.st (x.cs .y)],[]⟩:=by
 obtain⟨h1,h2,h3,h4⟩:=YJ hl
 (refine aP rfl ?_;show Ev adH.code _ _ _)
 repeat' (first|(apply za;(iterate 3 exact rfl);exact(uH h1);exact(rV (fun _=>rfl) _);exact rfl;exact rfl)|(apply za;(iterate 3 exact rfl);exact(uH h2);exact(rV (fun _=>rfl) _);exact rfl;exact rfl)|refine ak ?_|refine ai ?_|refine yt ?_ ?_|refine yo ?_|apply zn|refine yc ?_|intro _)
 refine cF (ints .n) x.Rows (fun i (es:List T)=>[(1,.box ⟨0,0,0⟩ (x.cs .n)),(2,.box ⟨0,0,0⟩ [iT 0,iT 0,iT 0,iT 0,.l .y 1 [],.l .y 1 [],.l .y 1 []]),(3,.box ⟨0,0,0⟩ [iT x.Count,iT x.Sum,iT x.Min,iT x.Max,ints .y x.ca,ints .y x.bX,.l .y 1 es]),(4,.x (iT i))]) (fun i es=>es=(x.Rows.take i).map (ints .y)) [] rfl rfl ?_ ?_
 ·rintro i es r hx aF hc _ hinv ih;have iD:=h4 i r hx;have dJ:es.length+1<cQ:=by
   rw[hinv,cL,fU];unfold cQ;omega
  repeat' (first|refine yi (ints .n r) (bH hx) ?_|(apply za;(iterate 3 exact rfl);exact(uH iD);exact(rV (fun _=>rfl) _);exact rfl;exact rfl)|(apply zV;(iterate 8 exact rfl);exact(dJ);exact(rfl);exact(dJ);exact rfl;exact rfl)|refine ak ?_|refine ai ?_|refine yt ?_ ?_|refine yo ?_|apply zn|refine yc ?_|intro _)
  refine ih (es++[ints .y r]) ?_ _ _ ?_
  ·rw[hinv,km hx]
  ·rw[bU (by omega)];rfl
 ·rintro es hc _ hinv;rw[eD]at hinv;subst hinv
  repeat' (first|refine ak ?_|refine ai ?_|refine yt ?_ ?_|refine yo ?_|apply zn|refine yc ?_|intro _)
  refine fin rfl ?_
  try simp only[bN]
  try rfl
theorem LM (e:aa) (hl:e.al<=4194304):BD [.st (e.cs .n)]=some ⟨[.st (e.cs .y)],[]⟩:=by
 have h1:e.aH.length<=4194304:=by unfold aa.al at hl;omega
 have h2:e.aN.al<=4194304:=by unfold aa.al at hl;omega
 (refine aP rfl ?_;show Ev adI.code _ _ _)
 repeat' (first|refine yk zX (Ub e.aH h1) ?_|refine yk Rp (asV e.aN h2) ?_|refine yo ?_|apply zn|refine yc ?_|intro _)
 refine fin rfl ?_
 try simp only[bN]
 try rfl
theorem afH (r:au) (hl:r.al<=4000000):HS [.st (r.cs .n)]=some ⟨[.st (r.cs .y)],[]⟩:=by
 have hl:aS aa.al r.bV<=4000000:=hl;have n1:=dA aa.al r.bV
 (refine aP rfl ?_;show Ev adJ.code _ _ _)
 repeat' (first|refine ak ?_|refine ai ?_|refine yt ?_ ?_|refine yo ?_|apply zn|refine yc ?_|intro _)
 refine cF (aa.el .n) r.bV (fun i (es:List T)=>[(1,.box ⟨0,0,0⟩ (r.cs .n)),(2,.box ⟨0,0,0⟩ [.l .y 10 []]),(3,.box ⟨0,0,0⟩ [.l .y 10 es]),(4,.x (iT i))]) (fun i es=>es=(r.bV.take i).map (aa.el .y)) [] rfl rfl ?_ ?_
 ·rintro i es x hx aF hc _ hinv ih;have dt:=eQ (uN hl hx) zK;have dJ:=p9 hl hinv
  repeat' (first|refine yi (aa.el .n x) (bH hx) ?_|refine yk vh (LM x dt) ?_|(apply zV;(iterate 8 exact rfl);exact(dJ);exact(rfl);exact(dJ);exact rfl;exact rfl)|refine ak ?_|refine ai ?_|refine yt ?_ ?_|refine yo ?_|apply zn|refine yc ?_|intro _)
  refine ih (es++[aa.el .y x]) ?_ _ _ ?_
  ·rw[hinv,km hx]
  ·rw[bU (by omega)]
   first|rfl|(simp only[oq];rfl)|(simp only[bN];rfl)
 ·rintro es hc _ hinv;rw[eD]at hinv;subst hinv
  repeat' (first|refine ak ?_|refine ai ?_|refine yt ?_ ?_|refine yo ?_|apply zn|refine yc ?_|intro _)
  refine fin rfl ?_
  try simp only[bN]
  try rfl
theorem afI (t:aK) (hl:t.al<=4000000):HT [.st (t.cs .n)]=some ⟨[.st (t.cs .y)],[]⟩:=by
 (refine aP rfl ?_;show Ev adK.code _ _ _)
 repeat' (first|(apply za;(iterate 3 exact rfl);exact(uH (eQ hl zK));exact(rV (fun _=>rfl) _);exact rfl;exact rfl)|refine yo ?_|apply zn|refine yc ?_|intro _)
 refine fin rfl ?_
 try simp only[bN]
 try rfl
set_option maxHeartbeats 1000000 in
theorem Dx (h:aA) (hl:h.al<=4000000):wy [.st (h.cs .n)]=some ⟨[.st (h.cs .y)],[]⟩:=by
 obtain⟨eN,dt,lQ,Am,C7⟩:=IP hl;have n1:=dA aD.al h.bp;have n2:=dA (aS au.al) h.Rows;have n3:=dA aK.al h.cI;have n4:=dA aa.al h.aJ;have n5:=dA aC.al h.bz
 (refine aP rfl ?_;show Ev adN.code _ _ _)
 repeat' (first|refine yk Rr (asW h.aT (Is hl)) ?_|refine ak ?_|refine ai ?_|refine yt ?_ ?_|refine yo ?_|apply zn|refine yc ?_|intro _)
 refine cF (aD.el .n) h.bp (fun i (es:List T)=>[(1,.box ⟨0,0,0⟩ (h.cs .n)),(2,.box ⟨0,0,0⟩ (aA.zero.cs .y)),(3,.box ⟨0,0,0⟩ [iT h.aT.fm,iT h.aT.kx,iT h.aT.iV,ints .y h.aT.dX,iT h.aT.mK,iT h.aT.mL,iT h.aT.mJ,iT h.aT.Still,iT h.kR,.b h.gT,.l .y 5 es,.l .y 1 [],.l .y 3 [],iT h.fT,.l .y 10 [],.l .y 11 []]),(4,.x (iT i))]) (fun i es=>es=(h.bp.take i).map (aD.el .y)) [] rfl ?_ ?_ ?_
 ·first|rfl|(simp only[bN];rfl)
 ·rintro i es x hx aF hc _ hinv ih;have dJ:=p9 eN hinv;have hb:=zB hl hx
  repeat' (first|refine yi (aD.el .n x) (bH hx) ?_|refine yk xx (Uj x hb) ?_|(apply zV;(iterate 8 exact rfl);exact(dJ);exact(rfl);exact(dJ);exact rfl;exact rfl)|refine ak ?_|refine ai ?_|refine yt ?_ ?_|refine yo ?_|apply zn|refine yc ?_|intro _)
  refine ih (es++[aD.el .y x]) ?_ _ _ ?_
  ·rw[hinv,km hx]
  ·rw[bU (by omega)]
   first|rfl|(simp only[oq];rfl)|(simp only[bN];rfl)
 rintro es hc _ hinv;rw[eD]at hinv;subst hinv
 repeat' (first|refine ak ?_|refine ai ?_|refine yt ?_ ?_|refine yo ?_|apply zn|refine yc ?_|intro _)
 refine cF (fun l=>au.ls .n l) h.Rows (fun i (es:List T)=>[(1,.box ⟨0,0,0⟩ (h.cs .n)),(2,.box ⟨0,0,0⟩ (aA.zero.cs .y)),(3,.box ⟨0,0,0⟩ [iT h.aT.fm,iT h.aT.kx,iT h.aT.iV,ints .y h.aT.dX,iT h.aT.mK,iT h.aT.mL,iT h.aT.mJ,iT h.aT.Still,iT h.kR,.b h.gT,aD.ls .y h.bp,.l .y 1 es,.l .y 3 [],iT h.fT,.l .y 10 [],.l .y 11 []]),(5,.x (iT i))]) (fun i es=>es=(h.Rows.take i).map (fun l=>au.ls .y l)) [] rfl rfl ?_ ?_
 ·rintro i es rs hx aF hc _ hinv ih;have dJ:=p9 dt hinv;have dY:=uN dt hx;have n6:=dA au.al rs
  repeat' (first|refine yi (au.ls .n rs) (bH hx) ?_|refine ak ?_|refine ai ?_|refine yt ?_ ?_|refine yo ?_|apply zn|refine yc ?_|intro _)
  refine jS (fun j (fs:List T)=>[(1,.box ⟨0,0,0⟩ (h.cs .n)),(2,.box ⟨0,0,0⟩ (aA.zero.cs .y)),(3,.box ⟨0,0,0⟩ [iT h.aT.fm,iT h.aT.kx,iT h.aT.iV,ints .y h.aT.dX,iT h.aT.mK,iT h.aT.mL,iT h.aT.mJ,iT h.aT.Still,iT h.kR,.b h.gT,aD.ls .y h.bp,.l .y 1 es,.l .y 3 [],iT h.fT,.l .y 10 [],.l .y 11 []]),(5,.x (iT i)),(6,.own ⟨0,0,0⟩ (.l .y 1 fs)),(7,.x (iT j))]) (fun j fs=>fs=(rs.take j).map (au.el .y)) rs.length [] rfl rfl fun j fs hj cG fZ=>?_;cases kN:decide ((j:Int)<(rs.map (au.el .n)).length) with
  |true=>
   have fP:j<rs.length:=by simpa using kN
   have hy:=bF fP;generalize rs[j]'_=x at hy;have vw:=p9 dY cG;have hb:=uN dY hy
   repeat' (first|refine yi (au.ls .n rs) (bH hx) ?_|refine yi (au.el .n x) (bH hy) ?_|refine yk Rq (afH x hb) ?_|(apply zV;(iterate 8 exact rfl);exact(vw);exact(rfl);exact(vw);exact rfl;exact rfl)|refine ak ?_|refine ai ?_|refine yt ?_ ?_|refine yo ?_|apply zn|refine yc ?_|intro _)
   refine fZ (fs++[au.el .y x]) fP ?_ _ _ ?_
   ·rw[cG,km hy]
   ·rw[bU (by omega)]
    first|rfl|(simp only[oq];rfl)|(simp only[bN];rfl)
  |false=>
   have fP:j=rs.length:=by
    have:¬j<rs.length:=by simpa using kN
    omega
   rw[fP,eD]at cG;subst cG
   repeat' (first|refine yi (au.ls .n rs) (bH hx) ?_|(apply zV;(iterate 8 exact rfl);exact(dJ);exact(rfl);exact(dJ);exact rfl;exact rfl)|refine ak ?_|refine ai ?_|refine yt ?_ ?_|refine yo ?_|apply zn|refine yc ?_|intro _)
   refine ih (es++[au.ls .y rs]) ?_ _ _ ?_
   ·rw[hinv,km hx]
   ·rw[bU (by omega)]
    first|rfl|(simp only[oq];rfl)|(simp only[bN];rfl)
 rintro es hc _ hinv;rw[eD]at hinv;subst hinv
 repeat' (first|refine ak ?_|refine ai ?_|refine yt ?_ ?_|refine yo ?_|apply zn|refine yc ?_|intro _)
 refine cF (aK.el .n) h.cI (fun i (es:List T)=>[(1,.box ⟨0,0,0⟩ (h.cs .n)),(2,.box ⟨0,0,0⟩ (aA.zero.cs .y)),(3,.box ⟨0,0,0⟩ [iT h.aT.fm,iT h.aT.kx,iT h.aT.iV,ints .y h.aT.dX,iT h.aT.mK,iT h.aT.mL,iT h.aT.mJ,iT h.aT.Still,iT h.kR,.b h.gT,aD.ls .y h.bp,au.lss .y h.Rows,.l .y 3 es,iT h.fT,.l .y 10 [],.l .y 11 []]),(8,.x (iT i))]) (fun i es=>es=(h.cI.take i).map (aK.el .y)) [] rfl rfl ?_ ?_
 ·rintro i es x hx aF hc _ hinv ih;have dJ:=p9 lQ hinv;have hb:=JP hl hx
  repeat' (first|refine yi (aK.el .n x) (bH hx) ?_|refine yk FP (afI x hb) ?_|(apply zV;(iterate 8 exact rfl);exact(dJ);exact(rfl);exact(dJ);exact rfl;exact rfl)|refine ak ?_|refine ai ?_|refine yt ?_ ?_|refine yo ?_|apply zn|refine yc ?_|intro _)
  refine ih (es++[aK.el .y x]) ?_ _ _ ?_
  ·rw[hinv,km hx]
  ·rw[bU (by omega)]
   first|rfl|(simp only[oq];rfl)|(simp only[bN];rfl)
 rintro es hc _ hinv;rw[eD]at hinv;subst hinv
 repeat' (first|refine ak ?_|refine ai ?_|refine yt ?_ ?_|refine yo ?_|apply zn|refine yc ?_|intro _)
 refine cF (aa.el .n) h.aJ (fun i (es:List T)=>[(1,.box ⟨0,0,0⟩ (h.cs .n)),(2,.box ⟨0,0,0⟩ (aA.zero.cs .y)),(3,.box ⟨0,0,0⟩ [iT h.aT.fm,iT h.aT.kx,iT h.aT.iV,ints .y h.aT.dX,iT h.aT.mK,iT h.aT.mL,iT h.aT.mJ,iT h.aT.Still,iT h.kR,.b h.gT,aD.ls .y h.bp,au.lss .y h.Rows,aK.ls .y h.cI,iT h.fT,.l .y 10 es,.l .y 11 []]),(9,.x (iT i))]) (fun i es=>es=(h.aJ.take i).map (aa.el .y)) [] rfl rfl ?_ ?_
 ·rintro i es x hx aF hc _ hinv ih;have dJ:=p9 Am hinv;have hb:=eQ (uN Am hx) zK
  repeat' (first|refine yi (aa.el .n x) (bH hx) ?_|refine yk vh (LM x hb) ?_|(apply zV;(iterate 8 exact rfl);exact(dJ);exact(rfl);exact(dJ);exact rfl;exact rfl)|refine ak ?_|refine ai ?_|refine yt ?_ ?_|refine yo ?_|apply zn|refine yc ?_|intro _)
  refine ih (es++[aa.el .y x]) ?_ _ _ ?_
  ·rw[hinv,km hx]
  ·rw[bU (by omega)]
   first|rfl|(simp only[oq];rfl)|(simp only[bN];rfl)
 rintro es hc _ hinv;rw[eD]at hinv;subst hinv
 repeat' (first|refine ak ?_|refine ai ?_|refine yt ?_ ?_|refine yo ?_|apply zn|refine yc ?_|intro _)
 refine cF (aC.el .n) h.bz (fun i (es:List T)=>[(1,.box ⟨0,0,0⟩ (h.cs .n)),(2,.box ⟨0,0,0⟩ (aA.zero.cs .y)),(3,.box ⟨0,0,0⟩ [iT h.aT.fm,iT h.aT.kx,iT h.aT.iV,ints .y h.aT.dX,iT h.aT.mK,iT h.aT.mL,iT h.aT.mJ,iT h.aT.Still,iT h.kR,.b h.gT,aD.ls .y h.bp,au.lss .y h.Rows,aK.ls .y h.cI,iT h.fT,aa.ls .y h.aJ,.l .y 11 es]),(10,.x (iT i))]) (fun i es=>es=(h.bz.take i).map (aC.el .y)) [] rfl rfl ?_ ?_
 ·rintro i es x hx aF hc _ hinv ih;have dJ:=p9 C7 hinv;have hb:=eQ (uN C7 hx) zK
  repeat' (first|refine yi (aC.el .n x) (bH hx) ?_|refine yk vh (LM x.bg hb) ?_|(apply zV;(iterate 8 exact rfl);exact(dJ);exact(rfl);exact(dJ);exact rfl;exact rfl)|refine ak ?_|refine ai ?_|refine yt ?_ ?_|refine yo ?_|apply zn|refine yc ?_|intro _)
  refine ih (es++[aC.el .y x]) ?_ _ _ ?_
  ·rw[hinv,km hx]
  ·rw[bU (by omega)]
   first|rfl|(simp only[oq];rfl)|(simp only[bN];rfl)
 rintro es hc _ hinv;rw[eD]at hinv;subst hinv
 repeat' (first|refine ak ?_|refine ai ?_|refine yt ?_ ?_|refine yo ?_|apply zn|refine yc ?_|intro _)
 refine fin rfl ?_
 try simp only[bN]
 try rfl
def pS {α:Type} (f:α->α->α) (a b:List α) (i:Nat):List α:=List.zipWith f (a.take i) (b.take i)++a.drop i
section
variable {α:Type}{f:α->α->α}{a b:List α}{i:Nat}{x y:α}
theorem L7:pS f a b 0=a:=by simp[pS]
theorem JV (ha:i<=a.length) (hb:i<=b.length):(List.zipWith f (a.take i) (b.take i)).length=i:=by rw[List.length_zipWith,fU,fU];omega
theorem JT (hx:a[i]?=some x) (hb:i<b.length):(pS f a b i)[i]?=some x:=by
 have ha:=(bt.1 hx).1;rw[pS,kD (by rw[JV (by omega) (by omega)];omega),JV (by omega) (by omega),rT];simpa using hx
theorem JW (hx:a[i]?=some x) (hy:b[i]?=some y):(pS f a b i).set i (f x y)=pS f a b (i+1):=by
 obtain⟨ha,rfl⟩:=bt.1 hx;obtain⟨hb,rfl⟩:=bt.1 hy;have h2:List.zipWith f (a.take (i+1)) (b.take (i+1))=List.zipWith f (a.take i) (b.take i)++[f a[i] b[i]]:=by
  rw[mb,mb,hx,hy,List.zipWith_append (by rw[fU,fU];omega)];rfl
 rw[pS,List.set_append_right _ _ (by rw[JV (by omega) (by omega)];omega),JV (by omega) (by omega),wH,List.drop_eq_getElem_cons ha,List.set_cons_zero,pS,h2,gY];rfl
theorem JU (h:a.length=b.length):pS f a b b.length=List.zipWith f a b:=by rw[pS,p8 (by omega),p8 (by omega),List.drop_eq_nil_of_le (by omega),nW]
theorem Zp2 {l:List α} (h:l[i]?=some x):l.set i x=l:=by
 obtain⟨_,rfl⟩:=bt.1 h;exact List.set_getElem_self ..
theorem Zp0 {l:List α} (h:i<l.length):(l.set i x)[i]?=some x:=by rw[il h]
end
theorem Ct {x:bm} (h:sY x):x.al<=100:=by
 obtain⟨_,_,_,_,⟨h5,_⟩,⟨h6,_⟩,h7,h8⟩:=h
 match hx:x.Rows,h7 with
 |[p,q],_=>
 have hp:=(h8 p (by rw[hx];simp)).1;have hq:=(h8 q (by rw[hx];simp)).1;simp[bm.al,aS,hx,h5,h6,hp,hq]
theorem WY (a b:Int):(if b>a then b else a)=max a b:=by split<;>omega
theorem Zf6 {a b:bm} (ha:sY a) (hb:sY b) (h:((a.Count==0)||(decide (b.Count>0)&&decide (b.Min<a.Min)))=true):(gR a b).Min=b.Min:=by
 simp only[pW,beq_iff_eq,Y8,decide_eq_true_eq]at h;have h1:=ha.mn;have h2:=hb.mn;have h3:=ha.zero;have h4:=hb.zero;have:=hb.Ff;simp only[gR];split
 ·omega
 ·split<;>omega
theorem Zf5 {a b:bm} (ha:sY a) (hb:sY b) (h:((a.Count==0)||(decide (b.Count>0)&&decide (b.Min<a.Min)))=false):(gR a b).Min=a.Min:=by
 simp only[Bool.or_eq_false_iff,beq_eq_false_iff_ne,Y7,decide_eq_false_iff_not]at h;have:=hb.Ff;simp only[gR];split
 ·rfl
 ·split
  ·exact absurd ‹_› h.1
  ·omega
set_option maxHeartbeats 2000000 in
theorem arG (a b:bm) (ha:sY a) (hb:sY b):L9 [.st (a.cs .n),.st (b.cs .n)]=some ⟨[.st ((gR a b).cs .y),.one (.b true)],[]⟩:=by
 have hla:=Ct ha;have Df:=Ct hb;have C7:=hb.sD.1;have hb6:=hb.wg.1;have hb7:=hb.rows.1;have hoa:=(r7 a).2 ha;have dq:=(r7 b).2 hb;have bf:(!a.ok|| !b.ok)=false:=by rw[hoa,dq];rfl
 have hc:0<=b.Count/\b.Count<=1000000000:=hb.Ff;have vK:(gR a b).Max=if b.Max>a.Max then b.Max else a.Max:=(WY _ _).symm
 (refine aP rfl ?_;show Ev abZ.code _ _ _)
 repeat' (first|refine yy ?_|refine ym ?_|(apply ze;iterate 5 exact rfl)|(apply zf;iterate 5 exact rfl)|refine yp ?_|refine yk Ac (Ul a (by omega)) ?_|refine yk Ac (Ul b (by omega)) ?_|refine yk Fm (afj a (by omega)) ?_|refine yk xt (T5 _ _) ?_|refine ak ?_|refine ai ?_|refine yt ?_ ?_|refine yo ?_|apply zn|refine yc ?_|exact rfl|intro _)
 all_goals
  rename_i hm;refine cF iT b.ca (fun i (hs:List Int)=>[(3,.box ⟨0,0,0⟩ (b.cs .n)),(4,.box ⟨0,0,0⟩ [iT 0,iT 0,iT 0,iT 0,.l .y 1 [],.l .y 1 [],.l .y 1 []]),(6,.box ⟨0,0,0⟩ [iT (dF a.Count b.Count),iT (dF a.Sum b.Sum),iT (gR a b).Min,iT (gR a b).Max,.l .y 1 (hs.map iT),.l .y 1 (a.bX.map iT),.l .y 1 (a.Rows.map (ints .y))]),(63,.x (ints .n b.ca)),(64,.x (iT (b.ca.map iT).length)),(65,.x (iT i))]) (fun i hs=>hs=pS dF a.ca b.ca i) a.ca L7.symm (by first|(rw[vK,Zf6 ha hb hm];rfl)|(rw[vK,Zf5 ha hb hm];rfl)) ?_ ?_
  ·rintro i hs y hy aF dx _ hinv ih;have hx:=bF (show i<a.ca.length by rw[ha.sD.1];rw[hb.sD.1]at aF;omega);generalize a.ca[i]'_=x at hx;have hg:hs[i]?=some x:=hinv▸JT hx aF
   repeat' (first|refine yy ?_|refine ym ?_|(apply ze;iterate 5 exact rfl)|(apply zf;iterate 5 exact rfl)|refine yp ?_|refine yi (iT y) (bH hy) ?_|refine yx (qV (bt.1 hg).1) ?_|(apply zl (iT x);exact rfl;exact rfl;exact(by simp[T.aM,T.bA,hg]);iterate 3 exact rfl)|refine yk xt (T5 x y) ?_|(apply zS (iT x) (.a [iT (dF a.Count b.Count),iT (dF a.Sum b.Sum),iT (gR a b).Min,iT (gR a b).Max,.l .y 1 ((hs.set i (dF x y)).map iT),.l .y 1 (a.bX.map iT),.l .y 1 (a.Rows.map (ints .y))]);(iterate 4 exact rfl);exact(by simp[T.aM,T.bA,hg]);exact(by simp[T.eO,Ob.own,hg]);exact rfl;exact(by simp[T.put,T.bA,T.dP,hg,BT,T.jo,T.cells,fG]);iterate 3 exact rfl)|refine ak ?_|refine ai ?_|refine yt ?_ ?_|refine yo ?_|apply zn|refine yc ?_|exact rfl|intro _)
   refine ih (hs.set i (dF x y)) ?_ _ _ ?_
   ·rw[hinv,JW hx hy]
   ·rw[bU (by omega)];rfl
  ·rintro hs dx _ hinv;rw[JU (by rw[ha.sD.1,hb.sD.1])]at hinv;subst hinv
   repeat' (first|refine yy ?_|refine ym ?_|(apply ze;iterate 5 exact rfl)|(apply zf;iterate 5 exact rfl)|refine yp ?_|refine ak ?_|refine ai ?_|refine yt ?_ ?_|refine yo ?_|apply zn|refine yc ?_|exact rfl|intro _)
   refine cF iT b.bX (fun i (rs:List Int)=>[(3,.box ⟨0,0,0⟩ (b.cs .n)),(4,.box ⟨0,0,0⟩ [iT 0,iT 0,iT 0,iT 0,.l .y 1 [],.l .y 1 [],.l .y 1 []]),(6,.box ⟨0,0,0⟩ [iT (dF a.Count b.Count),iT (dF a.Sum b.Sum),iT (gR a b).Min,iT (gR a b).Max,.l .y 1 ((List.zipWith dF a.ca b.ca).map iT),.l .y 1 (rs.map iT),.l .y 1 (a.Rows.map (ints .y))]),(83,.x (ints .n b.bX)),(84,.x (iT (b.bX.map iT).length)),(85,.x (iT i))]) (fun i rs=>rs=pS max a.bX b.bX i) a.bX L7.symm rfl ?_ ?_
   ·rintro i rs y hy aF hc3 _ hinv ih;have hx:=bF (show i<a.bX.length by rw[ha.wg.1];rw[hb.wg.1]at aF;omega);generalize a.bX[i]'_=x at hx;have hg:rs[i]?=some x:=hinv▸JT hx aF
    repeat' (first|refine yy ?_|refine ym ?_|(apply ze;iterate 5 exact rfl)|(apply zf;iterate 5 exact rfl)|refine yp ?_|refine yi (iT y) (bH hy) ?_|refine yx (qV (bt.1 hg).1) ?_|(apply zl (iT x);exact rfl;exact rfl;exact(by simp[T.aM,T.bA,hg]);iterate 3 exact rfl)|(apply zS (iT x) (.a [iT (dF a.Count b.Count),iT (dF a.Sum b.Sum),iT (gR a b).Min,iT (gR a b).Max,.l .y 1 ((List.zipWith dF a.ca b.ca).map iT),.l .y 1 ((rs.set i (if y>x then y else x)).map iT),.l .y 1 (a.Rows.map (ints .y))]);(iterate 4 exact rfl);exact(by simp[T.aM,T.bA,hg]);exact(by simp[T.eO,Ob.own,hg]);exact rfl;exact(by simp[T.put,T.bA,T.dP,hg,BT,T.jo,T.cells,fG]);iterate 3 exact rfl)|refine ak ?_|refine ai ?_|refine yt ?_ ?_|refine yo ?_|apply zn|refine yc ?_|exact rfl|intro _)
    refine ih (rs.set i (if y>x then y else x)) ?_ _ _ ?_
    ·rw[hinv,WY,JW hx hy]
    ·rw[bU (by omega)];rfl
   ·rintro rs hc3 _ hinv;rw[JU (by rw[ha.wg.1,hb.wg.1])]at hinv;subst hinv
    repeat' (first|refine yy ?_|refine ym ?_|(apply ze;iterate 5 exact rfl)|(apply zf;iterate 5 exact rfl)|refine yp ?_|refine ak ?_|refine ai ?_|refine yt ?_ ?_|refine yo ?_|apply zn|refine yc ?_|exact rfl|intro _)
    refine cF (ints .n) b.Rows (fun k (ws:List (List Int))=>[(3,.box ⟨0,0,0⟩ (b.cs .n)),(4,.box ⟨0,0,0⟩ [iT 0,iT 0,iT 0,iT 0,.l .y 1 [],.l .y 1 [],.l .y 1 []]),(6,.box ⟨0,0,0⟩ [iT (dF a.Count b.Count),iT (dF a.Sum b.Sum),iT (gR a b).Min,iT (gR a b).Max,.l .y 1 ((List.zipWith dF a.ca b.ca).map iT),.l .y 1 ((List.zipWith max a.bX b.bX).map iT),.l .y 1 (ws.map (ints .y))]),(103,.x (kg.lss .n b.Rows)),(104,.x (iT (b.Rows.map (ints .n)).length)),(105,.x (iT k))]) (fun k ws=>ws=pS (List.zipWith dF) a.Rows b.Rows k) a.Rows L7.symm rfl ?_ ?_
    ·rintro k ws q hy aF hc4 _ hinv ih;have hx:=bF (show k<a.Rows.length by rw[ha.rows.1];rw[hb.rows.1]at aF;omega);generalize a.Rows[k]'_=p at hx;have hp:=(ha.rows.2 p (cS hx)).1;have hq:=(hb.rows.2 q (cS hy)).1;have hg:ws[k]?=some p:=hinv▸JT hx aF;have sJ:=(bt.1 hg).1
     repeat' (first|refine yy ?_|refine ym ?_|(apply ze;iterate 5 exact rfl)|(apply zf;iterate 5 exact rfl)|refine yp ?_|refine yi (ints .n q) (bH hy) ?_|refine ak ?_|refine ai ?_|refine yt ?_ ?_|refine yo ?_|apply zn|refine yc ?_|exact rfl|intro _)
     refine cF iT q (fun i (us:List Int)=>[(3,.box ⟨0,0,0⟩ (b.cs .n)),(4,.box ⟨0,0,0⟩ [iT 0,iT 0,iT 0,iT 0,.l .y 1 [],.l .y 1 [],.l .y 1 []]),(6,.box ⟨0,0,0⟩ [iT (dF a.Count b.Count),iT (dF a.Sum b.Sum),iT (gR a b).Min,iT (gR a b).Max,.l .y 1 ((List.zipWith dF a.ca b.ca).map iT),.l .y 1 ((List.zipWith max a.bX b.bX).map iT),.l .y 1 ((ws.set k us).map (ints .y))]),(11,.x (iT k)),(12,.x (ints .n q)),(103,.x (kg.lss .n b.Rows)),(104,.x (iT (b.Rows.map (ints .n)).length)),(105,.x (iT k)),(110,.x (ints .n q)),(111,.x (iT (q.map iT).length)),(112,.x (iT i))]) (fun i us=>us=pS dF p q i) p L7.symm (by rw[Zp2 hg];rfl) ?_ ?_
     ·rintro i us y K8 kN hc5 _ cG fZ;have Tg:=bF (show i<p.length by omega);generalize p[i]'_=x at Tg;have fp:us[i]?=some x:=cG▸JT Tg kN;have ru:(ws.set k us)[k]?=some us:=Zp0 sJ;have rB:ws.set k (us.set i (dF x y))=(ws.set k us).set k (us.set i (dF x y)):=by rw[List.set_set]
      generalize ws.set k us=vs at ru rB⊢;have n1:(T.a [iT (dF a.Count b.Count),iT (dF a.Sum b.Sum),iT (gR a b).Min,iT (gR a b).Max,.l .y 1 ((List.zipWith dF a.ca b.ca).map iT),.l .y 1 ((List.zipWith max a.bX b.bX).map iT),.l .y 1 (vs.map (ints .y))]).aM ([6]++[0+((k:Nat):Int).toNat])=some (ints .y us):=by simp[T.aM,T.bA,ru]
      have n2:(T.a [iT (dF a.Count b.Count),iT (dF a.Sum b.Sum),iT (gR a b).Min,iT (gR a b).Max,.l .y 1 ((List.zipWith dF a.ca b.ca).map iT),.l .y 1 ((List.zipWith max a.bX b.bX).map iT),.l .y 1 (vs.map (ints .y))]).aM (([6]++[0+((k:Nat):Int).toNat])++[0+((i:Nat):Int).toNat])=some (iT x):=by simp[T.aM,T.bA,ru,fp]
      repeat' (first|refine yy ?_|refine ym ?_|(apply ze;iterate 5 exact rfl)|(apply zf;iterate 5 exact rfl)|refine yp ?_|refine yi (iT y) (bH K8) ?_|refine yx (qV (bt.1 ru).1) ?_|refine yx (qV (bt.1 fp).1) ?_|refine yl (ints .y us) (n1) ?_|refine yl (iT x) (n2) ?_|refine yk xt (T5 x y) ?_|(apply zS (iT x) (.a [iT (dF a.Count b.Count),iT (dF a.Sum b.Sum),iT (gR a b).Min,iT (gR a b).Max,.l .y 1 ((List.zipWith dF a.ca b.ca).map iT),.l .y 1 ((List.zipWith max a.bX b.bX).map iT),.l .y 1 ((vs.set k (us.set i (dF x y))).map (ints .y))]);(iterate 4 exact rfl);exact(n2);exact(by simp[T.eO,Ob.own,ru,fp]);exact rfl;exact(by simp[T.put,T.bA,T.dP,ru,fp,BT,T.jo,T.cells,fG,ints]);iterate 3 exact rfl)|refine ak ?_|refine ai ?_|refine yt ?_ ?_|refine yo ?_|apply zn|refine yc ?_|exact rfl|intro _)
      refine fZ (us.set i (dF x y)) ?_ _ _ ?_
      ·rw[cG,JW Tg K8]
      ·rw[bU (by omega),rB];rfl
     ·rintro us hc5 _ cG;rw[JU (by omega)]at cG;subst cG
      repeat' (first|refine yy ?_|refine ym ?_|(apply ze;iterate 5 exact rfl)|(apply zf;iterate 5 exact rfl)|refine yp ?_|refine ak ?_|refine ai ?_|refine yt ?_ ?_|refine yo ?_|apply zn|refine yc ?_|exact rfl|intro _)
      refine ih (ws.set k (List.zipWith dF p q)) ?_ _ _ ?_
      ·rw[hinv,JW (f:=List.zipWith dF) hx hy]
      ·rw[bU (by omega)];rfl
    ·rintro ws hc4 _ hinv;rw[JU (by rw[ha.rows.1,hb.rows.1])]at hinv;subst hinv
     repeat' (first|refine yy ?_|refine ym ?_|(apply ze;iterate 5 exact rfl)|(apply zf;iterate 5 exact rfl)|refine yp ?_|refine ak ?_|refine ai ?_|refine yt ?_ ?_|refine yo ?_|apply zn|refine yc ?_|exact rfl|intro _)
     refine fin rfl ?_
     try simp only[bN]
     try rfl
theorem YG:∀{s:List af},dv s->(s.length:Int)<=gD s
 |[],_=>by simp[gD]
 |x::s,hs=>by
  have h1:=YG hs.tail;have h2:=hs.one;unfold fo at h2;unfold gD at h1⊢;rw[fc,im,dH];omega
theorem tE {s:List af} (hs:dv s):s.length<=10000:=by
 have h1:=YG hs;have h2:=PM (lo:=0) (m:=9999) hs (fun x hx=>by have:=hs.span hx;unfold fo at this;omega) (by omega);omega
theorem A6 {e:aa} (h:e.ok=true):e.al<=10100:=by
 have h1:=tE (jj h);have h2:=Ct ((r7 _).1 (ul h));unfold aa.al;omega
theorem Uk (s:List af) (hl:s.length<=4194304):Nn [.x (af.ls .n s)]=some ⟨[.one (iT (F9 s))],[]⟩:=by
 rcases Nat.eq_zero_or_pos s.length with h0|h0
 ·obtain rfl:=List.eq_nil_of_length_eq_zero h0;have h3:(((([]:List af).map (af.el .n)).length:Int)==0)=true:=rfl
  (refine aP rfl ?_;show Ev Tw.code _ _ _)
  repeat' (first|refine ak ?_|refine ai ?_|refine yt ?_ ?_|refine yo ?_|apply zn|refine yc ?_|intro _)
  exact fin rfl rfl
 ·have h2:(((s.map (af.el .n)).length:Int)==0)=false:=by
   have:((s.length:Int)==0)=false:=by rw[beq_eq_false_iff_ne];omega
   rwa [cL]
  have hb:=bF (show s.length-1<s.length by omega);generalize s[s.length-1]'_=b at hb;have hk:IntKind.i64.wrap (((s.map (af.el .n)).length:Int)-1)=((s.length-1:Nat):Int):=by rw[cL,dQ (by omega)];omega
  have kM:0<=IntKind.i64.wrap (((s.map (af.el .n)).length:Int)-1):=by rw[hk];omega
  have mX:(s.map (af.el .n))[(IntKind.i64.wrap (((s.map (af.el .n)).length:Int)-1)).toNat]?=some (af.el .n b):=by rw[hk];exact bH hb
  (refine aP rfl ?_;show Ev Tw.code _ _ _)
  repeat' (first|refine yj (af.el .n b) (kM) (mX) ?_|refine ak ?_|refine ai ?_|refine yt ?_ ?_|refine yo ?_|apply zn|refine yc ?_|intro _)
  refine fin rfl (mC ?_);rw[F9,List.getLast?_eq_getElem?,hb]
theorem Iq {h:aA} (hh:(fu h&& !h.gT)=false):rb h=h:=by rw[rb,hh];rfl
theorem abS {α:Type}{l:List α} (h:l.length=3):∃a b c,l=[a,b,c]:=by
 match l,h with
 |[a,b,c],_=>exact⟨a,b,c,rfl⟩
theorem YC {h:aA} (hl:h.al<=4000000):∀s∈h.bp,s.bK.length<=4194304:=fun s hs=>by
 obtain⟨i,hi⟩:=gZ.1 hs;exact Zo6 (zB hl hi)
set_option maxHeartbeats 1000000 in
theorem asN (h:aA) (hl:h.al<=4000000):Nc [.st (h.cs .n)]=some ⟨[.st ((rb h).cs .y)],[]⟩:=by
 have jx:=DC h hl;rw[qU]at jx;have pu:=Hf h hl;cases hh:fu h with
 |false=>
  rw[hh]at jx;rw[Iq (by rw[hh];rfl)]
  (refine aP rfl ?_;show Ev Le.code _ _ _)
  repeat' (first|refine yy ?_|refine ym ?_|(apply ze;iterate 5 exact rfl)|refine yp ?_|refine yk oE (pu) ?_|refine yk lN (jx) ?_|refine ym ?_ (ht:=rfl)|refine yp ?_ (ht:=rfl)|refine ai ?_ (ht:=rfl)|refine ak ?_|refine ai ?_|refine yt ?_ ?_|refine yo ?_|apply zn|refine yc ?_|exact rfl|intro _)
  refine fin rfl ?_
  try simp only[bN]
  try rfl
 |true=>
  rw[hh]at jx;obtain⟨s0,s1,s2,h3⟩:=abS (Wl hh).1;have fg:=YC hl;obtain⟨rf,clock,closed,ni,rows,turns,since,root,outs⟩:=h;simp only at h3;subst h3;have t0:=fg s0 (by simp);have t1:=fg s1 (by simp);have t2:=fg s2 (by simp);cases closed with
  |true=>
   rw[Iq (by rw[hh];rfl)]
   (refine aP rfl ?_;show Ev Le.code _ _ _)
   repeat' (first|refine yy ?_|refine ym ?_|(apply ze;iterate 5 exact rfl)|refine yp ?_|refine yk oE (pu) ?_|refine yk lN (jx) ?_|refine yy ?_ (ht:=rfl)|refine yp ?_ (ht:=rfl)|refine ai ?_ (ht:=rfl)|refine ak ?_|refine ai ?_|refine yt ?_ ?_|refine yo ?_|apply zn|refine yc ?_|exact rfl|intro _)
   refine fin rfl ?_
   try simp only[bN]
   try rfl
  |false=>
   have e:rb ⟨rf,clock,false,[s0,s1,s2],rows,turns,since,root,outs⟩=⟨rf,clock,true,[yg s0,yg s1,yg s2],rows,turns,since,root,outs⟩:=by
    rw[rb,hh];rfl
   rw[e]
   (refine aP rfl ?_;show Ev Le.code _ _ _)
   repeat' (first|refine yy ?_|refine ym ?_|(apply ze;iterate 5 exact rfl)|refine yp ?_|refine yk oE (pu) ?_|refine yk lN (jx) ?_|refine DM ?_|refine yy ?_ (ht:=rfl)|refine yp ?_ (ht:=rfl)|refine ak ?_ (ht:=rfl)|refine ai ?_ (ht:=rfl)|refine yv FM (Ui s0.bK t0) ?_|refine yv FM (Ui s1.bK t1) ?_|refine yv FM (Ui s2.bK t2) ?_|refine ak ?_|refine ai ?_|refine yt ?_ ?_|refine yo ?_|apply zn|refine yc ?_|exact rfl|intro _)
   refine fin rfl ?_
   try simp only[bN]
   try rfl
set_option maxHeartbeats 1000000 in
theorem asX (h:aA) (hl:h.al<=4000000):Np [.st (h.cs .n)]=some ⟨[.st ((rb h).cs .y)],[]⟩:=by
 have jx:=afC h hl;have pu:=Dx h hl;cases hh:fu h with
 |false=>
  rw[hh]at jx;rw[Iq (by rw[hh];rfl)]
  (refine aP rfl ?_;show Ev Lf.code _ _ _)
  repeat' (first|refine yy ?_|refine ym ?_|(apply zf;iterate 5 exact rfl)|refine yp ?_|refine yk mh (pu) ?_|refine yk su (jx) ?_|refine ym ?_ (ht:=rfl)|refine yp ?_ (ht:=rfl)|refine ak ?_ (ht:=rfl)|refine ak ?_|refine ai ?_|refine yt ?_ ?_|refine yo ?_|apply zn|refine yc ?_|exact rfl|intro _)
  refine fin rfl ?_
  try simp only[bN]
  try rfl
 |true=>
  rw[hh]at jx;obtain⟨s0,s1,s2,h3⟩:=abS (Wl hh).1;have fg:=YC hl;obtain⟨rf,clock,closed,ni,rows,turns,since,root,outs⟩:=h;simp only at h3;subst h3;have t0:=fg s0 (by simp);have t1:=fg s1 (by simp);have t2:=fg s2 (by simp);cases closed with
  |true=>
   rw[Iq (by rw[hh];rfl)]
   (refine aP rfl ?_;show Ev Lf.code _ _ _)
   repeat' (first|refine yy ?_|refine ym ?_|(apply zf;iterate 5 exact rfl)|refine yp ?_|refine yk mh (pu) ?_|refine yk su (jx) ?_|refine yy ?_ (ht:=rfl)|refine yp ?_ (ht:=rfl)|refine ak ?_ (ht:=rfl)|refine ak ?_|refine ai ?_|refine yt ?_ ?_|refine yo ?_|apply zn|refine yc ?_|exact rfl|intro _)
   refine fin rfl ?_
   try simp only[bN]
   try rfl
  |false=>
   have e:rb ⟨rf,clock,false,[s0,s1,s2],rows,turns,since,root,outs⟩=⟨rf,clock,true,[yg s0,yg s1,yg s2],rows,turns,since,root,outs⟩:=by
    rw[rb,hh];rfl
   rw[e]
   (refine aP rfl ?_;show Ev Lf.code _ _ _)
   repeat' (first|refine yy ?_|refine ym ?_|(apply zf;iterate 5 exact rfl)|refine yp ?_|refine yk mh (pu) ?_|refine yk su (jx) ?_|refine DM ?_|refine yy ?_ (ht:=rfl)|refine yp ?_ (ht:=rfl)|refine ak ?_ (ht:=rfl)|refine ai ?_ (ht:=rfl)|refine yv FQ (Uk s0.bK t0) ?_|refine yv FQ (Uk s1.bK t1) ?_|refine yv FQ (Uk s2.bK t2) ?_|refine ak ?_|refine ai ?_|refine yt ?_ ?_|refine yo ?_|apply zn|refine yc ?_|exact rfl|intro _)
   refine fin rfl ?_
   try simp only[bN]
   try rfl
def mQ:aa->Bool:=fun _=>true
theorem asY (e:aa):Nr [.st (e.cs .n)]=some ⟨[.one (.b (mQ e))],[]⟩:=by
 (refine aP rfl ?_;show Ev adP.code _ _ _)
 repeat' (first|refine yo ?_|apply zn|refine yc ?_|intro _)
 exact fin rfl rfl
def SL (e:aa):T:=.a [iT e.Key,iT e.eo,.u,iT e.aN.Count,iT e.aN.Sum,iT e.aN.Min,iT e.aN.Max,.u,.u,.u]
structure pU (t:aa->Bool) (h:aA) (i:Nat) (p:List T×List aa×List aC):Prop where
 len:p.1.length=h.aJ.length
 nth:∀j x,i<=j->h.aJ[j]?=some x->p.1[j]?=some (aa.el .y x)
 dG:p.2=sh t (h.aJ.take i) h.bz
theorem pU.init (t:aa->Bool) (h:aA):pU t h 0 (h.aJ.map (aa.el .y),[],h.bz):=⟨cL _,fun j x _ hx=>by rw[iX,hx];rfl,rfl⟩
section
variable {t:aa->Bool}{h:aA}{i:Nat}{es:List T}{left:List aa}{outs:List aC}{x:aa}
theorem pU.mid (f:pU t h i (es,left,outs)) (hx:h.aJ[i]?=some x):∃E:List T,es=E.set i (aa.el .y x)/\i<E.length:=by
 have h1:=f.nth i x (Nat.le_refl _) hx;exact⟨es,(Zp4 h1).symm,(bt.1 h1).1⟩
theorem pU.next {E:List T}{c:T} (f:pU t h i (E.set i (aa.el .y x),left,outs)) (hx:h.aJ[i]?=some x) {q:List aa×List aC} (hq:q=mS t (left,outs) x):pU t h (i+1) (E.set i c,q):=by
 refine⟨?_,fun j y hj hy=>?_,?_⟩
 ·have:=f.len;simp only[wQ]at this⊢;exact this
 ·have:=f.nth j y (by omega) hy;simp only at this⊢;rw[jQ (by omega)]at this⊢;exact this
 ·have:=f.dG;simp only at this⊢;rw[hq,Z86 hx,<-this]
theorem pU.small (f:pU t h i (es,left,outs)) (hl:h.al<=4000000):left.length+outs.length<=4000000:=by
 have h1:=V7 t (h.aJ.take i) ([],h.bz);have h2:=f.dG;have h3:=Ei aa.al h.aJ i;have h4:aS aa.al []=0:=rfl;unfold sh at h2;simp only at h1 h2;rw[<-h2]at h1;simp only at h1;have h5:=dA aa.al left;have h6:=dA aC.al outs;unfold aA.al at hl;omega
end
theorem UX {left:List aa}{outs:List aC} (h:left.length+outs.length<=4000000):(outs.map (aC.el .y)).length+1<cQ/\(left.map (aa.el .y)).length+1<cQ:=by
 rw[cL,cL];unfold cQ;omega
set_option maxHeartbeats 2000000 in
theorem Zbc (h:aA) (hl:h.al<=4000000):Nt [.bx (h.cs .y),.x (.f FR [])]=some ⟨[],[(kJ (mQ) h).cs .y]⟩:=by
 have n4:=dA aa.al h.aJ;have Am:=(IP hl).2.2.2.1
 (refine aP rfl ?_;show Ev adQ.code _ _ _)
 repeat' (first|refine ak ?_|refine ai ?_|refine yt ?_ ?_|refine yo ?_|apply zn|refine yc ?_|intro _)
 refine cF (aa.el .y) h.aJ (fun i (p:List T×List aa×List aC)=>[(0,.box ⟨0,0,0⟩ [iT h.aT.fm,iT h.aT.kx,iT h.aT.iV,ints .y h.aT.dX,iT h.aT.mK,iT h.aT.mL,iT h.aT.mJ,iT h.aT.Still,iT h.kR,.b h.gT,aD.ls .y h.bp,au.lss .y h.Rows,aK.ls .y h.cI,iT h.fT,.u,aC.ls .y p.2.2]),(1,.x (.f FR [])),(4,.own ⟨0,0,0⟩ (.l .y 10 (p.2.1.map (aa.el .y)))),(10,.own ⟨0,0,0⟩ (.l .y 10 p.1)),(11,.x (iT (h.aJ.map (aa.el .y)).length)),(12,.x (iT i))]) (pU (mQ) h) _ (pU.init _ h) ?_ ?_ ?_
 ·first|rfl|(simp only[bN];rfl)
 ·rintro i ⟨es,left,outs⟩ x hx aF hc _ hinv ih;have my:=hinv.small hl;obtain⟨xD,eV⟩:=UX my;have ho:outs.length<=4194304:=by omega
  obtain⟨E,rfl,hi⟩:=hinv.mid hx;have hd:=asY x
  repeat' (first|refine yx (rY hi) ?_|refine yL (aa.cs .y x) (jT hi rfl) ?_|(apply zS;exact Wi rfl rfl (by repeat (first|exact pV.nil _|apply pV.x|(apply pV.w;exact rfl;exact jT (by assumption) rfl;exact rfl;exact qf (by assumption) rfl;exact rfl)));exact rfl;exact rfl;exact rfl;exact rfl;exact rfl;exact rfl;exact rfl;exact rfl;exact rfl;exact rfl)|(apply zd;(iterate 3 exact rfl);simp only[List.map,iw];exact rfl;exact(hd);iterate 3 exact rfl)|refine yv F8 (afT outs x.Key x.eo ho) ?_|(apply zVF;exact rfl;exact Z7t rfl rfl rfl rfl rfl;exact rfl;exact rfl;exact rfl;exact xD;exact rfl;exact xD;exact rfl;exact rfl)|(apply zV;(iterate 8 exact rfl);exact(eV);exact(rfl);exact(eV);exact rfl;exact rfl)|refine ak ?_|refine ai ?_|refine yt ?_ ?_|refine yo ?_|apply zn|refine yc ?_|intro _)
  ·rename_i hb;refine ih (E.set i (SL x),left,outs++[⟨nR outs x.Key x.eo,x⟩]) ?_ _ _ ?_
   ·exact hinv.next hx (by rw[mS,hb];rfl)
   ·rw[bU (by omega)];simp only[bN,aC.ls,kh];rfl
  ·rename_i hb;refine ih (E.set i (SL x),left++[x],outs) ?_ _ _ ?_
   ·exact hinv.next hx (by rw[mS,hb];rfl)
   ·rw[bU (by omega)];simp only[bN,aC.ls,kh];rfl
 ·rintro⟨es,left,outs⟩ hc _ hinv;have h2:=hinv.dG;rw[eD]at h2;simp only at h2;have e:kJ (mQ) h={h with aJ:=left,bz:=outs}:=by rw[kJ,<-h2]
  rw[e]
  repeat' (first|refine ak ?_|refine ai ?_|refine yt ?_ ?_|refine yo ?_|apply zn|refine yc ?_|intro _)
  refine fin rfl ?_
  try simp only[bN]
  try rfl
def zR (h:aA):aA:=if fu h then kJ mQ h else h
theorem asZ (h:aA) (hl:h.al<=4000000):Nu [.st (h.cs .n)]=some ⟨[.st ((zR h).cs .y)],[]⟩:=by
 have jx:=DC h hl;rw[qU]at jx;have pu:=Hf h hl;have gq:=Zbc h hl;cases hh:fu h with
 |false=>
  rw[hh]at jx;rw[show zR h=h by rw[zR,hh];rfl]
  (refine aP rfl ?_;show Ev Tx.code _ _ _)
  repeat' (first|refine yk oE (pu) ?_|refine yk lN (jx) ?_|refine ai ?_ (ht:=rfl)|refine ak ?_|refine ai ?_|refine yt ?_ ?_|refine yo ?_|apply zn|refine yc ?_|intro _)
  refine fin rfl ?_
  try simp only[bN]
  try rfl
 |true=>
  rw[hh]at jx;rw[show zR h=kJ mQ h by rw[zR,hh];rfl];generalize kJ mQ h=r at gq
  (refine aP rfl ?_;show Ev Tx.code _ _ _)
  repeat' (first|refine yk oE (pu) ?_|refine yk lN (jx) ?_|(apply zk Ru;exact rfl;(first|exact rfl|(simp only[bN];exact rfl));exact gq;exact rfl;exact rfl;exact rfl)|refine ak ?_ (ht:=rfl)|refine ak ?_|refine ai ?_|refine yt ?_ ?_|refine yo ?_|apply zn|refine yc ?_|intro _)
  refine fin rfl ?_
  try simp only[bN]
  try rfl
set_option maxHeartbeats 2000000 in
theorem Zq6 (h:aA) (hl:h.al<=4000000):Nv [.st (h.cs .n),.x (.b true)]=some ⟨[.st ((kJ (mQ) h).cs .y)],[]⟩:=by
 have n4:=dA aa.al h.aJ;have Am:=(IP hl).2.2.2.1;have pu:=Dx h hl;have g1:true=(!false):=rfl
 (refine aP rfl ?_;show Ev adR.code _ _ _)
 repeat' (first|refine yy ?_|refine ym ?_|(apply zf;iterate 5 exact rfl)|refine yp ?_|refine yk mh (pu) ?_|refine ak ?_|refine ai ?_|refine yt ?_ ?_|refine yo ?_|apply zn|refine yc ?_|exact rfl|intro _)
 refine jS (fun i (p:List T×List aa×List aC)=>[(1,.x (.b true)),(2,.box ⟨0,0,0⟩ (h.cs .n)),(4,.box ⟨0,0,0⟩ (aA.zero.cs .y)),(5,.box ⟨0,0,0⟩ [iT h.aT.fm,iT h.aT.kx,iT h.aT.iV,ints .y h.aT.dX,iT h.aT.mK,iT h.aT.mL,iT h.aT.mJ,iT h.aT.Still,iT h.kR,.b h.gT,aD.ls .y h.bp,au.lss .y h.Rows,aK.ls .y h.cI,iT h.fT,.l .y 10 p.1,aC.ls .y p.2.2]),(6,.own ⟨0,0,0⟩ (.l .y 10 (p.2.1.map (aa.el .y)))),(7,.x (iT i))]) (pU (mQ) h) h.aJ.length _ (pU.init _ h) ?_ ?_
 ·first|rfl|(simp only[bN];rfl)
 ·rintro i ⟨es,left,outs⟩ lT hinv ih;have hlen:=hinv.len;have my:=hinv.small hl;obtain⟨xD,eV⟩:=UX my;have ho:outs.length<=4194304:=by omega
  simp only at hlen;rcases js i h.aJ.length with aF|fL
  ·have hx:=bF aF;generalize h.aJ[i]'_=x at hx;obtain⟨E,rfl,hi⟩:=hinv.mid hx;have hc:decide ((i:Int)<((E.set i (aa.el .y x)).length:Nat))=true:=by simp only[wQ,decide_eq_true_eq];omega
   repeat' (first|refine yy ?_|refine ym ?_|(apply zf;iterate 5 exact rfl)|refine yp ?_|refine yx (rY hi) ?_|refine yL (aa.cs .y x) (Vl rfl (jT hi rfl)) ?_|(apply zS;exact Wi rfl rfl (by repeat (first|exact pV.nil _|apply pV.x|(apply pV.w;exact rfl;exact Vl rfl (jT (by assumption) rfl);exact rfl;exact Z2n rfl (qf (by assumption) rfl) rfl;exact rfl)));exact rfl;exact rfl;exact rfl;exact rfl;exact rfl;exact rfl;exact rfl;exact rfl;exact rfl;exact rfl)|refine yv FK (afB outs x.Key x.eo ho) ?_|(apply zV;(iterate 8 exact rfl);exact(xD);exact(rfl);exact(xD);exact rfl;exact rfl)|(apply zV;(iterate 8 exact rfl);exact(eV);exact(rfl);exact(eV);exact rfl;exact rfl)|refine ym ?_ (ht:=rfl)|refine yp ?_ (ht:=rfl)|refine ak ?_ (ht:=rfl)|refine ak ?_|refine ai ?_|refine yt ?_ ?_|refine yo ?_|apply zn|refine yc ?_|exact rfl|intro _)
   refine ih (E.set i (SL x),left,outs++[⟨nR outs x.Key x.eo,x⟩]) aF ?_ _ _ ?_
   ·exact hinv.next hx (by rw[mS,show mQ x=true from rfl];rfl)
   ·rw[bU (by omega)];simp only[bN,aC.ls,kh];rfl
  ·have hie:i=h.aJ.length:=by omega
   have hc:decide ((i:Int)<(es.length:Nat))=false:=by simp only[decide_eq_false_iff_not];omega
   have h2:=hinv.dG;rw[hie,eD]at h2;simp only at h2;have e:kJ (mQ) h={h with aJ:=left,bz:=outs}:=by rw[kJ,<-h2]
   rw[e]
   repeat' (first|refine yy ?_|refine ym ?_|(apply zf;iterate 5 exact rfl)|refine yp ?_|refine ak ?_|refine ai ?_|refine yt ?_ ?_|refine yo ?_|apply zn|refine yc ?_|exact rfl|intro _)
   refine fin rfl ?_
   try simp only[bN]
   try rfl
end Go.Wr

