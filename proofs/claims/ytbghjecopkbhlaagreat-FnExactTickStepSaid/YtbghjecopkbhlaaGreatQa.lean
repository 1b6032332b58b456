/-
  What is proved: lemmas for the laws. No condition.
-/
import Derived.Test.YtbghjecopkbhlaaGreatMa
import Derived.Test.YtbghjecopkbhlaaGreatTa
import Derived.Test.YtbghjecopkbhlaaGreatRd
set_option linter.unusedVariables false
set_option linter.unusedSimpArgs false
namespace Go.Wr
set_option maxRecDepth 20000
theorem pI (x lo hi:Int):gF [.x (iT x),.x (iT lo),.x (iT hi)]=some ⟨[.one (.b (bq x lo hi))],[]⟩:=by
 (refine aP rfl ?_;show Ev acT.code _ _ _)
 repeat' (first|refine yy ?_|refine ym ?_|(apply ze;iterate 5 exact rfl)|refine yp ?_|refine yo ?_|apply zn|refine yc ?_|exact rfl|intro _)
 exact fin rfl rfl
theorem oV (x lo hi:Int):gj [.x (iT x),.x (iT lo),.x (iT hi)]=some ⟨[.one (.b (bq x lo hi))],[]⟩:=by
 (refine aP rfl ?_;show Ev abU.code _ _ _)
 repeat' (first|refine yy ?_|refine ym ?_|(apply ze;iterate 5 exact rfl)|refine yp ?_|refine yo ?_|apply zn|refine yc ?_|exact rfl|intro _)
 exact fin rfl rfl
theorem T7 (a s:Int):yB [.x (iT a),.x (iT s)]=some ⟨[.one (iT (nI a s))],[]⟩:=by
 (refine aP rfl ?_;show Ev abV.code _ _ _)
 repeat' (first|refine yy ?_|refine ym ?_|(apply zf;iterate 5 exact rfl)|refine yp ?_|refine yk eL (oV _ _ _) ?_|refine ak ?_|refine ai ?_|refine yt ?_ ?_|refine yo ?_|apply zn|refine yc ?_|exact rfl|intro _)
 all_goals (refine fin rfl ?_;rename_i h)
 ·simp[nI]at h⊢;rcases h with h|h<;>simp[h]
 ·simp at h;have h1:=h.1;have h2:=h.2;simp only[bq,Y8,decide_eq_true_eq]at h1 h2;rw[nI,h.1,h.2,dQ (n:=100*a) (by omega),dQ (by omega)];rfl
theorem Hd (a b:Int):wx [.x (iT a),.x (iT b)]=some ⟨[.one (iT (max a b))],[]⟩:=by
 (refine aP rfl ?_;show Ev acZ.code _ _ _)
 repeat' (first|refine ak ?_|refine ai ?_|refine yt ?_ ?_|refine yo ?_|apply zn|refine yc ?_|intro _)
 all_goals (refine fin rfl ?_;rename_i h;simp at h;simp;omega)
theorem qG (a b:Int):sW [.x (iT a),.x (iT b)]=some ⟨[.one (iT (min a b))],[]⟩:=by
 (refine aP rfl ?_;show Ev ac0.code _ _ _)
 repeat' (first|refine ak ?_|refine ai ?_|refine yt ?_ ?_|refine yo ?_|apply zn|refine yc ?_|intro _)
 all_goals (refine fin rfl ?_;rename_i h;simp at h;simp;omega)
theorem afA (b:Bool):HK [.x (.b b)]=some ⟨[.one (iT (if b then 1 else 0))],[]⟩:=by
 (refine aP rfl ?_;show Ev adg.code _ _ _)
 repeat' (first|refine ak ?_|refine ai ?_|refine yt ?_ ?_|refine yo ?_|apply zn|refine yc ?_|intro _)
 all_goals (refine fin rfl ?_;rename_i h;subst h;rfl)
theorem asD (n:Int):M1 [.x (iT n)]=some ⟨[.one (.b (bq n 0 2))],[]⟩:=by
 (refine aP rfl ?_;show Ev adb.code _ _ _)
 repeat' (first|refine yk eS (pI _ _ _) ?_|refine yo ?_|apply zn|refine yc ?_|intro _)
 exact fin rfl rfl
theorem asA (k w:Int):MX [.x (iT k),.x (iT w)]=some ⟨[.one (.b (bq k 0 4&&bq w 0 20))],[]⟩:=by
 (refine aP rfl ?_;show Ev ac2.code _ _ _)
 repeat' (first|refine yy ?_|refine ym ?_|(apply ze;iterate 5 exact rfl)|refine yp ?_|refine yk eS (pI _ _ _) ?_|refine yo ?_|apply zn|refine yc ?_|exact rfl|intro _)
 exact fin rfl rfl
theorem we (l:List Int) (lo hi:Int) (hl:l.length<=4194304):ux [.x (ints .n l),.x (iT lo),.x (iT hi)]=some ⟨[.one (.b (ie l lo hi))],[]⟩:=by
 (refine aP rfl ?_;show Ev acU.code _ _ _)
 repeat' (first|refine ak ?_|refine ai ?_|refine yt ?_ ?_|refine yo ?_|apply zn|refine yc ?_|intro _)
 ·refine fin rfl ?_;rename_i h;have:l.length≠3:=by simp at h;omega
  simp[ie,this]
 ·have h3:l.length=3:=by rename_i h;simp at h;omega
  show Ev _ _ _ _;refine cF iT l (fun i (_:Unit)=>[(0,.x (ints .n l)),(1,.x (iT lo)),(2,.x (iT hi)),(7,.x (iT i))]) (fun i _=>(l.take i).all (bq · lo hi)=true) () (by simp) rfl ?_ ?_
  ·intro i _ x hx aF hc _ hinv ih
   repeat' (first|refine yi (iT x) (bH hx) ?_|refine yk eS (pI x lo hi) ?_|refine ak ?_|refine ai ?_|refine yt ?_ ?_|refine yo ?_|apply zn|refine yc ?_|intro _)
   ·refine fin rfl ?_;have:bq x lo hi=false:=by simp_all
    simp[ie,np (p:=(bq · lo hi)) hx this]
   ·refine ih () (nq (p:=(bq · lo hi)) hinv hx (by simp_all)) _ _ ?_;rw[<-bU (by omega)];rfl
  ·intro _ hc _ hinv
   repeat' (first|refine ak ?_|refine ai ?_|refine yt ?_ ?_|refine yo ?_|apply zn|refine yc ?_|intro _)
   refine fin rfl ?_;simp[ie,nr hinv,h3]
theorem LQ (l:List Int) (n lo hi:Int) (hl:l.length<=4194304):wB [.x (ints .n l),.x (iT n),.x (iT lo),.x (iT hi)]=some ⟨[.one (.b (decide ((l.length:Int)=n)&&l.all (bq · lo hi)))],[]⟩:=by
 (refine aP rfl ?_;show Ev aem.code _ _ _)
 repeat' (first|refine ak ?_|refine ai ?_|refine yt ?_ ?_|refine yo ?_|apply zn|refine yc ?_|intro _)
 show Ev _ _ _ _;refine cF iT l (fun i (_:Unit)=>[(0,.x (ints .n l)),(1,.x (iT n)),(2,.x (iT lo)),(3,.x (iT hi)),(11,.x (ints .n l)),(12,.x (iT l.length)),(13,.x (iT i))]) (fun i _=>(l.take i).all (bq · lo hi)=true) () (by simp) (by rw[<-cL iT];rfl) ?_ ?_
 ·intro i _ x hx aF _ hc hinv ih
  repeat' (first|refine yi (iT x) (bH hx) ?_|refine yk eL (oV x lo hi) ?_|refine ak ?_|refine ai ?_|refine yt ?_ ?_|refine yo ?_|apply zn|refine yc ?_|intro _)
  ·refine fin rfl ?_;have:bq x lo hi=false:=by simp_all
   rw[np (p:=(bq · lo hi)) hx this];simp
  ·refine ih () (nq (p:=(bq · lo hi)) hinv hx (by simp_all)) _ _ ?_;rw[<-bU (by omega)];rfl
 ·intro _ _ hc hinv
  repeat' (first|refine ak ?_|refine ai ?_|refine yt ?_ ?_|refine yo ?_|apply zn|refine yc ?_|intro _)
  refine fin rfl ?_;rw[nr hinv,cL];simp[BEq.beq]
theorem asw (c:bR) (hl:c.dX.length<=4194304):HH [.st (c.cs .n)]=some ⟨[.one (.b c.ok)],[]⟩:=by
 (refine aP rfl ?_;show Ev acV.code _ _ _)
 repeat' (first|refine yy ?_|refine ym ?_|(apply ze;iterate 5 exact rfl)|refine yp ?_|refine yk eS (pI _ _ _) ?_|refine yk lM (we c.dX _ _ hl) ?_|refine yo ?_|apply zn|refine yc ?_|exact rfl|intro _)
 exact fin rfl rfl
theorem atu (c:bR) (hl:c.dX.length<=4194304):H3 [.st (c.cs .n)]=some ⟨[.one (.b c.ok)],[]⟩:=by
 have e:decide ((c.dX.length:Int)=3)=decide (c.dX.length=3):=by rw[ma];simp;omega
 (refine aP rfl ?_;show Ev aen.code _ _ _)
 repeat' (first|refine yy ?_|refine ym ?_|(apply ze;iterate 5 exact rfl)|refine yp ?_|refine yk eL (oV _ _ _) ?_|refine yk vk (LQ c.dX _ _ _ hl) ?_|refine yo ?_|apply zn|refine yc ?_|exact rfl|intro _)
 refine fin rfl ?_;rw[e];rfl
theorem Bk (s:List af) (hl:s.length<=4194304):uy [.x (af.ls .n s)]=some ⟨[.one (.b (fB s))],[]⟩:=by
 (refine aP rfl ?_;show Ev adZ.code _ _ _)
 repeat' (first|refine yy ?_|refine ym ?_|(apply ze;iterate 5 exact rfl)|(apply zf;iterate 5 exact rfl)|refine yp ?_|refine ak ?_|refine ai ?_|refine yt ?_ ?_|refine yo ?_|apply zn|refine yc ?_|exact rfl|intro _)
 show Ev _ _ _ _;refine cF (af.el .n) s (fun i (_:Unit)=>[(0,.x (af.ls .n s)),(5,.x (af.ls .n s)),(6,.x (iT s.length)),(7,.x (iT i))]) (fun i _=>∀j,j<i->nL s j=true) () (by omega) (by rw[<-cL (af.el .n)];rfl) ?_ ?_
 ·intro i _ x hx aF _ hc hinv ih;cases i with
  |zero=>
   have h0:decide (((0:Nat):Int)>0)= !true:=rfl
   repeat' (first|refine yy ?_|refine ym ?_|(apply ze;iterate 5 exact rfl)|(apply zf;iterate 5 exact rfl)|refine yp ?_|refine yi (af.el .n x) (bH hx) ?_|refine yk eL (oV _ _ _) ?_|refine ak ?_|refine ai ?_|refine yt ?_ ?_|refine yo ?_|apply zn|refine yc ?_|exact rfl|intro _)
   ·refine fin rfl ?_;rename_i h;have:nL s 0=false:=by rw[Je hx];revert h;cases bq x.Lo 0 9999<;>cases bq x.Hi x.Lo 9999<;>simp
    simp[fB,Zn aF this]
   ·rename_i h;refine ih () (mP hinv ?_) _ _ ?_
    ·rw[Je hx];revert h;cases bq x.Lo 0 9999<;>cases bq x.Hi x.Lo 9999<;>simp
    ·rw[<-bU (by omega)];rfl
  |succ k=>
   have hp:=bF (show k<s.length by omega);generalize s[k]'(by omega)=p at hp;have hb:=Xj hp (hinv k (by omega));have hw:IntKind.i64.wrap (p.Hi+1)=p.Hi+1:=dQ (by omega);have hk:=JS (k:=k) (by omega);have kM:0<=IntKind.i64.wrap (((k+1:Nat):Int)-1):=by rw[hk];omega
   have mX:(s.map (af.el .n))[(IntKind.i64.wrap (((k+1:Nat):Int)-1)).toNat]?=some (af.el .n p):=by rw[hk];exact bH hp
   repeat' (first|refine yy ?_|refine ym ?_|(apply ze;iterate 5 exact rfl)|(apply zf;iterate 5 exact rfl)|refine yp ?_|refine yi (af.el .n x) (bH hx) ?_|refine yj (af.el .n p) (kM) (mX) ?_|refine yk eL (oV _ _ _) ?_|refine ak ?_|refine ai ?_|refine yt ?_ ?_|refine yo ?_|apply zn|refine yc ?_|exact rfl|intro _)
   ·refine fin rfl ?_;rename_i h;rw[hw]at h;have:nL s (k+1)=false:=by rw[Jd hx hp];revert h;cases bq x.Lo 0 9999<;>cases bq x.Hi x.Lo 9999<;>simp
    simp[fB,Zn aF this]
   ·rename_i h;rw[hw]at h;refine ih () (mP hinv ?_) _ _ ?_
    ·rw[Jd hx hp];revert h;cases bq x.Lo 0 9999<;>cases bq x.Hi x.Lo 9999<;>simp<;>omega
    ·rw[<-bU (i:=k+1) (by omega)];rfl
 ·intro _ _ hc hinv
  repeat' (first|refine yy ?_|refine ym ?_|(apply ze;iterate 5 exact rfl)|(apply zf;iterate 5 exact rfl)|refine yp ?_|refine ak ?_|refine ai ?_|refine yt ?_ ?_|refine yo ?_|apply zn|refine yc ?_|exact rfl|intro _)
  refine fin rfl ?_;simp[fB,Zo hinv]
theorem Hc (s:List af) (hl:s.length<=4194304):yG [.x (af.ls .n s)]=some ⟨[.one (.b (fB s))],[]⟩:=by
 (refine aP rfl ?_;show Ev acW.code _ _ _)
 repeat' (first|refine yy ?_|refine ym ?_|(apply ze;iterate 5 exact rfl)|(apply zf;iterate 5 exact rfl)|refine yp ?_|refine ak ?_|refine ai ?_|refine yt ?_ ?_|refine yo ?_|apply zn|refine yc ?_|exact rfl|intro _)
 show Ev _ _ _ _;refine cF (af.el .n) s (fun i (_:Unit)=>[(0,.x (af.ls .n s)),(3,.x (iT i))]) (fun i _=>∀j,j<i->nL s j=true) () (by omega) rfl ?_ ?_
 ·intro i _ x hx aF hc _ hinv ih;cases i with
  |zero=>
   have h0:decide (((0:Nat):Int)>0)= !true:=rfl
   repeat' (first|refine yy ?_|refine ym ?_|(apply ze;iterate 5 exact rfl)|(apply zf;iterate 5 exact rfl)|refine yp ?_|refine yi (af.el .n x) (bH hx) ?_|refine yk eS (pI _ _ _) ?_|refine ak ?_|refine ai ?_|refine yt ?_ ?_|refine yo ?_|apply zn|refine yc ?_|exact rfl|intro _)
   ·refine fin rfl ?_;rename_i h;have:nL s 0=false:=by rw[Je hx];revert h;cases bq x.Lo 0 9999<;>cases bq x.Hi x.Lo 9999<;>simp
    simp[fB,Zn aF this]
   ·rename_i h;refine ih () (mP hinv ?_) _ _ ?_
    ·rw[Je hx];revert h;cases bq x.Lo 0 9999<;>cases bq x.Hi x.Lo 9999<;>simp
    ·rw[<-bU (by omega)];rfl
  |succ k=>
   have hp:=bF (show k<s.length by omega);generalize s[k]'(by omega)=p at hp;have hb:=Xj hp (hinv k (by omega));have hw:IntKind.i64.wrap (p.Hi+1)=p.Hi+1:=dQ (by omega);have hk:=JS (k:=k) (by omega);have kM:0<=IntKind.i64.wrap (((k+1:Nat):Int)-1):=by rw[hk];omega
   have mX:(s.map (af.el .n))[(IntKind.i64.wrap (((k+1:Nat):Int)-1)).toNat]?=some (af.el .n p):=by rw[hk];exact bH hp
   repeat' (first|refine yy ?_|refine ym ?_|(apply ze;iterate 5 exact rfl)|(apply zf;iterate 5 exact rfl)|refine yp ?_|refine yi (af.el .n x) (bH hx) ?_|refine yj (af.el .n p) (kM) (mX) ?_|refine yk eS (pI _ _ _) ?_|refine ak ?_|refine ai ?_|refine yt ?_ ?_|refine yo ?_|apply zn|refine yc ?_|exact rfl|intro _)
   ·refine fin rfl ?_;rename_i h;rw[hw]at h;have:nL s (k+1)=false:=by rw[Jd hx hp];revert h;cases bq x.Lo 0 9999<;>cases bq x.Hi x.Lo 9999<;>simp
    simp[fB,Zn aF this]
   ·rename_i h;rw[hw]at h;refine ih () (mP hinv ?_) _ _ ?_
    ·rw[Jd hx hp];revert h;cases bq x.Lo 0 9999<;>cases bq x.Hi x.Lo 9999<;>simp<;>omega
    ·rw[<-bU (i:=k+1) (by omega)];rfl
 ·intro _ hc _ hinv
  repeat' (first|refine yy ?_|refine ym ?_|(apply ze;iterate 5 exact rfl)|(apply zf;iterate 5 exact rfl)|refine yp ?_|refine ak ?_|refine ai ?_|refine yt ?_ ?_|refine yo ?_|apply zn|refine yc ?_|exact rfl|intro _)
  refine fin rfl ?_;simp[fB,Zo hinv]
theorem DA (l:List Int) (hl:l.length<=4194304):wz [.x (ints .n l)]=some ⟨[.one (ints .y l)],[]⟩:=by
 (refine aP rfl ?_;show Ev aee.code _ _ _)
 repeat' (first|(apply za;(iterate 3 exact rfl);exact(uH hl);exact(rV (fun _=>rfl) _);exact rfl;exact rfl)|refine yo ?_|apply zn|refine yc ?_|intro _)
 exact fin rfl rfl
theorem LP (l:List af) (hl:l.length<=4194304):BG [.x (af.ls .n l)]=some ⟨[.one (af.ls .y l)],[]⟩:=by
 (refine aP rfl ?_;show Ev aej.code _ _ _)
 repeat' (first|(apply za;(iterate 3 exact rfl);exact(uH hl);exact(rV (fun _=>rfl) _);exact rfl;exact rfl)|refine yo ?_|apply zn|refine yc ?_|intro _)
 exact fin rfl rfl
theorem Ub (l:List af) (hl:l.length<=4194304):DS [.x (af.ls .n l)]=some ⟨[.one (af.ls .y l)],[]⟩:=by
 (refine aP rfl ?_;show Ev ac5.code _ _ _)
 repeat' (first|(apply za;(iterate 3 exact rfl);exact(uH hl);exact(rV (fun _=>rfl) _);exact rfl;exact rfl)|refine yo ?_|apply zn|refine yc ?_|intro _)
 exact fin rfl rfl
theorem LJ (l:List Int) (m qD:Int) (z:Bool) (hl:l.length<=4194304):Bx [.x (ints .n l),.x (iT m),.x (iT qD),.x (.b z)]=some ⟨[.one (.b (decide ((l.length:Int)=m)&&l.all fun x=>bq x 0 qD&& !(z&&x !=0)))],[]⟩:=by
 by_cases hm:(l.length:Int)=m
 ·subst hm;have h0:(((l.map iT).length:Int)!=l.length)=false:=by simp
  (refine aP rfl ?_;show Ev Ts.code _ _ _)
  repeat' (first|refine yy ?_|refine ym ?_|(apply ze;iterate 5 exact rfl)|(apply zf;iterate 5 exact rfl)|refine yp ?_|refine ak ?_|refine ai ?_|refine yt ?_ ?_|refine yo ?_|apply zn|refine yc ?_|exact rfl|intro _)
  show Ev _ _ _ _;refine cF iT l (fun i (_:Unit)=>[(0,.x (ints .n l)),(1,.x (iT l.length)),(2,.x (iT qD)),(3,.x (.b z)),(9,.x (iT i))]) (fun i _=>(l.take i).all (fun x=>bq x 0 qD&& !(z&&x !=0))=true) () (by simp) rfl ?_ ?_
  ·intro i _ x hx aF _ hc hinv ih
   repeat' (first|refine yy ?_|refine ym ?_|(apply ze;iterate 5 exact rfl)|(apply zf;iterate 5 exact rfl)|refine yp ?_|refine yi (iT x) (bH hx) ?_|refine yk eS (pI _ _ _) ?_|refine ak ?_|refine ai ?_|refine yt ?_ ?_|refine yo ?_|apply zn|refine yc ?_|exact rfl|intro _)
   ·refine fin rfl ?_;rename_i h;have:(bq x 0 qD&& !(z&&x !=0))=false:=by revert h;cases bq x 0 qD<;>cases z<;>simp
    rw[np (p:=fun x=>bq x 0 qD&& !(z&&x !=0)) hx this];simp
   ·rename_i h;refine ih () (nq (p:=fun x=>bq x 0 qD&& !(z&&x !=0)) hinv hx (by revert h;cases bq x 0 qD<;>cases z<;>simp)) _ _ ?_;rw[<-bU (by omega)];rfl
  ·intro _ _ hc hinv
   repeat' (first|refine yy ?_|refine ym ?_|(apply ze;iterate 5 exact rfl)|(apply zf;iterate 5 exact rfl)|refine yp ?_|refine ak ?_|refine ai ?_|refine yt ?_ ?_|refine yo ?_|apply zn|refine yc ?_|exact rfl|intro _)
   refine fin rfl ?_;rw[nr hinv];simp
 ·have h0:(((l.map iT).length:Int)!=m)=true:=by simpa using hm
  (refine aP rfl ?_;show Ev Ts.code _ _ _)
  repeat' (first|refine yy ?_|refine ym ?_|(apply ze;iterate 5 exact rfl)|(apply zf;iterate 5 exact rfl)|refine yp ?_|refine ak ?_|refine ai ?_|refine yt ?_ ?_|refine yo ?_|apply zn|refine yc ?_|exact rfl|intro _)
  refine fin rfl ?_;simp[hm]
theorem asz (x:bm) (hl:x.al<=4194304):MW [.st (x.cs .n)]=some ⟨[.one (.b x.ok)],[]⟩:=by
 obtain⟨c,s,mn,mx,hi,re,ro⟩:=x;simp only[bm.al]at hl;by_cases h2:ro.length=2
 ·obtain⟨r0,r1,rfl⟩:∃r0 r1,ro=[r0,r1]:=by
   match ro,h2 with
   |[r0,r1],_=>exact⟨r0,r1,rfl⟩
  have b0:r0.length<=4194304:=by simp[aS]at hl;omega
  have b1:r1.length<=4194304:=by simp[aS]at hl;omega
  (refine aP rfl ?_;show Ev Tt.code _ _ _)
  repeat' (first|refine yy ?_|refine ym ?_|(apply ze;iterate 5 exact rfl)|(apply zf;iterate 5 exact rfl)|refine yp ?_|refine yk eS (pI _ _ _) ?_|(apply zk ve;exact rfl;exact rfl;exact(LJ hi _ _ _ (by omega));iterate 3 exact rfl)|(apply zk ve;exact rfl;exact rfl;exact(LJ re _ _ _ (by omega));iterate 3 exact rfl)|refine yk ve (LJ r0 _ _ _ b0) ?_|refine yk ve (LJ r1 _ _ _ b1) ?_|refine ak ?_|refine ai ?_|refine yt ?_ ?_|refine yo ?_|apply zn|refine yc ?_|exact rfl|intro _)
  all_goals (refine fin rfl (du ?_);simp only[bm.ok,xT,iN,nV,s6,lB])
  all_goals grind
 ·(refine aP rfl ?_;show Ev Tt.code _ _ _)
  repeat' (first|refine yy ?_|refine ym ?_|(apply ze;iterate 5 exact rfl)|(apply zf;iterate 5 exact rfl)|refine yp ?_|refine yk eS (pI _ _ _) ?_|refine ak ?_|refine ai ?_|refine yt ?_ ?_|refine yo ?_|apply zn|refine yc ?_|exact rfl|intro _)
  all_goals first|(refine fin rfl (du ?_);simp[bm.ok,h2];done)|(exfalso;rename_i h _;simp at h;omega)
theorem afM (x:bm) (hl:x.al<=4194304):H0 [.st (x.cs .n)]=some ⟨[.one (ints .y (x.ca++x.bX++x.Rows.flatten))],[]⟩:=by
 simp only[bm.al]at hl;have hr:=dA List.length x.Rows;have aby:∀i,x.ca.length+x.bX.length+(x.Rows.take i).flatten.length<=4194304:=fun i=>by
  have:=w8 (f:=List.length) (l:=x.Rows) (i:=i);simp only[pre,<-List.length_flatten]at this;omega
 (refine aP rfl ?_;show Ev aef.code _ _ _)
 repeat' (first|refine yk qn (DA x.ca (by omega)) ?_|(apply za;(iterate 3 exact rfl);exact(UW (by omega));exact(rV (fun _=>rfl) _);exact rfl;exact rfl)|refine ak ?_|refine ai ?_|refine yt ?_ ?_|refine yo ?_|apply zn|refine yc ?_|intro _)
 show Ev _ _ _ _;refine cF (ints .n) x.Rows (fun i (es:List T)=>[(1,.box ⟨0,0,0⟩ (x.cs .n)),(3,.own ⟨0,0,0⟩ (.l .y 1 es)),(13,.x (kg.lss .n x.Rows)),(14,.x (iT x.Rows.length)),(15,.x (iT i))]) (fun i es=>es=(x.ca++x.bX++(x.Rows.take i).flatten).map iT) (x.ca.map iT++x.bX.map iT) (by simp) (by rw[<-cL (ints .n)];rfl) ?_ ?_
 ·intro i es y hx aF _ hc hinv ih;have h5:es.length+(y.map iT).length<cQ:=by
   have:=aby (i+1);rw[mb,hx]at this;have h6:es.length=(x.ca++x.bX++(x.Rows.take i).flatten).length:=by rw[hinv,cL]
   simp only[jR,Option.toList_some,List.flatten_append,pd,List.flatten_nil,nW]at this h6;rw[cL];unfold cQ;omega
  repeat' (first|refine yi (ints .n y) (bH hx) ?_|(apply zv;(iterate 7 exact rfl);exact(h5);exact(rV (fun _=>rfl) _);exact rfl;exact rfl)|refine ak ?_|refine ai ?_|refine yt ?_ ?_|refine yo ?_|apply zn|refine yc ?_|intro _)
  refine ih (es++y.map iT) ?_ _ _ ?_
  ·rw[hinv,mb,hx];simp
  ·rw[<-bU (by omega)];rfl
 ·intro es _ hc hinv
  repeat' (first|refine ak ?_|refine ai ?_|refine yt ?_ ?_|refine yo ?_|apply zn|refine yc ?_|intro _)
  refine fin rfl ?_;simp only[bN,hinv,eD]
theorem JL:∀{l:List Int},l.all (bq · 0 1000000000)=true->0<=l.sum/\l.sum<=1000000000*l.length/\(l.sum=0<->∀x∈l,x=0)
 |[],_=>by simp
 |x::l,h=>by
  simp only[nV,Y8,bq,decide_eq_true_eq]at h;obtain⟨h1,h2,h3⟩:=JL (l:=l) h.2;refine⟨?_,?_,?_⟩
  ·simp only[im];omega
  ·simp only[im,dH];omega
  ·simp only[im,iG,forall_eq_or_imp,<-h3];omega
theorem Zpe {c s mn mx:Int}{hi re r0 r1:List Int} (h8:hi.length=8) (RW:re.length=8) (h4:r0.length=4) (RU:r1.length=4):
  (bm.mk c s mn mx hi re [r0,r1]).ok=((hi++re++[r0,r1].flatten++[c,s,mn,mx]).all (bq · 0 1000000000)&&re.all (fun n=> !decide (n>17))&&bif c==0 then(hi++re++[r0,r1].flatten++[c,s,mn,mx]).sum==0 else decide (mn<=mx)&&decide (mx<=1000000)):=by
 rw[ma];simp only[bm.ok,xT,h8,RW,h4,RU,nV,s6,lB,pd,List.flatten_nil,nW,List.all_append,Y8,decide_eq_true_eq,bq,eJ,lC,decide_true,true_and];constructor
 ·rintro⟨⟨⟨⟨⟨⟨⟨⟨⟨h1,h2⟩,h3⟩,h4⟩,h5⟩,_⟩,h6⟩,h7⟩,h8⟩,h9,eU⟩;refine⟨⟨⟨⟨⟨fun x hx=>by have:=h7 x hx;omega,fun x hx=>by have:=h8 x hx;omega⟩,fun x hx=>by have:=h9 x hx;omega,fun x hx=>by have:=eU x hx;omega⟩,by omega,by omega,by omega,by omega⟩,fun x hx=>by have:=h8 x hx;simp;omega⟩,?_⟩;by_cases hc:c=0
  ·subst hc;simp only[BEq.rfl,cond_true];have z:∀{l:List Int},(∀x∈l,x=0)->l.sum=0:=fun{l}=>by
    induction l with
    |nil=>simp
    |cons x l ih=>intro h;simp only[iG,forall_eq_or_imp]at h;simp[h.1,ih h.2]
   have q:∀x∈(hi++re++(r0++r1)++[0,s,mn,mx]),x=0:=by
    intro x hx;simp only[kF,iG,List.not_mem_nil,or_false]at hx;simp at h6 h7 h8 h9 eU;rcases hx with((hx|hx)|hx|hx)|hx|hx|hx|hx
    ·exact(h7 x hx).2
    ·exact(h8 x hx).2
    ·exact(h9 x hx).2
    ·exact(eU x hx).2
    ·exact hx
    ·exact hx.trans h6.1
    ·omega
    ·omega
   rw[beq_iff_eq];exact z q
  ·simp[hc];omega
 ·rintro⟨⟨⟨⟨⟨h1,h2⟩,h3,ou⟩,h4,h5,h6,h7⟩,h8⟩,h9⟩;by_cases hc:c=0
  ·subst hc;simp only[BEq.rfl,cond_true,beq_iff_eq]at h9;have ha:(hi++re++(r0++r1)++[0,s,mn,mx]).all (bq · 0 1000000000)=true:=by
    rw[eJ];intro x hx;simp only[bq,Y8,decide_eq_true_eq];simp only[kF,iG,List.not_mem_nil,or_false]at hx;rcases hx with((hx|hx)|hx|hx)|hx|hx|hx|hx
    ·exact h1 x hx
    ·exact h2 x hx
    ·exact h3 x hx
    ·exact ou x hx
    ·exact hx▸h4
    ·exact hx▸h5
    ·exact hx▸h6
    ·exact hx▸h7
   have hz:=(JL ha).2.2.1 h9;have hs:=hz s (by simp);have hmn:=hz mn (by simp);have vK:=hz mx (by simp);subst hs hmn vK;have zz:∀{x:Int},x∈hi++re++(r0++r1)++[0,0,0,0]->x=0:=fun{x}=>hz x;refine⟨⟨⟨⟨⟨⟨⟨⟨⟨by omega,by omega⟩,by omega⟩,by omega⟩,by omega⟩,rfl⟩,by simp⟩,fun x hx=>?_⟩,fun x hx=>?_⟩,fun x hx=>?_,fun x hx=>?_⟩<;>
    (have:=zz (x:=x) (by simp[hx]);subst this;simp)
  ·have h9:mn<=mx/\mx<=1000000:=by simpa[hc]using h9
   refine⟨⟨⟨⟨⟨⟨⟨⟨⟨by omega,by omega⟩,by omega⟩,by omega⟩,by omega⟩,rfl⟩,by simp[hc]⟩,fun x hx=>?_⟩,fun x hx=>?_⟩,fun x hx=>?_,fun x hx=>?_⟩
   ·have:=h1 x hx;simp[hc];omega
   ·have:=h2 x hx;have:=h8 x hx;simp[hc]at this⊢;omega
   ·have:=h3 x hx;simp[hc];omega
   ·have:=ou x hx;simp[hc];omega
theorem Ul (x:bm) (hl:x.al<=4000000):D4 [.st (x.cs .n)]=some ⟨[.one (.b x.ok)],[]⟩:=by
 have tW:=hl;simp only[bm.al]at hl;by_cases h2:x.Rows.length=2
 ·obtain⟨r0,r1,hr⟩:∃r0 r1,x.Rows=[r0,r1]:=by
   match hx:x.Rows,h2 with
   |[r0,r1],_=>exact⟨r0,r1,rfl⟩
  obtain⟨c,s,mn,mx,hi,re,ro⟩:=x;simp only at hr;subst hr;simp[aS]at hl;have ha:(hi++re++[r0,r1].flatten).length<=4194304:=by simp;omega
  (refine aP rfl ?_;show Ev TG.code _ _ _)
  repeat' (first|refine yy ?_|refine ym ?_|(apply ze;iterate 5 exact rfl)|(apply zf;iterate 5 exact rfl)|refine yp ?_|(apply zk F0;exact rfl;exact rfl;exact(afM _ (eQ tW (by omega)));iterate 3 exact rfl)|(apply za;(iterate 3 exact rfl);exact(FO ha);exact(rfl);exact rfl;exact rfl)|refine ak ?_|refine ai ?_|refine yt ?_ ?_|refine yo ?_|apply zn|refine yc ?_|exact rfl|intro _)
  ·refine fin rfl (du ?_);rename_i h;have:¬(hi.length=8/\re.length=8/\r0.length=4/\r1.length=4):=by
    simp at h;omega
   rw[eq_comm,yR];intro h;apply this;simp only[bm.ok,xT,nV,s6,Y8,decide_eq_true_eq]at h;exact⟨h.1.1.2.1,h.1.2.1,h.2.1.1,h.2.2.1.1⟩
  ·rename_i h;simp at h;have h8:hi.length=8:=by omega
   have RW:re.length=8:=by omega
   have h4:r0.length=4:=by omega
   have RU:r1.length=4:=by omega
   rw[Zpe h8 RW h4 RU];obtain⟨cs,fX⟩:∃cs,cs=hi++re++[r0,r1].flatten++[c,s,mn,mx]:=⟨_,rfl⟩
   have hm:cs.map iT=(hi++re++[r0,r1].flatten).map iT++[iT c,iT s,iT mn,iT mx]:=by rw[fX,kh];rfl
   have dV:cs.length<=4194308:=by rw[fX,jR];simp at ha⊢;omega
   rw[<-fX];refine cF iT cs (fun i (sum:Int)=>[(1,.box ⟨0,0,0⟩ (bm.cs .n (bm.mk c s mn mx hi re [r0,r1]))),(3,.x (iT sum)),(51,.own ⟨0,0,0⟩ (.l .y 1 (cs.map iT))),(52,.x (iT (cs.map iT).length)),(53,.x (iT i))]) (fun i sum=>(cs.take i).all (bq · 0 1000000000)=true/\sum=(cs.take i).sum) 0 (by simp) (by rw[hm];rfl) ?_ ?_
   ·rintro i sum x hx aF hc _ ⟨hinv,rfl⟩ ih
    repeat' (first|refine yy ?_|refine ym ?_|(apply ze;iterate 5 exact rfl)|(apply zf;iterate 5 exact rfl)|refine yp ?_|refine yx (qV aF) ?_|refine yl (iT x) (EJ (bH hx)) ?_|refine yk eL (oV _ _ _) ?_|refine ak ?_|refine ai ?_|refine yt ?_ ?_|refine yo ?_|apply zn|refine yc ?_|exact rfl|intro _)
    ·refine fin rfl (du ?_);have:bq x 0 1000000000=false:=by simp_all
     rw[np (p:=(bq · 0 1000000000)) hx this];rfl
    ·have Dl:bq x 0 1000000000=true:=by simp_all
     have h5:=(JL hinv).1;have h6:=(JL hinv).2.1;have h7:=Dl;simp only[bq,Y8,decide_eq_true_eq]at h7;have h8:(cs.take i).length<=4194308:=by rw[fU];omega
     refine ih _ ⟨nq (p:=(bq · 0 1000000000)) hinv hx Dl,rfl⟩ _ _ ?_;rw[dQ (n:=(cs.take i).sum+x) (by omega),bU (by omega),Zqy hx];rfl
   ·rintro sum hc _ ⟨hinv,rfl⟩;rw[nr hinv,eD]
    repeat' (first|refine yy ?_|refine ym ?_|(apply ze;iterate 5 exact rfl)|(apply zf;iterate 5 exact rfl)|refine yp ?_|refine ak ?_|refine ai ?_|refine yt ?_ ?_|refine yo ?_|apply zn|refine yc ?_|exact rfl|intro _)
    refine cF iT re (fun i (_:Unit)=>[(1,.box ⟨0,0,0⟩ (bm.cs .n (bm.mk c s mn mx hi re [r0,r1]))),(3,.x (iT cs.sum)),(65,.x (ints .n re)),(66,.x (iT re.length)),(67,.x (iT i))]) (fun i _=>(re.take i).all (fun n=> !decide (n>17))=true) () (by simp) (by rw[<-cL iT];rfl) ?_ ?_
    ·intro i _ x hx aF _ hc hinv ih
     repeat' (first|refine yy ?_|refine ym ?_|(apply ze;iterate 5 exact rfl)|(apply zf;iterate 5 exact rfl)|refine yp ?_|refine yi (iT x) (bH hx) ?_|refine ak ?_|refine ai ?_|refine yt ?_ ?_|refine yo ?_|apply zn|refine yc ?_|exact rfl|intro _)
     ·refine fin rfl (du ?_);rw[np (p:=fun n=> !decide (n>17)) hx (by simp_all)];rfl
     ·refine ih () (nq (p:=fun n=> !decide (n>17)) hinv hx (by simp_all)) _ _ ?_;rw[<-bU (i:=i) (by omega)];rfl
    ·intro _ _ hc hinv;rw[nr hinv]
     repeat' (first|refine yy ?_|refine ym ?_|(apply ze;iterate 5 exact rfl)|(apply zf;iterate 5 exact rfl)|refine yp ?_|refine ak ?_|refine ai ?_|refine yt ?_ ?_|refine yo ?_|apply zn|refine yc ?_|exact rfl|intro _)
     ·refine fin rfl (du ?_);rename_i h;have sy:c=0:=by simpa using h
      subst sy;rfl
     ·refine fin rfl (du ?_);rename_i h;rw[show(c==0)=false from h];rfl
 ·have h0:((((x.ca.map iT).length:Int)!=8||((x.bX.map iT).length:Int)!=8)||((x.Rows.map (ints .n)).length:Int)!=2)= !false:=by
   have:((x.Rows.length:Int)!=2)=true:=by simp;omega
   rw[cL (ints .n),this];simp
  have h1:true= !false:=rfl;have h4:true=true:=rfl;have h3:(((((x.ca.map iT).length:Int)!=8||((x.bX.map iT).length:Int)!=8)||((x.Rows.map (ints .n)).length:Int)!=2))=true:=h0
  (refine aP rfl ?_;show Ev TG.code _ _ _)
  repeat' (first|refine yy ?_|refine ym ?_|(apply ze;iterate 5 exact rfl)|(apply zf;iterate 5 exact rfl)|refine yp ?_|refine ak ?_|refine ai ?_|refine yt ?_ ?_|refine yo ?_|apply zn|refine yc ?_|exact rfl|intro _)
  refine fin rfl (du ?_);simp[bm.ok,h2]
theorem DB (e:aa) (hl:e.al<=4000000):wA [.st (e.cs .n)]=some ⟨[.one (.b e.ok)],[]⟩:=by
 simp only[aa.al]at hl;have hi:e.aH.length<=4194304:=by omega
 have hs:e.aN.al<=4000000:=by omega
 (refine aP rfl ?_;show Ev aeg.code _ _ _)
 repeat' (first|refine yy ?_|refine ym ?_|(apply ze;iterate 5 exact rfl)|refine yp ?_|refine yk eL (oV _ _ _) ?_|refine yk mT (Bk e.aH hi) ?_|refine yk Ac (Ul e.aN hs) ?_|refine yo ?_|apply zn|refine yc ?_|exact rfl|intro _)
 refine fin rfl (du ?_);have:decide (e.aH≠[])=decide ((e.aH.length:Int)>0):=by rw[ma];simp[BS]
 rw[aa.ok,this,cL]
theorem He (e:aa) (hl:e.al<=4000000):By [.st (e.cs .n)]=some ⟨[.one (.b e.ok)],[]⟩:=by
 simp only[aa.al]at hl;have hi:e.aH.length<=4194304:=by omega
 have hs:e.aN.al<=4194304:=by omega
 (refine aP rfl ?_;show Ev ac3.code _ _ _)
 repeat' (first|refine yy ?_|refine ym ?_|(apply ze;iterate 5 exact rfl)|refine yp ?_|refine yk Q5 (asA _ _) ?_|refine yk sq (Hc e.aH hi) ?_|refine yk Q4 (asz e.aN hs) ?_|refine yo ?_|apply zn|refine yc ?_|exact rfl|intro _)
 refine fin rfl (du ?_);have:decide (e.aH≠[])=decide ((e.aH.length:Int)>0):=by rw[ma];simp[BS]
 rw[aa.ok,this,cL];generalize fB e.aH=a;generalize (bq e.Key 0 4&&bq e.eo 0 20)=b;generalize decide ((e.aH.length:Int)>0)=c;generalize e.aN.ok=d
 revert a b c d;decide
theorem YX {s:List af}{i:Nat}{x:af} (h:s[i]?=some x):gD (s.take (i+1))=gD (s.take i)+(x.Hi-x.Lo+1):=by
 unfold gD;rw[mb,h];simp
theorem JK:∀{s:List af},(∀x∈s,0<=x.Lo/\x.Lo<=x.Hi/\x.Hi<=9999)->0<=gD s/\gD s<=10000*s.length
 |[],_=>by simp[gD]
 |x::s,h=>by
  have h1:=JK (s:=s) fun y hy=>h y (fJ _ hy);have h2:=h x fe;simp only[gD,fc,im,dH]at h1⊢;omega
theorem afP (s:List af) (hl:s.length<=4194304):H4 [.x (af.ls .n s)]=some ⟨[.one (iT (gi s))],[]⟩:=by
 (refine aP rfl ?_;show Ev aep.code _ _ _)
 repeat' (first|refine yk mT (Bk s hl) ?_|refine ak ?_|refine ai ?_|refine yt ?_ ?_|refine yo ?_|apply zn|refine yc ?_|intro _)
 ·refine fin rfl (mC ?_);rename_i h;have:fB s=false:=by simpa using h
  rw[gi,if_neg (by simp[this])]
 ·rename_i h;have bf:fB s=true:=by simpa using h
  have hb:∀x∈s,0<=x.Lo/\x.Lo<=x.Hi/\x.Hi<=9999:=fun x hx=>Cq bf hx;rw[gi,if_pos bf];refine cF (af.el .n) s (fun i (n:Int)=>[(3,.x (iT n)),(9,.x (af.ls .n s)),(10,.x (iT s.length)),(11,.x (iT i))]) (fun i n=>n=gD (s.take i)) 0 (by simp[gD]) (by rw[<-cL (af.el .n)];rfl) ?_ ?_
  ·rintro i n x hx aF _ hc rfl ih;have h2:=JK (s:=s.take i) fun y hy=>hb y (s9 hy);have h3:=hb x (cS hx);rw[fU]at h2;have h4:IntKind.i64.wrap (x.Hi-x.Lo)=x.Hi-x.Lo:=dQ (by omega);have h5:IntKind.i64.wrap (x.Hi-x.Lo+1)=x.Hi-x.Lo+1:=dQ (by omega);have h6:IntKind.i64.wrap (gD (s.take i)+(x.Hi-x.Lo+1))=gD (s.take (i+1)):=by rw[YX hx,dQ (by omega)]
   repeat' (first|refine yi (af.el .n x) (bH hx) ?_|refine ak ?_|refine ai ?_|refine yt ?_ ?_|refine yo ?_|apply zn|refine yc ?_|intro _)
   refine ih _ rfl _ _ ?_;rw[h4,h5,h6,bU (by omega)];rfl
  ·rintro n _ hc rfl;rw[eD]
   repeat' (first|refine ak ?_|refine ai ?_|refine yt ?_ ?_|refine yo ?_|apply zn|refine yc ?_|intro _)
   exact fin rfl rfl
theorem Ud (s:List af) (hl:s.length<=4194304):DV [.x (af.ls .n s)]=some ⟨[.one (iT (gi s))],[]⟩:=by
 (refine aP rfl ?_;show Ev ac8.code _ _ _)
 repeat' (first|refine yk sq (Hc s hl) ?_|refine ak ?_|refine ai ?_|refine yt ?_ ?_|refine yo ?_|apply zn|refine yc ?_|intro _)
 ·refine fin rfl (mC ?_);rename_i h;have:fB s=false:=by simpa using h
  rw[gi,if_neg (by simp[this])]
 ·rename_i h;have bf:fB s=true:=by simpa using h
  have hb:∀x∈s,0<=x.Lo/\x.Lo<=x.Hi/\x.Hi<=9999:=fun x hx=>Cq bf hx;rw[gi,if_pos bf];refine cF (af.el .n) s (fun i (n:Int)=>[(0,.x (af.ls .n s)),(3,.x (iT n)),(4,.x (iT i))]) (fun i n=>n=gD (s.take i)) 0 (by simp[gD]) rfl ?_ ?_
  ·rintro i n x hx aF hc _ rfl ih;have h2:=JK (s:=s.take i) fun y hy=>hb y (s9 hy);have h3:=hb x (cS hx);rw[fU]at h2;have h4:IntKind.i64.wrap (gD (s.take i)+x.Hi)=gD (s.take i)+x.Hi:=dQ (by omega);have h5:IntKind.i64.wrap (gD (s.take i)+x.Hi-x.Lo)=gD (s.take i)+x.Hi-x.Lo:=dQ (by omega);have h6:IntKind.i64.wrap (gD (s.take i)+x.Hi-x.Lo+1)=gD (s.take (i+1)):=by rw[YX hx,dQ (by omega)];omega
   repeat' (first|refine yi (af.el .n x) (bH hx) ?_|refine ak ?_|refine ai ?_|refine yt ?_ ?_|refine yo ?_|apply zn|refine yc ?_|intro _)
   refine ih _ rfl _ _ ?_;rw[h4,h5,h6,bU (by omega)];rfl
  ·rintro n hc _ rfl;rw[eD]
   repeat' (first|refine ak ?_|refine ai ?_|refine yt ?_ ?_|refine yo ?_|apply zn|refine yc ?_|intro _)
   exact fin rfl rfl
theorem asC (s:List af) (m:Int) (hl:s.length<=4194304):MZ [.x (af.ls .n s),.x (iT m)]=some ⟨[.one (.b (mc s 1 m))],[]⟩:=by
 (refine aP rfl ?_;show Ev ac9.code _ _ _)
 repeat' (first|refine yy ?_|refine ym ?_|(apply zf;iterate 5 exact rfl)|refine yp ?_|refine yk sq (Hc s hl) ?_|refine ak ?_|refine ai ?_|refine yt ?_ ?_|refine yo ?_|apply zn|refine yc ?_|exact rfl|intro _)
 ·refine fin rfl (du ?_);rename_i h;have:fB s=false:=by simpa using h
  rw[mc,this];rfl
 ·rename_i h;have bf:fB s=true:=by simpa using h
  rw[mc,bf,pX];refine cF (af.el .n) s (fun i (_:Unit)=>[(0,.x (af.ls .n s)),(1,.x (iT m)),(5,.x (iT i))]) (fun i _=>(s.take i).all (fun x=>decide (1<=x.Lo)&&decide (x.Hi<=m))=true) () (by simp) rfl ?_ ?_
  ·rintro i _ x hx aF hc _ hinv ih
   repeat' (first|refine yy ?_|refine ym ?_|(apply zf;iterate 5 exact rfl)|refine yp ?_|refine yi (af.el .n x) (bH hx) ?_|refine ak ?_|refine ai ?_|refine yt ?_ ?_|refine yo ?_|apply zn|refine yc ?_|exact rfl|intro _)
   ·refine fin rfl (du ?_);rw[np (p:=fun x=>decide (1<=x.Lo)&&decide (x.Hi<=m)) hx];rename_i h;simp at h⊢;omega
   ·refine ih () (nq (p:=fun x=>decide (1<=x.Lo)&&decide (x.Hi<=m)) hinv hx ?_) _ _ ?_
    ·rename_i h;simp at h⊢;omega
    ·rw[bU (by omega)];rfl
  ·rintro _ hc _ hinv;rw[nr hinv]
   repeat' (first|refine yy ?_|refine ym ?_|(apply zf;iterate 5 exact rfl)|refine yp ?_|refine ak ?_|refine ai ?_|refine yt ?_ ?_|refine yo ?_|apply zn|refine yc ?_|exact rfl|intro _)
   exact fin rfl rfl
theorem Zj {s:List af}{lo hi:Int}{a b:af} (bf:fB s=true) (ha:s[0]?=some a) (hb:s[s.length-1]?=some b):mc s lo hi=(decide (a.Lo>=lo)&&decide (b.Hi<=hi)):=by
 have h:=(tD s).1 bf;rw[mc,bf,pX,ma,eJ];simp only[Y8,decide_eq_true_eq];constructor
 ·exact fun h2=>⟨(h2 a (cS ha)).1,(h2 b (cS hb)).2⟩
 ·rintro⟨h1,h2⟩ x hx;obtain⟨i,hi⟩:=gZ.1 hx;have lT:=(bt.1 hi).1;have hp:=qR.1 h.ord;constructor
  ·rcases Nat.eq_zero_or_pos i with rfl|h0
   ·rw[ha]at hi;cases hi;exact h1
   ·have:=hp 0 i (by omega) lT h0;rw[(bt.1 ha).2,(bt.1 hi).2]at this;have h4:=h.lo a (cS ha);omega
  ·rcases js i (s.length-1) with h0|h0
   ·have:=hp i (s.length-1) lT (by omega) h0;rw[(bt.1 hb).2,(bt.1 hi).2]at this;have h4:=h.lo b (cS hb);omega
   ·have:i=s.length-1:=by omega
    subst this;rw[hb]at hi;cases hi;exact h2
theorem afQ (s:List af) (lo hi:Int) (hl:s.length<=4194304):H5 [.x (af.ls .n s),.x (iT lo),.x (iT hi)]=some ⟨[.one (.b (mc s lo hi))],[]⟩:=by
 have rB:=Bk s hl;cases bf:fB s with
 |false=>
  rw[bf]at rB;have h1:false= !true:=rfl;have h2:false=false:=rfl
  (refine aP rfl ?_;show Ev Li.code _ _ _)
  repeat' (first|refine yy ?_|refine ym ?_|(apply ze;iterate 5 exact rfl)|(apply zf;iterate 5 exact rfl)|refine yp ?_|refine yk mT (rB) ?_|refine yo ?_|apply zn|refine yc ?_|exact rfl|intro _)
  refine fin rfl (du ?_);rw[mc,bf];rfl
 |true=>
  rw[bf]at rB;have h1:true=true:=rfl;rcases Nat.eq_zero_or_pos s.length with h0|h0
  ·obtain rfl:=List.eq_nil_of_length_eq_zero h0;have h2:(((([]:List af).map (af.el .n)).length:Int)==0)= !false:=rfl;have h3:(((([]:List af).map (af.el .n)).length:Int)==0)=true:=rfl
   (refine aP rfl ?_;show Ev Li.code _ _ _)
   repeat' (first|refine yy ?_|refine ym ?_|(apply ze;iterate 5 exact rfl)|(apply zf;iterate 5 exact rfl)|refine yp ?_|refine yk mT (rB) ?_|refine yo ?_|apply zn|refine yc ?_|exact rfl|intro _)
   exact fin rfl rfl
  ·have h2:(((s.map (af.el .n)).length:Int)==0)=false:=by
    have:((s.length:Int)==0)=false:=by rw[beq_eq_false_iff_ne];omega
    rwa [cL]
   have ha:=bF (show 0<s.length by omega);have hb:=bF (show s.length-1<s.length by omega);generalize s[0]'_=a at ha;generalize s[s.length-1]'_=b at hb;have hk:IntKind.i64.wrap (((s.map (af.el .n)).length:Int)-1)=((s.length-1:Nat):Int):=by rw[cL,dQ (by omega)];omega
   have kM:0<=IntKind.i64.wrap (((s.map (af.el .n)).length:Int)-1):=by rw[hk];omega
   have mX:(s.map (af.el .n))[(IntKind.i64.wrap (((s.map (af.el .n)).length:Int)-1)).toNat]?=some (af.el .n b):=by rw[hk];exact bH hb
   (refine aP rfl ?_;show Ev Li.code _ _ _)
   repeat' (first|refine yy ?_|refine ym ?_|(apply ze;iterate 5 exact rfl)|(apply zf;iterate 5 exact rfl)|refine yp ?_|refine yk mT (rB) ?_|refine yj (af.el .n b) (kM) (mX) ?_|refine yj (af.el .n a) (Int.le_refl _) (bH ha) ?_|refine yo ?_|apply zn|refine yc ?_|exact rfl|intro _)
   refine fin rfl (du ?_);rw[Zj bf ha hb]
theorem afN (a b:List af) (ha:a.length<=4194304) (hb:b.length<=4194304):H2 [.x (af.ls .n a),.x (af.ls .n b)]=some ⟨[.one (.b (jq a b))],[]⟩:=by
 (refine aP rfl ?_;show Ev aeh.code _ _ _)
 repeat' (first|refine yy ?_|refine ym ?_|(apply ze;iterate 5 exact rfl)|(apply zf;iterate 5 exact rfl)|refine yp ?_|refine yk mT (Bk a ha) ?_|refine yk mT (Bk b hb) ?_|refine ak ?_|refine ai ?_|refine yt ?_ ?_|refine yo ?_|apply zn|refine yc ?_|exact rfl|intro _)
 ·refine fin rfl (du ?_);rename_i h;rw[jq];revert h;cases fB a<;>cases fB b<;>simp
 ·rename_i h;have bf:(fB a&&fB b)=true:=by revert h;cases fB a<;>cases fB b<;>simp
  rw[jq,bf,pX];refine cF (af.el .n) a (fun i (_:Unit)=>[(1,.x (af.ls .n b)),(17,.x (af.ls .n a)),(18,.x (iT (a.map (af.el .n)).length)),(19,.x (iT i))]) (fun i _=>(a.take i).all (fun x=>b.all fun y=>l8 x y)=true) () (by simp) rfl ?_ ?_
  ·rintro i _ x hx aF _ hc hinv ih
   repeat' (first|refine yy ?_|refine ym ?_|(apply ze;iterate 5 exact rfl)|(apply zf;iterate 5 exact rfl)|refine yp ?_|refine yi (af.el .n x) (bH hx) ?_|refine ak ?_|refine ai ?_|refine yt ?_ ?_|refine yo ?_|apply zn|refine yc ?_|exact rfl|intro _)
   refine cF (af.el .n) b (fun k (_:Unit)=>[(1,.x (af.ls .n b)),(6,.box ⟨0,0,0⟩ (x.cs .n)),(17,.x (af.ls .n a)),(18,.x (iT (a.map (af.el .n)).length)),(19,.x (iT i)),(23,.x (af.ls .n b)),(24,.x (iT (b.map (af.el .n)).length)),(25,.x (iT k))]) (fun k _=>(b.take k).all (fun y=>l8 x y)=true) () (by simp) rfl ?_ ?_
   ·rintro k _ y hy kN _ hc cG fZ
    repeat' (first|refine yy ?_|refine ym ?_|(apply ze;iterate 5 exact rfl)|(apply zf;iterate 5 exact rfl)|refine yp ?_|refine yi (af.el .n y) (bH hy) ?_|refine ak ?_|refine ai ?_|refine yt ?_ ?_|refine yo ?_|apply zn|refine yc ?_|exact rfl|intro _)
    ·refine fin rfl (du ?_);rw[np (p:=fun x=>b.all fun y=>l8 x y) hx (np (p:=fun y=>l8 x y) hy ?_)];rename_i h;rw[l8,h];rfl
    ·refine fZ () (nq (p:=fun y=>l8 x y) cG hy ?_) _ _ ?_
     ·rename_i h;rw[l8,h];rfl
     ·rw[bU (by omega)];rfl
   ·rintro _ _ hc cG
    repeat' (first|refine yy ?_|refine ym ?_|(apply ze;iterate 5 exact rfl)|(apply zf;iterate 5 exact rfl)|refine yp ?_|refine ak ?_|refine ai ?_|refine yt ?_ ?_|refine yo ?_|apply zn|refine yc ?_|exact rfl|intro _)
    refine ih () (nq (p:=fun x=>b.all fun y=>l8 x y) hinv hx (nr cG)) _ _ ?_;rw[bU (by omega)];rfl
  ·rintro _ _ hc hinv;rw[nr hinv]
   repeat' (first|refine yy ?_|refine ym ?_|(apply ze;iterate 5 exact rfl)|(apply zf;iterate 5 exact rfl)|refine yp ?_|refine ak ?_|refine ai ?_|refine yt ?_ ?_|refine yo ?_|apply zn|refine yc ?_|exact rfl|intro _)
   exact fin rfl rfl
theorem afx (a b:List af) (ha:a.length<=4194304) (hb:b.length<=4194304):HI [.x (af.ls .n a),.x (af.ls .n b)]=some ⟨[.one (.b (jq a b))],[]⟩:=by
 (refine aP rfl ?_;show Ev acX.code _ _ _)
 repeat' (first|refine yy ?_|refine ym ?_|(apply ze;iterate 5 exact rfl)|(apply zf;iterate 5 exact rfl)|refine yp ?_|refine yk sq (Hc a ha) ?_|refine yk sq (Hc b hb) ?_|refine ak ?_|refine ai ?_|refine yt ?_ ?_|refine yo ?_|apply zn|refine yc ?_|exact rfl|intro _)
 ·refine fin rfl (du ?_);rename_i h;rw[jq];revert h;cases fB a<;>cases fB b<;>simp
 ·rename_i h;have bf:(fB a&&fB b)=true:=by revert h;cases fB a<;>cases fB b<;>simp
  rw[jq,bf,pX];refine cF (af.el .n) a (fun i (_:Unit)=>[(0,.x (af.ls .n a)),(1,.x (af.ls .n b)),(5,.x (iT i))]) (fun i _=>(a.take i).all (fun x=>b.all fun y=>l8 x y)=true) () (by simp) rfl ?_ ?_
  ·rintro i _ x hx aF hc _ hinv ih
   repeat' (first|refine yy ?_|refine ym ?_|(apply ze;iterate 5 exact rfl)|(apply zf;iterate 5 exact rfl)|refine yp ?_|refine yi (af.el .n x) (bH hx) ?_|refine ak ?_|refine ai ?_|refine yt ?_ ?_|refine yo ?_|apply zn|refine yc ?_|exact rfl|intro _)
   refine cF (af.el .n) b (fun k (_:Unit)=>[(0,.x (af.ls .n a)),(1,.x (af.ls .n b)),(5,.x (iT i)),(6,.x (iT k))]) (fun k _=>(b.take k).all (fun y=>l8 x y)=true) () (by simp) rfl ?_ ?_
   ·rintro k _ y hy kN hc _ cG fZ
    repeat' (first|refine yy ?_|refine ym ?_|(apply ze;iterate 5 exact rfl)|(apply zf;iterate 5 exact rfl)|refine yp ?_|refine yi (af.el .n x) (bH hx) ?_|refine yi (af.el .n y) (bH hy) ?_|refine ak ?_|refine ai ?_|refine yt ?_ ?_|refine yo ?_|apply zn|refine yc ?_|exact rfl|intro _)
    ·refine fin rfl (du ?_);rw[np (p:=fun x=>b.all fun y=>l8 x y) hx (np (p:=fun y=>l8 x y) hy ?_)];rename_i h;rw[l8,h];rfl
    ·refine fZ () (nq (p:=fun y=>l8 x y) cG hy ?_) _ _ ?_
     ·rename_i h;rw[l8,h];rfl
     ·rw[bU (by omega)];rfl
   ·rintro _ hc _ cG
    repeat' (first|refine yy ?_|refine ym ?_|(apply ze;iterate 5 exact rfl)|(apply zf;iterate 5 exact rfl)|refine yp ?_|refine ak ?_|refine ai ?_|refine yt ?_ ?_|refine yo ?_|apply zn|refine yc ?_|exact rfl|intro _)
    refine ih () (nq (p:=fun x=>b.all fun y=>l8 x y) hinv hx (nr cG)) _ _ ?_;rw[bU (by omega)];rfl
  ·rintro _ hc _ hinv;rw[nr hinv]
   repeat' (first|refine yy ?_|refine ym ?_|(apply ze;iterate 5 exact rfl)|(apply zf;iterate 5 exact rfl)|refine yp ?_|refine ak ?_|refine ai ?_|refine yt ?_ ?_|refine yo ?_|apply zn|refine yc ?_|exact rfl|intro _)
   exact fin rfl rfl
theorem wT {es:List T}{α:Type}{f:α->T}{l:List α} (h:es.length+l.length<=4194304):es.length+(l.map f).length<cQ:=by simp[cQ];omega
theorem Uo (h:aA) (hl:h.al<=4000000):D9 [.st (h.cs .n)]=some ⟨[.one (.l .y 10 ((fR h).map (aa.el .n)))],[]⟩:=by
 have hb:=Yj h;simp only[aA.al]at hl;have hr:=dA (aS au.al) h.Rows
 (refine aP rfl ?_;show Ev aeu.code _ _ _)
 repeat' (first|refine ak ?_|refine ai ?_|refine yt ?_ ?_|refine yo ?_|apply zn|refine yc ?_|intro _)
 refine cF (au.ls .n) h.Rows (fun i (es:List T)=>[(1,.box ⟨0,0,0⟩ (h.cs .n)),(3,.own ⟨0,0,0⟩ (.l .y 10 es)),(9,.x (au.lss .n h.Rows)),(10,.x (iT (h.Rows.map (au.ls .n)).length)),(11,.x (iT i))]) (fun i es=>es=(((h.Rows.take i).map nh).flatten).map (aa.el .n)) [] (by simp) rfl ?_ ?_
 ·rintro i es rs hx aF hc _ hinv ih;have eN:=En (f:=nh) hx;rw[<-zx]at eN;have dO:=gk (f:=aS au.al) hx;have dS:=dA au.al rs
  repeat' (first|refine yi (au.ls .n rs) (bH hx) ?_|refine ak ?_|refine ai ?_|refine yt ?_ ?_|refine yo ?_|apply zn|refine yc ?_|intro _)
  refine cF (au.el .n) rs (fun k (fs:List T)=>[(1,.box ⟨0,0,0⟩ (h.cs .n)),(3,.own ⟨0,0,0⟩ (.l .y 10 fs)),(5,.x (au.ls .n rs)),(9,.x (au.lss .n h.Rows)),(10,.x (iT (h.Rows.map (au.ls .n)).length)),(11,.x (iT i)),(15,.x (au.ls .n rs)),(16,.x (iT (rs.map (au.el .n)).length)),(17,.x (iT k))]) (fun k fs=>fs=es++(((rs.take k).map au.bV).flatten).map (aa.el .n)) es (by simp) rfl ?_ ?_
  ·rintro k fs r hy kN dx _ cG fZ;have dt:=En (f:=au.bV) hy;have hlen:fs.length+r.bV.length<=4194304:=by
    have lQ:(nh rs).length=(rs.map au.bV).flatten.length:=rfl;rw[cG,hinv,jR,cL,cL];omega
   repeat' (first|refine yi (au.el .n r) (bH hy) ?_|(apply L8;(iterate 8 exact rfl);exact(wT hlen);exact rfl;exact rfl)|refine ak ?_|refine ai ?_|refine yt ?_ ?_|refine yo ?_|apply zn|refine yc ?_|intro _)
   refine fZ (fs++r.bV.map (aa.el .n)) ?_ _ _ ?_
   ·rw[cG,Eo hy,kh,gY]
   ·rw[bU (by omega)];rfl
  ·rintro fs dx _ cG
   repeat' (first|refine ak ?_|refine ai ?_|refine yt ?_ ?_|refine yo ?_|apply zn|refine yc ?_|intro _)
   refine ih fs ?_ _ _ ?_
   ·rw[cG,hinv,Eo hx,kh,eD];rfl
   ·rw[bU (by omega)];rfl
 ·rintro es hc _ hinv;rw[eD,<-zx]at hinv;subst hinv
  repeat' (first|refine ak ?_|refine ai ?_|refine yt ?_ ?_|refine yo ?_|apply zn|refine yc ?_|intro _)
  exact fin rfl (by simp only[bN])
theorem afJ (h:aA) (hl:h.al<=4000000):D0 [.st (h.cs .n)]=some ⟨[.one (.l .y 10 ((fx h).map (aa.el .n)))],[]⟩:=by
 simp only[aA.al]at hl;have hr:=dA aa.al h.aJ;have dS:=dA aC.al h.bz
 (refine aP rfl ?_;show Ev adS.code _ _ _)
 repeat' (first|(apply B2;(iterate 4 exact rfl);exact(uH (show h.aJ.length<=4194304 by omega));exact rfl;exact rfl)|refine ak ?_|refine ai ?_|refine yt ?_ ?_|refine yo ?_|apply zn|refine yc ?_|intro _)
 refine cF (aC.el .n) h.bz (fun i (es:List T)=>[(1,.box ⟨0,0,0⟩ (h.cs .n)),(3,.own ⟨0,0,0⟩ (.l .y 10 es)),(10,.x (aC.ls .n h.bz)),(11,.x (iT (h.bz.map (aC.el .n)).length)),(12,.x (iT i))]) (fun i es=>es=(h.aJ++(h.bz.take i).map aC.bg).map (aa.el .n)) (h.aJ.map (aa.el .n)) (by simp) rfl ?_ ?_
 ·rintro i es x hx aF hc _ hinv ih;have hlen:es.length+[x.bg].length<=4194304:=by
   rw[hinv,cL,jR,cL,fU];simp;omega
  repeat' (first|refine yi (aC.el .n x) (bH hx) ?_|(apply zV;(iterate 8 exact rfl);exact(wT (f:=aa.el .n) hlen);exact(rfl);exact(wT (f:=aa.el .n) hlen);exact rfl;exact rfl)|refine ak ?_|refine ai ?_|refine yt ?_ ?_|refine yo ?_|apply zn|refine yc ?_|intro _)
  refine ih (es++[aa.el .n x.bg]) ?_ _ _ ?_
  ·rw[hinv,km hx];simp
  ·rw[bU (by omega)];rfl
 ·rintro es hc _ hinv;rw[eD]at hinv;subst hinv
  repeat' (first|refine ak ?_|refine ai ?_|refine yt ?_ ?_|refine yo ?_|apply zn|refine yc ?_|intro _)
  exact fin rfl (by simp only[bN];rfl)
theorem asy (h:aA) (hl:h.al<=4000000):MV [.st (h.cs .n)]=some ⟨[.one (.l .y 10 ((fR h++fx h).map (aa.el .n)))],[]⟩:=by
 have hb:=Yj h;simp only[aA.al]at hl;have hr:=dA (aS au.al) h.Rows;have mr:=dA aa.al h.aJ;have SP:=dA aC.al h.bz
 (refine aP rfl ?_;show Ev acY.code _ _ _)
 repeat' (first|refine ak ?_|refine ai ?_|refine yt ?_ ?_|refine yo ?_|apply zn|refine yc ?_|intro _)
 refine cF (au.ls .n) h.Rows (fun i (es:List T)=>[(1,.box ⟨0,0,0⟩ (h.cs .n)),(3,.own ⟨0,0,0⟩ (.l .y 10 es)),(4,.x (iT i))]) (fun i es=>es=(((h.Rows.take i).map nh).flatten).map (aa.el .n)) [] (by simp) rfl ?_ ?_
 ·rintro i es rs hx aF hc _ hinv ih;have eN:=En (f:=nh) hx;rw[<-zx]at eN;have dO:=gk (f:=aS au.al) hx;have dS:=dA au.al rs
  repeat' (first|refine ak ?_|refine ai ?_|refine yt ?_ ?_|refine yo ?_|apply zn|refine yc ?_|intro _)
  refine cF (au.el .n) rs (fun k (fs:List T)=>[(1,.box ⟨0,0,0⟩ (h.cs .n)),(3,.own ⟨0,0,0⟩ (.l .y 10 fs)),(4,.x (iT i)),(5,.x (iT k))]) (fun k fs=>fs=es++(((rs.take k).map au.bV).flatten).map (aa.el .n)) es (by simp) rfl ?_ ?_
  ·rintro k fs r hy kN dx _ cG fZ;have dt:=En (f:=au.bV) hy;have hlen:fs.length+r.bV.length<=4194304:=by
    have lQ:(nh rs).length=(rs.map au.bV).flatten.length:=rfl;rw[cG,hinv,jR,cL,cL];omega
   repeat' (first|refine yi (au.ls .n rs) (bH hx) ?_|refine yi (au.el .n r) (bH hy) ?_|(apply L8;(iterate 8 exact rfl);exact(wT hlen);exact rfl;exact rfl)|refine ak ?_|refine ai ?_|refine yt ?_ ?_|refine yo ?_|apply zn|refine yc ?_|intro _)
   refine fZ (fs++r.bV.map (aa.el .n)) ?_ _ _ ?_
   ·rw[cG,Eo hy,kh,gY]
   ·rw[bU (by omega)];rfl
  ·rintro fs dx _ cG
   repeat' (first|refine yi (au.ls .n rs) (bH hx) ?_|refine ak ?_|refine ai ?_|refine yt ?_ ?_|refine yo ?_|apply zn|refine yc ?_|intro _)
   refine ih fs ?_ _ _ ?_
   ·rw[cG,hinv,Eo hx,kh,eD];rfl
   ·rw[bU (by omega)];rfl
 ·rintro es hc _ hinv;rw[eD,<-zx]at hinv;have hlen:es.length+h.aJ.length<=4194304:=by rw[hinv,cL];omega
  repeat' (first|(apply L8;(iterate 8 exact rfl);exact(wT hlen);exact rfl;exact rfl)|refine ak ?_|refine ai ?_|refine yt ?_ ?_|refine yo ?_|apply zn|refine yc ?_|intro _)
  refine cF (aC.el .n) h.bz (fun i (fs:List T)=>[(1,.box ⟨0,0,0⟩ (h.cs .n)),(3,.own ⟨0,0,0⟩ (.l .y 10 fs)),(6,.x (iT i))]) (fun i fs=>fs=es++(h.aJ++(h.bz.take i).map aC.bg).map (aa.el .n)) (es++h.aJ.map (aa.el .n)) (by simp) rfl ?_ ?_
  ·rintro i fs x hx aF hc _ cG ih;have hlen:fs.length+[x.bg].length<=4194304:=by
    rw[cG,hinv,jR,cL,cL,jR,cL,fU];simp;omega
   repeat' (first|refine yi (aC.el .n x) (bH hx) ?_|(apply zV;(iterate 8 exact rfl);exact(wT (f:=aa.el .n) hlen);exact(rfl);exact(wT (f:=aa.el .n) hlen);exact rfl;exact rfl)|refine ak ?_|refine ai ?_|refine yt ?_ ?_|refine yo ?_|apply zn|refine yc ?_|intro _)
   refine ih (fs++[aa.el .n x.bg]) ?_ _ _ ?_
   ·rw[cG,km hx];simp
   ·rw[bU (by omega)];rfl
  ·rintro fs hc _ cG;rw[eD]at cG;subst cG hinv
   repeat' (first|refine ak ?_|refine ai ?_|refine yt ?_ ?_|refine yo ?_|apply zn|refine yc ?_|intro _)
   exact fin rfl (by simp only[bN,fx,kh])
end Go.Wr

