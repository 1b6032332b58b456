/-
  What is proved: lemmas for the laws. No condition.
-/
import Derived.Test.YtbghjecopkbhlaaGreatQe
import Derived.Test.YtbghjecopkbhlaaGreatPc
import Derived.Test.YtbghjecopkbhlaaGreatQb
import Derived.Test.YtbghjecopkbhlaaGreatQd
import Derived.Test.YtbghjecopkbhlaaGreatTa
import Derived.Test.YtbghjecopkbhlaaGreatRd
set_option linter.unusedVariables false
set_option linter.unusedSimpArgs false
namespace Go.Wr
set_option maxRecDepth 20000
theorem as7 (x:aa) (hl:x.al<=4000000):NE [.st (x.cs .n)]=some ⟨[.one (.b (!x.ok))],[]⟩:=by
 (refine aP rfl ?_;show Ev adY.code _ _ _)
 repeat' (first|refine yk nw (DB x hl) ?_|refine yo ?_|apply zn|refine yc ?_|intro _)
 exact fin rfl rfl
theorem as8 (x e:aa):NF [.st (x.cs .n),.x (.p (.a (e.cs .n)))]=some ⟨[.one (.b (eK e x))],[]⟩:=by
 (refine aP rfl ?_;show Ev ad1.code _ _ _)
 repeat' (first|refine yk F7 (afS e x) ?_|refine yo ?_|apply zn|refine yc ?_|intro _)
 exact fin rfl rfl
theorem as9 (x:aa) (k w:Int):NG [.st (x.cs .n),.x (.p (iT k)),.x (.p (iT w))]=some ⟨[.one (.b (x.Key==k&&x.eo==w))],[]⟩:=by
 (refine aP rfl ?_;show Ev ad3.code _ _ _)
 repeat' (first|refine yy ?_|refine ym ?_|(apply ze;iterate 5 exact rfl)|refine yp ?_|refine yo ?_|apply zn|refine yc ?_|exact rfl|intro _)
 all_goals (refine fin rfl (du ?_);simp_all)
def qA (l:List aa) (p:aa->Bool):Int:=match l.findIdx? p with|some i=>(i:Int)|none=>-1
theorem Zbq (s:List aa) (k w:Int) (hl:s.length<=4194304):yH [.x (aa.ls .n s),.x (.f FV [.p (iT k),.p (iT w)])]=some ⟨[.one (iT (qA s fun x=>x.Key==k&&x.eo==w))],[]⟩:=by
 (refine aP rfl ?_;show Ev Lg.code _ _ _)
 repeat' (first|refine ak ?_|refine ai ?_|refine yt ?_ ?_|refine yo ?_|apply zn|refine yc ?_|intro _)
 refine cF (aa.el .n) s (fun i (_:Unit)=>[(0,.x (aa.ls .n s)),(1,.x (.f FV [.p (iT k),.p (iT w)])),(7,.x (iT (s.map (aa.el .n)).length)),(8,.x (iT i))]) (fun i _=>∀j x,j<i->s[j]?=some x->(x.Key==k&&x.eo==w)=false) () (by omega) rfl ?_ ?_
 ·rintro i _ x hx aF hc _ hinv ih
  repeat' (first|refine yi (aa.el .n x) (bH hx) ?_|refine yd (as9 x k w) ?_|refine ak ?_|refine ai ?_|refine yt ?_ ?_|refine yo ?_|apply zn|refine yc ?_|intro _)
  ·refine fin rfl (mC ?_);rename_i h;have h3:s.findIdx? (fun x=>x.Key==k&&x.eo==w)=some i:=by
    rw[qO];refine⟨aF,?_,fun j hj=>?_⟩
    ·rw[(bt.1 hx).2];exact h
    ·rw[hinv j _ hj (bF (by omega))];simp
   unfold qA;rw[h3]
  ·rename_i h;refine ih () ?_ _ _ ?_
   ·intro j y hj hy;rcases Nat.lt_succ_iff_lt_or_eq.1 hj with h1|rfl
    ·exact hinv j y h1 hy
    ·rw[hx]at hy;cases hy;exact h
   ·rw[bU (by omega)];rfl
 ·rintro _ hc _ hinv
  repeat' (first|refine ak ?_|refine ai ?_|refine yt ?_ ?_|refine yo ?_|apply zn|refine yc ?_|intro _)
  refine fin rfl (mC ?_);have h3:s.findIdx? (fun x=>x.Key==k&&x.eo==w)=none:=by
   rw[uC];intro x hx;obtain⟨j,hj⟩:=gZ.1 hx;exact hinv j x (bt.1 hj).1 hj
  unfold qA;rw[h3]
theorem Zbo (s:List aa) (e:aa) (hl:s.length<=4194304):yH [.x (aa.ls .n s),.x (.f FU [.p (.a (e.cs .n))])]=some ⟨[.one (iT (qA s fun x=>eK e x))],[]⟩:=by
 (refine aP rfl ?_;show Ev Lg.code _ _ _)
 repeat' (first|refine ak ?_|refine ai ?_|refine yt ?_ ?_|refine yo ?_|apply zn|refine yc ?_|intro _)
 refine cF (aa.el .n) s (fun i (_:Unit)=>[(0,.x (aa.ls .n s)),(1,.x (.f FU [.p (.a (e.cs .n))])),(7,.x (iT (s.map (aa.el .n)).length)),(8,.x (iT i))]) (fun i _=>∀j x,j<i->s[j]?=some x->(eK e x)=false) () (by omega) rfl ?_ ?_
 ·rintro i _ x hx aF hc _ hinv ih
  repeat' (first|refine yi (aa.el .n x) (bH hx) ?_|refine yd (as8 x e) ?_|refine ak ?_|refine ai ?_|refine yt ?_ ?_|refine yo ?_|apply zn|refine yc ?_|intro _)
  ·refine fin rfl (mC ?_);rename_i h;have h3:s.findIdx? (fun x=>eK e x)=some i:=by
    rw[qO];refine⟨aF,?_,fun j hj=>?_⟩
    ·rw[(bt.1 hx).2];exact h
    ·rw[hinv j _ hj (bF (by omega))];simp
   unfold qA;rw[h3]
  ·rename_i h;refine ih () ?_ _ _ ?_
   ·intro j y hj hy;rcases Nat.lt_succ_iff_lt_or_eq.1 hj with h1|rfl
    ·exact hinv j y h1 hy
    ·rw[hx]at hy;cases hy;exact h
   ·rw[bU (by omega)];rfl
 ·rintro _ hc _ hinv
  repeat' (first|refine ak ?_|refine ai ?_|refine yt ?_ ?_|refine yo ?_|apply zn|refine yc ?_|intro _)
  refine fin rfl (mC ?_);have h3:s.findIdx? (fun x=>eK e x)=none:=by
   rw[uC];intro x hx;obtain⟨j,hj⟩:=gZ.1 hx;exact hinv j x (bt.1 hj).1 hj
  unfold qA;rw[h3]
theorem Zbp (s:List aa) (hb:∀x∈s,x.al<=4000000) (hl:s.length<=4194304):yH [.x (aa.ls .n s),.x (.f CV [])]=some ⟨[.one (iT (qA s fun x=> !x.ok))],[]⟩:=by
 (refine aP rfl ?_;show Ev Lg.code _ _ _)
 repeat' (first|refine ak ?_|refine ai ?_|refine yt ?_ ?_|refine yo ?_|apply zn|refine yc ?_|intro _)
 refine cF (aa.el .n) s (fun i (_:Unit)=>[(0,.x (aa.ls .n s)),(1,.x (.f CV [])),(7,.x (iT (s.map (aa.el .n)).length)),(8,.x (iT i))]) (fun i _=>∀j x,j<i->s[j]?=some x->(!x.ok)=false) () (by omega) rfl ?_ ?_
 ·rintro i _ x hx aF hc _ hinv ih
  repeat' (first|refine yi (aa.el .n x) (bH hx) ?_|refine yd (as7 x (hb x (cS hx))) ?_|refine ak ?_|refine ai ?_|refine yt ?_ ?_|refine yo ?_|apply zn|refine yc ?_|intro _)
  ·refine fin rfl (mC ?_);rename_i h;have h3:s.findIdx? (fun x=> !x.ok)=some i:=by
    rw[qO];refine⟨aF,?_,fun j hj=>?_⟩
    ·rw[(bt.1 hx).2];exact h
    ·rw[hinv j _ hj (bF (by omega))];simp
   unfold qA;rw[h3]
  ·rename_i h;refine ih () ?_ _ _ ?_
   ·intro j y hj hy;rcases Nat.lt_succ_iff_lt_or_eq.1 hj with h1|rfl
    ·exact hinv j y h1 hy
    ·rw[hx]at hy;cases hy;exact h
   ·rw[bU (by omega)];rfl
 ·rintro _ hc _ hinv
  repeat' (first|refine ak ?_|refine ai ?_|refine yt ?_ ?_|refine yo ?_|apply zn|refine yc ?_|intro _)
  refine fin rfl (mC ?_);have h3:s.findIdx? (fun x=> !x.ok)=none:=by
   rw[uC];intro x hx;obtain⟨j,hj⟩:=gZ.1 hx;exact hinv j x (bt.1 hj).1 hj
  unfold qA;rw[h3]
theorem ata (s:List aa) (k w:Int) (hl:s.length<=4194304):NH [.x (aa.ls .n s),.x (iT k),.x (iT w)]=some ⟨[.one (iT (qA s fun x=>x.Key==k&&x.eo==w))],[]⟩:=by
 (refine aP rfl ?_;show Ev ad4.code _ _ _)
 repeat' (first|refine yk xz ((Zbq s k w hl)) ?_|refine yo ?_|apply zn|refine yc ?_|intro _)
 exact fin rfl rfl
theorem Z4a (s:List aa) (hb:∀x∈s,x.al<=4000000) (hl:s.length<=4194304):NI [.x (aa.ls .n s),.x (.f CV [])]=some ⟨[.one (.b (s.any fun x=> !x.ok))],[]⟩:=by
 (refine aP rfl ?_;show Ev ad5.code _ _ _)
 repeat' (first|refine yk xz ((Zbp s hb hl)) ?_|refine yo ?_|apply zn|refine yc ?_|intro _)
 refine fin rfl (du ?_);unfold qA;cases h:s.findIdx? (fun x=> !x.ok) with
 |none=>
  rw[uC]at h;rw[eq_comm];show _=false;rw[wK];intro x hx;rw[h x hx];simp
 |some i=>
  rw[qO]at h;obtain⟨hi,h,_⟩:=h;rw[eq_comm,qN.2 ⟨_,pZ hi,h⟩];simp
theorem JN {e:Nat}{x:aL}{l l1:LS}{r:Nat}{k:Wr.K}{p:List Nat}{z n sz:Nat}{c:RC}{es:List T} (h1:(raw e x).ev l=some (.w r k p z 0 n,l)) (h2:(kc r k p).ev l=some (c,l)) (hn:c.t.aM p=some (.l .y sz es)) (hl:n=es.length)
  (hw:(Pg.wr r ({c with t:=c.t.put p .u}:RC).av).ev l=some ((),l1)):(DK e x).ev l=some (.l .y sz es,l1):=by
 have h5:=E2 (fs:=none) (x:=x) (e:=e) h1 h2 hn hl hw;simp only[Fs.hd]at h5;simp only[DK,Bind.bind,ch,h1,h5];rfl
theorem Jo {e:Nat}{x:aL}{xs:List (fN×aL)}{sz:Nat}{es:List T}{ts:List (Option T)}{hs:List Hand}{l l1 l2:LS} (c1:(DK e x).ev l=some (.l .y sz es,l1)) (c2:(ny e xs).ev l1=some (ts,l2)) (c3:(ml e xs ts).ev l2=some (hs,l2)):
  (oz e ((.C,x)::xs) []).ev l=some ({arg:=.own (.l .y sz es)}::hs,l2):=by
 have hp:∀{α:Type} (a:α) (l:LS),(pure a:Pg α).ev l=some (a,l):=fun _ _=>rfl;simp only[oz,ny,ml,hand,Bind.bind,ch,c1,c2,hp,List.head?_cons,Option.join_some,List.tail_cons,c3,s8,nW]
theorem Ek {o:Ob}{rt:List aa}{k:Nat}{x:aa} (hx:rt[k]?=some x):(T.l o 10 (rt.map (aa.el .y))).aM [0+(k:Int).toNat]=some (aa.el .y x):=by
 simp[T.aM,T.bA,hx]
theorem Ot {rt:List aa}{k:Nat}{x:aa} (hx:rt[k]?=some x):(T.l .y 10 (rt.map (aa.el .y))).eO [0+(k:Int).toNat]=true:=by
 simp[T.eO,Ob.own,hx]
theorem Ou {rt:List aa}{k:Nat}{x:aa} (y:aa) (hx:rt[k]?=some x):(T.l .y 10 (rt.map (aa.el .y))).put [0+(k:Int).toNat] (aa.el .y y)=aa.ls .y (rt.set k y):=by
 simp[T.put,T.bA,T.dP,hx,BT]
theorem WA {rt:List aa}{e x:aa}{k:Nat} (h:rt.findIdx? (fun x=>jk x e)=some k) (hx:rt[k]?=some x):j7 rt e=rt.set k (kU x e):=by
 unfold j7;rw[h];simp only[hx]
theorem Wy {rt:List aa}{e:aa} (h:rt.findIdx? (fun x=>jk x e)=none):j7 rt e=rt.take (lr rt e)++e::rt.drop (lr rt e):=by
 unfold j7;rw[h]
theorem Zns (rt:List aa) (e:aa):(rt.findIdx? fun x=>x.Key==e.Key&&x.eo==e.eo)=rt.findIdx? (fun x=>jk x e):=rfl
set_option maxHeartbeats 1000000 in
theorem atb (rt:List aa) (e:aa) (hr:∀x∈rt,x.ok=true) (he:e.ok=true) (kX:∀x∈rt,jk x e=true->jq x.aH e.aH=true) (hb:aS aa.al rt<=4000000):
  NJ [.x (aa.ls .n rt),.st (e.cs .n)]=some ⟨[.one (aa.ls .y (j7 rt e)),.one (.b true)],[]⟩:=by
 have hlen:=dA aa.al rt;have Gl:=A6 he;have h1:=Ug rt hb;have h2:=DB e (by omega);rw[he]at h2;have h3:=Z4a rt (fun x hx=>by have:=A6 (hr x hx);omega) (by omega);rw[show(rt.any fun x=> !x.ok)=false by rw[wK];intro x hx;simp[hr x hx]]at h3;have h4:=ata rt e.Key e.eo (by omega);unfold qA at h4;rw[Zns]at h4;cases hf:rt.findIdx? (fun x=>jk x e) with
 |some k=>
  rw[hf]at h4;simp only at h4;obtain⟨hk,hs,_⟩:=qO.1 hf;have hx:=bF hk;generalize rt[k]=x at hx hs;have xN:=cS hx;have h5:=as6 x e (hr x xN) he;have e5:xp x e=(kU x e,true):=by
   unfold xp;rw[if_pos];simp[hr x xN,he,hs,kX x xN hs]
  rw[e5]at h5;rw[WA hf hx]
  (refine aP rfl ?_;show Ev AZ.code _ _ _)
  repeat' (first|refine yy ?_|refine ym ?_|(apply zf;iterate 5 exact rfl)|refine yp ?_|refine yk vg (h1) ?_|refine yk nw (h2) ?_|refine yk FX (h3) ?_|refine yk FW (h4) ?_|refine yk Rz (h5) ?_|refine yi (aa.el .n x) (bH hx) ?_|refine yx (qV hk) ?_|(apply zS (aa.el .y x) (aa.ls .y (rt.set k (kU x e)));(iterate 4 exact rfl);exact(Ek hx);exact(Ot hx);exact rfl;exact(by(simp only[bN];exact Ou (kU x e) hx));iterate 3 exact rfl)|refine ak ?_ (ht:=rfl)|refine ai ?_ (ht:=rfl)|refine ym ?_ (ht:=rfl)|refine yy ?_ (ht:=rfl)|refine yp ?_ (ht:=rfl)|refine ak ?_|refine ai ?_|refine yt ?_ ?_|refine yo ?_|apply zn|refine yc ?_|exact rfl|intro _)
  show ∃l',(leave AZ).ev _=some (_,l');refine fin rfl ?_;simp only[bN]
 |none=>
  rw[hf]at h4;simp only at h4;have h6:=Zbo rt e (by omega);have h7:=T6 e (by omega);have key:∀n k:Nat,n=k->k<=rt.length->HV [.own (aa.ls .y rt),.x (iT n),.own (.l .y 10 [.a [iT e.Key,iT e.eo,.l .y 2 (e.aH.map (af.el .y)),iT e.aN.Count,iT e.aN.Sum,iT e.aN.Min,iT e.aN.Max,.l .y 1 (e.aN.ca.map iT),.l .y 1 (e.aN.bX.map iT),.l .y 1 (e.aN.Rows.map (ints .y))]])]=some ⟨[.one (aa.ls .y (rt.take k++e::rt.drop k))],[]⟩:=fun n k hn hk=>by
   subst hn;show lock AW _=_;rw[rX,Zc7 (pY _) (by rw[cL];omega) (by rw[cL];omega)];simp only[aa.ls,kh,fc,List.map_take,List.map_drop,BQ];rfl
  rw[Wy hf];unfold qA at h6;cases hg:rt.findIdx? (fun x=>eK e x) with
  |some k=>
   obtain⟨hk,hs,vI⟩:=qO.1 hg;have hm:lr rt e=k:=by
    unfold lr;exact(List.findIdx_eq hk).2 ⟨hs,fun j hj=>by have:=vI j hj;simpa using this⟩
   rw[hg]at h6;simp only at h6;rw[hm];have h8:=key k k rfl (by omega)
   (refine aP rfl ?_;show Ev AZ.code _ _ _)
   repeat' (first|refine yy ?_|refine ym ?_|(apply zf;iterate 5 exact rfl)|refine yp ?_|refine yk vg (h1) ?_|refine yk nw (h2) ?_|refine yk FX (h3) ?_|refine yk FW (h4) ?_|refine yv xu (h7) ?_|(apply zk Kl;exact Jo (JN rfl rfl rfl rfl rfl) rfl rfl;exact rfl;exact h8;exact rfl;exact rfl;exact rfl)|(apply zk xz;exact rfl;simp only[List.map,zJ,bO,T.fz,iw];exact rfl;exact h6;exact rfl;exact rfl;exact rfl)|refine ak ?_ (ht:=rfl)|refine ai ?_ (ht:=rfl)|refine ym ?_ (ht:=rfl)|refine yy ?_ (ht:=rfl)|refine yp ?_ (ht:=rfl)|refine ak ?_|refine ai ?_|refine yt ?_ ?_|refine yo ?_|apply zn|refine yc ?_|exact rfl|intro _)
   show ∃l',(leave AZ).ev _=some (_,l');refine fin rfl ?_;simp only[bN]
  |none=>
   have hm:lr rt e=rt.length:=by
    unfold lr;rw[List.findIdx_eq_length];intro x hx;have:=uC.1 hg x hx;simpa using this
   rw[hg]at h6;simp only at h6;rw[hm];have h8:=key (rt.map (aa.el .y)).length rt.length (cL _) (Nat.le_refl _)
   (refine aP rfl ?_;show Ev AZ.code _ _ _)
   repeat' (first|refine yy ?_|refine ym ?_|(apply zf;iterate 5 exact rfl)|refine yp ?_|refine yk vg (h1) ?_|refine yk nw (h2) ?_|refine yk FX (h3) ?_|refine yk FW (h4) ?_|refine yv xu (h7) ?_|(apply zk Kl;exact Jo (JN rfl rfl rfl rfl rfl) rfl rfl;exact rfl;exact h8;exact rfl;exact rfl;exact rfl)|(apply zk xz;exact rfl;simp only[List.map,zJ,bO,T.fz,iw];exact rfl;exact h6;exact rfl;exact rfl;exact rfl)|refine ak ?_ (ht:=rfl)|refine ai ?_ (ht:=rfl)|refine ym ?_ (ht:=rfl)|refine yy ?_ (ht:=rfl)|refine yp ?_ (ht:=rfl)|refine ak ?_|refine ai ?_|refine yt ?_ ?_|refine yo ?_|apply zn|refine yc ?_|exact rfl|intro _)
   show ∃l',(leave AZ).ev _=some (_,l');refine fin rfl ?_;simp only[bN]
theorem Zb {a b e:aa} (h:eK a b=true) (h2:jk b e=true):jk a e=false:=by
 simp only[eK,jk,pW,Y8,decide_eq_true_eq,beq_iff_eq]at h h2;cases hs:jk a e with
 |false=>rfl
 |true=>
  simp only[jk,Y8,beq_iff_eq]at hs;omega
theorem Z7q {rt:List aa}{e x:aa}{k:Nat} (ho:rt.Pairwise fun a b=>eK a b=true) (hx:rt[k]?=some x) (hs:jk x e=true):rt.findIdx? (fun x=>jk x e)=some k:=by
 rw[qO];obtain⟨hk,rfl⟩:=bt.1 hx;exact⟨hk,hs,fun j hj=>by rw[Zb (qR.1 ho j k (by omega) hk hj) hs];simp⟩
theorem Za (x e:aa):(decide (x.Key>e.Key)||x.Key==e.Key&&decide (x.eo>e.eo))=eK e x:=by
 unfold eK;rw[ma];simp only[pW,Y8,decide_eq_true_eq,beq_iff_eq];omega
theorem atK {k i n:Nat} (h:k+(i+1)=n):(((n-(i+1):Nat):Int)-1)=(k:Int)-1:=by omega
theorem Zfz {o:Ob}{rt:List aa}{k:Nat}{x:aa}{q:List Nat}{r:Option T} (hx:rt[k]?=some x) (h:(aa.el .y x).aM q=r):(T.l o 10 (rt.map (aa.el .y))).aM ((0+(k:Int).toNat)::q)=r:=by
 simp only[T.aM,T.bA,db,BQ,iX,hx,s5,jl,h]
structure Ia (rt:List aa) (e:aa) (i a:Nat):Prop where
 no:∀j x,rt.length-i<=j->rt[j]?=some x->jk x e=false
 ix:a=(rt.length-i)+(rt.drop (rt.length-i)).findIdx fun x=>eK e x
theorem Ia.next {rt:List aa}{e x:aa}{i a k:Nat} (h:Ia rt e i a) (hk:k+(i+1)=rt.length) (hx:rt[k]?=some x) (hs:jk x e=false):Ia rt e (i+1) (if eK e x then k else a):=by
 obtain⟨h1,h2⟩:=h;have e1:rt.length-(i+1)=k:=by omega
 have e2:rt.length-i=k+1:=by omega
 rw[e2]at h1 h2;refine⟨fun j y hj hy=>?_,?_⟩
 ·rw[e1]at hj;rcases Nat.eq_or_lt_of_le hj with rfl|hj
  ·rw[hx]at hy;cases hy;exact hs
  ·exact h1 j y hj hy
 ·rw[e1];obtain⟨vI,rfl⟩:=bt.1 hx;rw[List.drop_eq_getElem_cons vI,List.findIdx_cons];cases hh:eK e rt[k] with
  |true=>simp
  |false=>simp only[cX,if_false,cond_false];omega
set_option maxHeartbeats 1000000 in
theorem atl (rt:List aa) (e:aa) (hr:∀x∈rt,x.ok=true) (he:e.ok=true) (ho:rt.Pairwise fun a b=>eK a b=true) (hb:aS aa.al rt<=4000000):
  NS [.own (aa.ls .y rt),.st (e.cs .n)]=some ⟨[.one (aa.ls .y (j7 rt e))],[]⟩:=by
 have hlen:=dA aa.al rt;have Gl:=A6 he
 (refine aP rfl ?_;show Ev Lh.code _ _ _)
 repeat' (first|refine yy ?_|refine ym ?_|(apply ze;iterate 5 exact rfl)|(apply zf;iterate 5 exact rfl)|refine yp ?_|refine ak ?_|refine ai ?_|refine yt ?_ ?_|refine yo ?_|apply zn|refine yc ?_|exact rfl|intro _)
 show Ev (.loop _ _) _ _ _;refine jS (fun i (a:Nat)=>[(0,.own ⟨0,0,0⟩ (aa.ls .y rt)),(3,.box ⟨0,0,0⟩ (e.cs .n)),(5,.x (iT a)),(6,.x (iT ((rt.length-i:Nat)-1)))]) (Ia rt e) rt.length (rt.map (aa.el .y)).length ⟨fun j x hj hx=>by have:=(bt.1 hx).1;omega,by simp⟩ ?_ ?_
 ·have e0:(((rt.length-0:Nat):Int)-1)=IntKind.i64.wrap (((rt.map (aa.el .y)).length:Int)-1):=by rw[cL,dQ (by omega)];omega
  show _=[_,_,_,(6,AV.x (iT (((rt.length-0:Nat):Int)-1)))];rw[e0];rfl
 intro i a hi hinv ih;rcases js i rt.length with aF|fL
 ·obtain⟨k,hk⟩:∃k,k+(i+1)=rt.length:=⟨rt.length-(i+1),by omega⟩
  have tV:k<rt.length:=by omega
  have e6:(((rt.length-i:Nat):Int)-1)=(k:Int):=by omega
  rw[e6];have hx:=bF tV;generalize rt[k]=x at hx;have auw:decide ((k:Int)>=0)=true:=by simp
  have xN:=cS hx;have h1:=atk x e (hr x xN) he
  repeat' (first|refine yy ?_|refine ym ?_|(apply ze;iterate 5 exact rfl)|(apply zf;iterate 5 exact rfl)|refine yp ?_|refine yk Kp (h1) ?_|refine yx (qV tV) ?_|(apply zl (aa.el .y x);exact rfl;exact rfl;exact(by exact Ek hx);iterate 3 exact rfl)|(apply zL (aa.cs .y x);exact rfl;exact rfl;exact(by exact Ek hx);iterate 3 exact rfl)|(apply zS (aa.el .y x) (aa.ls .y (rt.set k (kU x e)));(iterate 4 exact rfl);exact(Ek hx);exact(Ot hx);exact rfl;exact(by(simp only[bN];exact Ou (kU x e) hx));iterate 3 exact rfl)|refine ak ?_|refine ai ?_|refine yt ?_ ?_|refine yo ?_|apply zn|refine yc ?_|exact rfl|intro _)
  ·rename_i hs;have xB:=h1;apply zk Kp;apply Zie;exact rfl
   repeat (first|exact sX.nil|apply sX.x|(apply sX.w;exact rfl;exact Zfz hx rfl))
   exact rfl;simp only[List.map,bN,iw];exact rfl;exact xB;exact wW (aa.cl _) rfl;exact rfl;exact rfl
   repeat' (first|refine yy ?_|refine ym ?_|(apply ze;iterate 5 exact rfl)|(apply zf;iterate 5 exact rfl)|refine yp ?_|refine yx (qV tV) ?_|(apply zS (aa.el .y x) (aa.ls .y (rt.set k (kU x e)));(iterate 4 exact rfl);exact(Ek hx);exact(Ot hx);exact rfl;exact(by(simp only[bN];exact Ou (kU x e) hx));iterate 3 exact rfl)|refine ak ?_|refine ai ?_|refine yt ?_ ?_|refine yo ?_|apply zn|refine yc ?_|exact rfl|intro _)
   show ∃l',(leave Lh).ev _=some (_,l');refine fin rfl ?_;rw[WA (Z7q ho hx hs) hx];simp only[bN]
  all_goals
   rename_i hs ha;have eV:eK e x=_:=(Za x e).symm.trans ha;refine ih _ aF (hinv.next hk hx hs) _ _ ?_;rw[eV,atK hk,show IntKind.i64.wrap ((k:Int)-1)=(k:Int)-1 from dQ (by omega)];rfl
 ·have lT:i=rt.length:=by omega
  subst lT;clear ih;have e7:(((rt.length-rt.length:Nat):Int)-1)=-1:=by omega
  rw[e7];obtain⟨g1,g2⟩:=hinv;rw[wH]at g1 g2;have ha:a=lr rt e:=by rw[g2,db];rfl
  have abe:rt.findIdx? (fun x=>jk x e)=none:=by
   rw[uC];intro x hx;obtain⟨j,hj⟩:=gZ.1 hx;exact g1 j x (Nat.zero_le _) hj
  rw[Wy abe,<-ha];have qp:a<=rt.length:=by rw[ha];exact List.findIdx_le_length
  clear g1 g2 ha abe ho;have h7:=LM e (by omega);obtain⟨G,hG,hGl⟩:∃G:List T,G=((rt.take a).map (aa.el .y)).map T.oF/\G.length=a:=⟨_,rfl,by simp;omega⟩
  have dL:sub (rt.map (aa.el .y)) (0+0) (a-0)=(rt.take a).map (aa.el .y):=JJ;have dp:([]:List T).length+((rt.take a).map (aa.el .y)).length<cQ:=by simp[cQ];omega
  have oK:(T.l .y 10 ((rt.map (aa.el .y)).take (0+0)++(((rt.take a).map (aa.el .y)).map T.oF++(rt.map (aa.el .y)).drop (0+0+(a-0)))))=.l .y 10 (G++(rt.drop a).map (aa.el .y)):=by
   rw[hG];simp[List.map_drop]
  have amv:a<=(rt.map (aa.el .y)).length:=by simpa using qp
  have amw:a<=(G++(rt.drop a).map (aa.el .y)).length:=by rw[jR];omega
  have gP:sub (G++(rt.drop a).map (aa.el .y)) (0+a) ((G++(rt.drop a).map (aa.el .y)).length-a)=(rt.drop a).map (aa.el .y):=by
   unfold sub;rw[db,List.drop_append_of_le_length (by omega),show G.drop a=[] by rw[List.drop_eq_nil_iff];omega,eC,p8 (by simp;omega)]
  have dJ:∀x:T,([]++(rt.take a).map (aa.el .y)).length+[x].length<cQ:=fun x=>by simp[cQ];omega
  have dy:∀x:T,([]++(rt.take a).map (aa.el .y)++[x]).length+((rt.drop a).map (aa.el .y)).length<cQ:=fun x=>by simp[cQ];omega
  repeat' (first|refine yy ?_|refine ym ?_|(apply ze;iterate 5 exact rfl)|(apply zf;iterate 5 exact rfl)|refine yp ?_|refine ai ?_ (ht:=rfl)|refine yk vh (h7) ?_|refine yU (m:=0) (q:=a) ⟨Nat.zero_le _,amv⟩ (Eg rfl rfl) rfl ?_|refine yE (es:=[]) (c:=⟨false,⟨0,0,0⟩,.l .y 10 (rt.map (aa.el .y))⟩) (p:=[]) (.l .y 10 (G++(rt.drop a).map (aa.el .y))) (show(T.l .y 10 (rt.map (aa.el .y))).aM []=some (.l .y 10 (rt.map (aa.el .y))) from rfl) dL dp oK ?_|(apply zV;(iterate 8 exact rfl);exact(dJ _);exact(rfl);exact(dJ _);exact rfl;exact rfl)|refine yU (m:=a) ⟨amw,Nat.le_refl _⟩ rfl (Eg rfl rfl) ?_|refine yE (c:=⟨false,⟨0,0,0⟩,.l .y 10 (G++(rt.drop a).map (aa.el .y))⟩) (p:=[]) _ (show(T.l .y 10 (G++(rt.drop a).map (aa.el .y))).aM []=some (.l .y 10 (G++(rt.drop a).map (aa.el .y))) from rfl) gP (dy _) rfl ?_ (E2 rfl rfl rfl rfl rfl)|refine ak ?_|refine ai ?_|refine yt ?_ ?_|refine yo ?_|apply zn|refine yc ?_|exact rfl|intro _)
  show ∃l',(leave Lh).ev _=some (_,l');refine fin rfl ?_;rw[show aa.ls .y (rt.take a++e::rt.drop a)=.l .y 10 ([]++(rt.take a).map (aa.el .y)++[aa.el .y e]++(rt.drop a).map (aa.el .y)) by simp[aa.ls]]
  try simp only[bN]
  rfl
theorem atm (rt:List aa) (e:aa) (hr:∀x∈rt,x.ok=true) (he:e.ok=true) (ho:rt.Pairwise fun a b=>eK a b=true) (hb:aS aa.al rt<=4000000):
  NT [.own (aa.ls .y rt),.st (e.cs .n)]=some ⟨[.one (aa.ls .y (j7 rt e))],[]⟩:=by
 have h1:=atl rt e hr he ho hb
 (refine aP rfl ?_;show Ev TE.code _ _ _)
 repeat' (first|(apply zk RI;exact Jo (JN rfl rfl rfl rfl rfl) rfl rfl;exact rfl;exact h1;exact rfl;exact rfl;exact rfl)|refine yo ?_|apply zn|refine yc ?_|intro _)
 show ∃l',(leave TE).ev _=some (_,l');refine fin rfl ?_;simp only[bN]
theorem XD {FC FO:aB} (e:aa) (l:List aa) (h1:FO [.st (au.cs .n ⟨e::l⟩)]=some ⟨[.one (.b true)],[]⟩) (h2:FC [.st (au.cs .n ⟨e::l⟩)]=some ⟨[.st (au.cs .y ⟨e::l⟩)],[]⟩) (hl:l.length<1073741824):
  lock (wc FC FO) [.st (au.cs .n ⟨e::l⟩)]=some ⟨[.st (e.cs .y),.st (au.cs .y ⟨l⟩),.one (.b true)],[]⟩:=by
 have hc:cP ((e::l).map (aa.el .y))=true:=cm aa.ep _;rw[rX];have xB:FO [.st [.l .n 10 ((e::l).map (aa.el .n))]]=some ⟨[.one (.b true)],[]⟩:=h1;have tP:FC [.st [.l .n 10 ((e::l).map (aa.el .n))]]=some ⟨[.st [.l .y 10 ((e::l).map (aa.el .y))]],[]⟩:=h2;show wc FC FO [.st [.l .n 10 ((e::l).map (aa.el .n))]]=_;simp only[wc,xB,tP,hc,if_true];show(if(J8 (e.cs .y)&&Nat.blt (l.map (aa.el .y)).length 1073741824)=true then(some ⟨[.st (e.cs .y),.st [.l .y 10 (l.map (aa.el .y))],.one (.b true)],[]⟩:Option Out) else none)=_;rw[if_pos]
 ·rfl
 ·rw[cL];show Nat.ble (l.length+1) 1073741824=true;exact Nat.ble_eq_true_of_le hl
theorem Ym {e:aa}{l:List aa} (hl:(⟨e::l⟩:au).al<=4000000):l.length<1073741824:=by
 have:=dA aa.al (e::l);simp only[au.al,dH]at this hl;omega
theorem atc (e:aa) (l:List aa) (hk:(⟨e::l⟩:au).ok=true) (hl:(⟨e::l⟩:au).al<=4000000):HW [.st (au.cs .n ⟨e::l⟩)]=some ⟨[.st (e.cs .y),.st (au.cs .y ⟨l⟩),.one (.b true)],[]⟩:=
 XD e l (by rw[LR _ hl,hk]) (afE _ hl) (Ym hl)
theorem atg (e:aa) (l:List aa) (hk:(⟨e::l⟩:au).ok=true) (hl:(⟨e::l⟩:au).al<=4000000):HX [.st (au.cs .n ⟨e::l⟩)]=some ⟨[.st (e.cs .y),.st (au.cs .y ⟨l⟩),.one (.b true)],[]⟩:=
 XD e l (by rw[Ua _ hl,hk]) (afH _ hl) (Ym hl)
end Go.Wr

