/-
  What is proved: lemmas for the laws. No condition.
-/
import Derived.Test.YtbghjecopkbhlaaGreatRe
set_option linter.unusedVariables false
set_option linter.unusedSimpArgs false
namespace Go.Wr
abbrev Fs:=Option (List (List Nat×List Nat))
def Fs.hd (fs:Fs) {α:Type} (p:Pg α):Pg α:=match fs with
 |none=>p
 |some ((r,w)::_)=>p.within r w
 |some []=>.fail
def Fs.tl (fs:Fs):Fs:=match fs with
 |some (_::l)=>some l
 |_=>none
def Fs.fC (fs:Fs) (k:Fs->Prop):Prop:=match fs with
 |some (_::l)=>k (some l)
 |_=>k none
theorem ZF (fs:Fs) (k:Fs->Prop):fs.fC k=k fs.tl:=by
 match fs with
 |none=>rfl
 |some []=>rfl
 |some (_::_)=>rfl
def tL (id:Nat) (i:Nat) (os:List aY) (fs:Fs):Pg Unit:=match fs with
 |none=>zO id i os
 |some l=>xq id i os l
structure cc (id i:Nat) (os:List aY) (fs:Fs) (l:LS) (K:LS->Prop):Prop where
 out:∃l',(tL id i os fs).ev l=some ((),l')/\K l'
section
variable {id i:Nat}{o:aY}{d:Option Nat}{op:jr}{os:List aY}{fs cz:Fs}{l l1 l2:LS}{K:LS->Prop}{s:Nat}{b want:Bool}{kl:List Nat}
theorem VX:tL id i [] fs=.ret ():=by
 unfold tL;cases fs<;>rfl
theorem zn (h:K l):cc id i [] fs l K:=⟨⟨l,by rw[VX];rfl,h⟩⟩
theorem IA (hf:fs=none\/∃x l,fs=some (x::l)):tL id i (o::os) fs=(fs.hd (o.exec ((id*1000+i+1)*8))).bind fun _=>tL id (i+1) os fs.tl:=by
 rcases hf with rfl|⟨⟨r,w⟩,fs,rfl⟩<;>rfl
theorem Zao {p:Pg Unit} (h:((fs.hd p)).ev l=some ((),l1)):fs=none\/∃x l,fs=some (x::l):=by
 match fs,h with
 |none,_=>exact .inl rfl
 |some (x::l),_=>exact .inr ⟨x,l,rfl⟩
 |some [],h=>cases h
theorem zo (h:(fs.hd (o.exec ((id*1000+i+1)*8))).ev l=some ((),l1)) (hf:fs.fC fun f=>f=cz) (hK:cc id (i+1) os cz l1 K):cc id i (o::os) fs l K:=by
 obtain⟨l',h1,h2⟩:=hK.out;refine⟨⟨l',?_,h2⟩⟩;rw[ZF]at hf;rw[IA (Zao h),ch,h,hf];exact h1
theorem zo' {o':aY} (h:(fs.hd (o.exec ((id*1000+i+1)*8))).ev l=(fs.hd (o'.exec ((id*1000+i+1)*8))).ev l) (hK:cc id i (o'::os) fs l K):cc id i (o::os) fs l K:=by
 obtain⟨l',h1,h2⟩:=hK.out;refine⟨⟨l',?_,h2⟩⟩;have hf:fs=none\/∃x l,fs=some (x::l):=by
  match fs,h1 with
  |none,_=>exact .inl rfl
  |some (x::l),_=>exact .inr ⟨x,l,rfl⟩
  |some [],h1=>cases h1
 rw[IA hf,ch]at h1⊢;rw[h];exact h1
def Fs.has (fs:Fs) (s:Nat):Bool:=match fs with
 |none=>true
 |some ((r,_)::_)=>r.contains s
 |some []=>false
theorem Z9n {e:Nat} (hr:fs.has s=true) (hg:l.get s=.x (.b b)) (ht:b=want):(fs.hd (aY.exec e ⟨d,op,some (s,want),kl⟩)).ev l=(fs.hd (aY.exec e ⟨d,op,none,kl⟩)).ev l:=by
 match fs,hr with
 |none,_=>exact Z9l hg ht
 |some ((r,w)::fs),hr=>exact Z9m hr hg ht
 |some [],hr=>cases hr
theorem Z9k {e:Nat} (hr:fs.has s=true) (hg:l.get s=.x (.b b)) (ht:b= !want):(fs.hd (aY.exec e ⟨d,op,some (s,want),kl⟩)).ev l=(fs.hd ((dE d (.dj 0)).bind fun _=>forget kl)).ev l:=by
 match fs,hr with
 |none,_=>exact Z9i hg ht
 |some ((r,w)::fs),hr=>exact Z9j hr hg ht
 |some [],hr=>cases hr
theorem zy (hr:fs.has s=true) (hg:l.get s=.x (.b b)) (ht:b=want) (h:cc id i (⟨d,op,none,kl⟩::os) fs l K):cc id i (⟨d,op,some (s,want),kl⟩::os) fs l K:=zo' (Z9n hr hg ht) h
theorem zm (hr:fs.has s=true) (hg:l.get s=.x (.b b)) (ht:b= !want) (h1:(fs.hd ((dE d (.dj 0)).bind fun _=>forget kl)).ev l=some ((),l1)) (hf:fs.fC fun f=>f=cz) (h:cc id (i+1) os cz l1 K):cc id i (⟨d,op,some (s,want),kl⟩::os) fs l K:=
 zo ((Z9k hr hg ht).trans h1) hf h
theorem zp {c x y:aL}{v:T} (hg:(fs.hd (raw ((id*1000+i+1)*8) c)).ev l=some (.x (.b b),l)) (ht:b=want) (hx:(fs.hd (raw ((id*1000+i+1)*8) (bif want then x else y))).ev l=some (.x v,l))
  (h1:(fs.hd ((dE d (.x v)).bind fun _=>forget kl)).ev l=some ((),l1)) (hf:fs.fC fun f=>f=cz) (h:cc id (i+1) os cz l1 K):cc id i (⟨d,.pick c x y,none,kl⟩::os) fs l K:=by
 refine zo ?_ hf h;subst ht
 match fs,hg,hx,h1 with
 |none,hg,hx,h1=>
  simp only[Fs.hd]at hg hx h1⊢;rw[ch]at h1;cases b<;>simp only[cond_true,cond_false]at hx<;>simp only[aY.exec,aY.go,exec,Bind.bind,ch,hg,hx,if_true,cX,if_false]<;>exact h1
 |some ((r,w)::fs),hg,hx,h1=>
  simp only[Fs.hd]at hg hx h1⊢;rw[fj,ch]at h1;cases b<;>simp only[cond_true,cond_false]at hx<;>simp only[aY.exec,aY.go,exec,Bind.bind,fj,ch,hg,hx,if_true,cX,if_false]<;>exact h1
 |some [],hg,_,_=>cases hg
theorem zk (g:Nat) {F:aB}{args:List (fN×aL)}{hs:List Hand}{gH:List Arg}{q:Out} (h1:(fs.hd (oz ((id*1000+i+1)*8) args [])).ev l=some (hs,l1)) (ha:hs.map Hand.arg=gH) (h2:F gH=some q)
  (h3:jV hs q=true) (h4:(fs.hd ((qk ((id*1000+i+1)*8) d hs q).bind fun _=>forget kl)).ev l1=some ((),l2)) (hf:fs.fC fun f=>f=cz) (hK:cc id (i+1) os cz l2 K):cc id i (⟨d,.call g F args,none,kl⟩::os) fs l K:=by
 refine zo ?_ hf hK
 match fs,h1,h4 with
 |none,h1,h4=>
  simp only[Fs.hd]at h1 h4⊢;rw[ch]at h4;cases h5:(qk ((id*1000+i+1)*8) d hs q).ev l1 with
  |none=>rw[h5]at h4;cases h4
  |some x=>
   rw[h5]at h4;show((se ((id*1000+i+1)*8) d F args []).bind fun _=>forget kl).ev l=_;rw[ch,VP h1 (ha▸h2) h3 h5];exact h4
 |some ((r,w)::fs),h1,h4=>
  simp only[Fs.hd]at h1 h4⊢;rw[fj,ch]at h4;cases h5:((qk ((id*1000+i+1)*8) d hs q).within r w).ev l1 with
  |none=>rw[h5]at h4;cases h4
  |some x=>
   rw[h5]at h4;show(((se ((id*1000+i+1)*8) d F args []).bind fun _=>forget kl).within r w).ev l=_;rw[fj,ch,VQ h1 (ha▸h2) h3 h5];exact h4
 |some [],h1,_=>cases h1
theorem zd {x:aL}{lI:List (Nat×aB)}{g:Nat}{env:List T}{F:aB}{args:List (fN×aL)}{hs:List Hand}{gH:List Arg}{q:Out} (h0:(fs.hd (raw ((id*1000+i+1)*8) x)).ev l=some (.x (.f g env),l)) (hc:lI.find? (fun c=>c.1==g)=some (g,F))
  (h1:(fs.hd (oz ((id*1000+i+1)*8) args env)).ev l=some (hs,l1)) (ha:hs.map Hand.arg=gH) (h2:F gH=some q) (h3:jV hs q=true) (h4:(fs.hd ((qk ((id*1000+i+1)*8) d hs q).bind fun _=>forget kl)).ev l1=some ((),l2)) (hf:fs.fC fun f=>f=cz)
  (hK:cc id (i+1) os cz l2 K):cc id i (⟨d,.tK x lI args,none,kl⟩::os) fs l K:=by
 refine zo ?_ hf hK
 match fs,h0,h1,h4 with
 |none,h0,h1,h4=>
  simp only[Fs.hd]at h0 h1 h4⊢;rw[ch]at h4;cases h5:(qk ((id*1000+i+1)*8) d hs q).ev l1 with
  |none=>rw[h5]at h4;cases h4
  |some y=>
   rw[h5]at h4;simp only[aY.exec,aY.go,exec,Bind.bind,ch,h0,hc];rw[VP h1 (ha▸h2) h3 h5];exact h4
 |some ((r,w)::fs),h0,h1,h4=>
  simp only[Fs.hd]at h0 h1 h4⊢;rw[fj,ch]at h4;cases h5:((qk ((id*1000+i+1)*8) d hs q).within r w).ev l1 with
  |none=>rw[h5]at h4;cases h4
  |some y=>
   rw[h5]at h4;simp only[aY.exec,aY.go,exec,Bind.bind,fj,ch,h0,hc];rw[VQ h1 (ha▸h2) h3 h5];exact h4
 |some [],h0,_,_=>cases h0
theorem zi {sz:Nat}{x ix:aL}{k:IntKind}{n:Int}{es:List T} (t:T) (h1:(fs.hd (raw ((id*1000+i+1)*8) ix)).ev l=some (.x (.i k n),l)) (h2:(fs.hd (look ((id*1000+i+1)*8) x)).ev l=some (.x (.l .n sz es),l)) (h0:0<=n)
  (ht:es[n.toNat]?=some t) (h3:(fs.hd ((dE d (.q t 0)).bind fun _=>forget kl)).ev l=some ((),l1)) (hf:fs.fC fun f=>f=cz) (h:cc id (i+1) os cz l1 K):cc id i (⟨d,.ia sz x ix,none,kl⟩::os) fs l K:=by
 refine zo ?_ hf h
 match fs,h1,h2,h3 with
 |none,h1,h2,h3=>
  simp only[Fs.hd]at h1 h2 h3⊢;rw[ch]at h3;simp only[aY.exec,aY.go,exec,indexAddr,Bind.bind,ch,h1,h2,h0,true_and,if_true,ht,Pure.pure,ja];exact h3
 |some ((r,w)::fs),h1,h2,h3=>
  simp only[Fs.hd]at h1 h2 h3⊢;rw[fj,ch]at h3;simp only[aY.exec,aY.go,exec,indexAddr,Bind.bind,fj,ch,h1,h2,h0,true_and,if_true,ht,Pure.pure,r8,ja];exact h3
 |some [],h1,_,_=>cases h1
theorem zw {sz:Nat}{x ix:aL}{k:IntKind}{n:Int}{r':Nat}{kk:Wr.K}{p:List Nat}{lo m:Nat} (h1:(fs.hd (raw ((id*1000+i+1)*8) ix)).ev l=some (.x (.i k n),l)) (h2:(fs.hd (look ((id*1000+i+1)*8) x)).ev l=some (.w r' kk p sz lo m,l)) (h0:0<=n) (ht:n<m)
  (h3:(fs.hd ((dE d (.ptr r' kk (p++[lo+n.toNat]) 0)).bind fun _=>forget kl)).ev l=some ((),l1)) (hf:fs.fC fun f=>f=cz) (h:cc id (i+1) os cz l1 K):cc id i (⟨d,.ia sz x ix,none,kl⟩::os) fs l K:=by
 refine zo ?_ hf h
 match fs,h1,h2,h3 with
 |none,h1,h2,h3=>
  simp only[Fs.hd]at h1 h2 h3⊢;rw[ch]at h3;simp only[aY.exec,aY.go,exec,indexAddr,Bind.bind,ch,h1,h2,h0,ht,and_self,if_true,Pure.pure,ja];exact h3
 |some ((r,w)::fs),h1,h2,h3=>
  simp only[Fs.hd]at h1 h2 h3⊢;rw[fj,ch]at h3;simp only[aY.exec,aY.go,exec,indexAddr,Bind.bind,fj,ch,h1,h2,h0,ht,and_self,if_true,Pure.pure,r8,ja];exact h3
 |some [],h1,_,_=>cases h1
end
section
variable {id i:Nat}{o:aY}{d:Option Nat}{op:jr}{os:List aY}{fs cz:Fs}{l l1 l2 l3:LS}{K:LS->Prop}{s:Nat}{b want:Bool}{kl:List Nat}
theorem zs {sz:Nat}{agg:Bool}{zero:List T}{x y:aL}{n m:Int} (h1:(fs.hd (num ((id*1000+i+1)*8) x)).ev l=some (n,l)) (h2:(fs.hd (num ((id*1000+i+1)*8) y)).ev l=some (m,l)) (he:n=m) (h0:0<=n) (hm:n<cQ)
  (h3:(fs.hd ((dE d (.own ⟨(id*1000+i+1)*8,(id*1000+i+1)*8,(id*1000+i+1)*8⟩ (.l .y sz (List.replicate n.toNat (sf agg zero))))).bind fun _=>forget kl)).ev l=some ((),l1)) (hf:fs.fC fun f=>f=cz) (h:cc id (i+1) os cz l1 K):
  cc id i (⟨d,.v7 sz agg zero x y,none,kl⟩::os) fs l K:=by
 refine zo ?_ hf h;subst he
 match fs,h1,h2,h3 with
 |none,h1,h2,h3=>
  simp only[Fs.hd]at h1 h2 h3⊢;rw[ch]at h3;simp only[aY.exec,aY.go,exec,Bind.bind,ch,h1,h2,h0,hm,and_self,if_true];exact h3
 |some ((r,w)::fs),h1,h2,h3=>
  simp only[Fs.hd]at h1 h2 h3⊢;rw[fj,ch]at h3;simp only[aY.exec,aY.go,exec,Bind.bind,fj,ch,h1,h2,h0,hm,and_self,if_true];exact h3
 |some [],h1,_,_=>cases h1
theorem zl {x:aL}{rr:Nat}{k:Wr.K}{p:List Nat}{off:Nat}{c:RC} (node:T) {t:T} (h1:(fs.hd (addr ((id*1000+i+1)*8) x)).ev l=some (.ptr rr k p off,l)) (h2:(fs.hd (oW rr k p)).ev l=some (c,l)) (hn:c.t.aM p=some node) (ht:node.cells[off]?=some t)
  (h3:(fs.hd ((dE d (seen rr c.k p off node t).av).bind fun _=>forget kl)).ev l=some ((),l1)) (hf:fs.fC fun f=>f=cz) (h:cc id (i+1) os cz l1 K):cc id i (⟨d,.ld none x,none,kl⟩::os) fs l K:=by
 refine zo ?_ hf h
 match fs,h1,h2,h3 with
 |none,h1,h2,h3=>
  simp only[Fs.hd]at h1 h2 h3⊢;rw[ch]at h3;simp only[aY.exec,aY.go,exec,load,Bind.bind,ch,h1,h2,hn,ht,Pure.pure,ja];exact h3
 |some ((r,w)::fs),h1,h2,h3=>
  simp only[Fs.hd]at h1 h2 h3⊢;rw[fj,ch]at h3;simp only[aY.exec,aY.go,exec,load,Bind.bind,fj,ch,h1,h2,hn,ht,Pure.pure,r8,ja];exact h3
 |some [],h1,_,_=>cases h1
theorem zL {n:Nat}{x:aL}{rr:Nat}{k:Wr.K}{p:List Nat}{off:Nat}{c:RC} (cs:List T) (h1:(fs.hd (addr ((id*1000+i+1)*8) x)).ev l=some (.ptr rr k p off,l)) (h2:(fs.hd (oW rr k p)).ev l=some (c,l)) (hn:c.t.aM p=some (.a cs)) (hl:Nat.ble (off+n) cs.length=true)
  (h3:(fs.hd ((dE d (.st (seenCells rr c.k p (.a cs) off (sub cs off n)))).bind fun _=>forget kl)).ev l=some ((),l1)) (hf:fs.fC fun f=>f=cz) (h:cc id (i+1) os cz l1 K):cc id i (⟨d,.ld (some n) x,none,kl⟩::os) fs l K:=by
 refine zo ?_ hf h
 match fs,h1,h2,h3 with
 |none,h1,h2,h3=>
  simp only[Fs.hd]at h1 h2 h3⊢;rw[ch]at h3;simp only[aY.exec,aY.go,exec,load,Bind.bind,ch,h1,h2,hn,if_pos (qM hl),Pure.pure,ja];exact h3
 |some ((r,w)::fs),h1,h2,h3=>
  simp only[Fs.hd]at h1 h2 h3⊢;rw[fj,ch]at h3;simp only[aY.exec,aY.go,exec,load,Bind.bind,fj,ch,h1,h2,hn,if_pos (qM hl),Pure.pure,r8,ja];exact h3
 |some [],h1,_,_=>cases h1
theorem zS {n:Nat}{tk:Bool}{x v:aL}{rr:Nat}{k k':Wr.K}{p:List Nat}{off:Nat}{c:RC} (node t:T) {new:List T}
  (h0:(fs.hd (gJ ((id*1000+i+1)*8) tk v)).ev l=some (new,l1)) (hl:new.length=n) (h1:(fs.hd (addr ((id*1000+i+1)*8) x)).ev l1=some (.ptr rr k p off,l1)) (h2:(fs.hd (oW rr k p)).ev l1=some (c,l1)) (hn:c.t.aM p=some node) (hm:c.t.eO p=true) (bf:LI c p off node new=true)
  (ht:c.t.put p (node.jo (fG node.cells off new))=t) (hk:(bif (sub node.cells off new.length).all T.scalar&&new.all T.scalar then c.k else bump ((id*1000+i+1)*8) c p)=k') (h3:(fs.hd ((Pg.wr rr ({c with k:=k',t:=t}:RC).av).bind fun _=>forget kl)).ev l1=some ((),l2)) (hf:fs.fC fun f=>f=cz)
  (h:cc id (i+1) os cz l2 K):cc id i (⟨none,.kQ n tk x v,none,kl⟩::os) fs l K:=by
 refine zo ?_ hf h
 match fs,h0,h1,h2,h3 with
 |none,h0,h1,h2,h3=>
  simp only[Fs.hd]at h0 h1 h2 h3⊢;rw[ch]at h3;simp only[aY.exec,aY.go,exec,store,Bind.bind,ch,h0,hl,if_true,h1,h2,XF hn hm bf hk ht];exact h3
 |some ((r,w)::fs),h0,h1,h2,h3=>
  simp only[Fs.hd]at h0 h1 h2 h3⊢;rw[fj,ch]at h3;simp only[aY.exec,aY.go,exec,store,Bind.bind,fj,ch,h0,hl,if_true,h1,h2,XF hn hm bf hk ht];exact h3
 |some [],h0,_,_,_=>cases h0
theorem za {sz:Nat}{agg:Bool}{zero:List T}{tk:Bool}{dd:Nat}{x y:aL}{es bQ:List T}{o2:Ob}{v:AV} (h1:(fs.hd (nk ((id*1000+i+1)*8) x)).ev l=some (.l .y sz es,l1))
  (h2:(fs.hd (raw ((id*1000+i+1)*8) y)).ev l1=some (v,l1)) (h3:(fs.hd (lX v)).ev l1=some (.l o2 sz bQ,l1)) (hlen:es.length+bQ.length<cQ) (gq:mR bQ=true) (h4:(fs.hd ((gd dd (.own ⟨(id*1000+i+1)*8,(id*1000+i+1)*8,(id*1000+i+1)*8⟩ (.l .y sz (es++bQ)))).bind fun _=>forget kl)).ev l1=some ((),l2))
  (hf:fs.fC fun f=>f=cz) (h:cc id (i+1) os cz l2 K):cc id i (⟨some dd,.dk sz agg zero tk x y,none,kl⟩::os) fs l K:=by
 refine zo ?_ hf h
 match fs,h1,h2,h3,h4 with
 |none,h1,h2,h3,h4=>
  simp only[Fs.hd]at h1 h2 h3 h4⊢;rw[ch]at h4;simp only[aY.exec,aY.go,exec,append,Bind.bind,ch,h1,h2,h3,hlen,and_self,if_true,gq];exact h4
 |some ((r,w)::fs),h1,h2,h3,h4=>
  simp only[Fs.hd]at h1 h2 h3 h4⊢;rw[fj,ch]at h4;simp only[aY.exec,aY.go,exec,append,Bind.bind,fj,ch,h1,h2,h3,hlen,and_self,if_true,gq];exact h4
 |some [],h1,_,_,_=>cases h1
theorem zA {sz:Nat}{agg:Bool}{zero:List T}{tk:Bool}{dd:Nat}{x y:aL}{es bQ iu:List T}{o2 o3:Ob}{v:AV}
  (h1:(fs.hd (nk ((id*1000+i+1)*8) x)).ev l=some (.l .y sz es,l1)) (h2:(fs.hd (raw ((id*1000+i+1)*8) y)).ev l1=some (v,l1)) (h3:(fs.hd (lX v)).ev l1=some (.l o2 sz bQ,l1)) (h5:(fs.hd (gJ ((id*1000+i+1)*8) tk y)).ev l1=some ([.l o3 sz iu],l3)) (hlen:es.length+bQ.length<cQ) (gq:mR bQ=false) (rz:es.length+iu.length<cQ)
  (h4:(fs.hd ((gd dd (.own ⟨(id*1000+i+1)*8,(id*1000+i+1)*8,(id*1000+i+1)*8⟩ (.l .y sz (es++iu)))).bind fun _=>forget kl)).ev l3=some ((),l2)) (hf:fs.fC fun f=>f=cz) (h:cc id (i+1) os cz l2 K):
  cc id i (⟨some dd,.dk sz agg zero tk x y,none,kl⟩::os) fs l K:=by
 refine zo ?_ hf h
 match fs,h1,h2,h3,h4,h5 with
 |none,h1,h2,h3,h4,h5=>
  simp only[Fs.hd]at h1 h2 h3 h4 h5⊢;rw[ch]at h4;simp only[aY.exec,aY.go,exec,append,Bind.bind,ch,h1,h2,h3,hlen,and_self,if_true,gq,cX,if_false,h5,rz];exact h4
 |some ((r,w)::fs),h1,h2,h3,h4,h5=>
  simp only[Fs.hd]at h1 h2 h3 h4 h5⊢;rw[fj,ch]at h4;simp only[aY.exec,aY.go,exec,append,Bind.bind,fj,ch,h1,h2,h3,hlen,and_self,if_true,gq,cX,if_false,h5,rz];exact h4
 |some [],h1,_,_,_,_=>cases h1
theorem E2 {e:Nat}{x:aL}{r:Nat}{k:Wr.K}{p:List Nat}{z n sz:Nat}{c:RC}{es:List T} (h1:(fs.hd (raw e x)).ev l=some (.w r k p z 0 n,l)) (h2:(fs.hd (kc r k p)).ev l=some (c,l)) (hn:c.t.aM p=some (.l .y sz es)) (hl:n=es.length)
  (hw:(fs.hd (Pg.wr r ({c with t:=c.t.put p .u}:RC).av)).ev l=some ((),l1)):(fs.hd (nk e x)).ev l=some (.l .y sz es,l1):=by
 have mz:sub es 0 es.length=es:=by simp[sub]
 subst hl
 match fs,h1,h2,hw with
 |none,h1,h2,hw=>
  simp only[Fs.hd]at h1 h2 hw⊢;simp only[nk,jX,Bind.bind,ch,h1,h2,hn,and_self,if_true,hw,mz];rfl
 |some ((r,w)::fs),h1,h2,hw=>
  simp only[Fs.hd]at h1 h2 hw⊢;simp only[nk,jX,Bind.bind,fj,ch,h1,h2,hn,and_self,if_true,hw,mz];rfl
 |some [],h1,_,_=>cases h1
theorem zv {sz:Nat}{agg:Bool}{zero:List T}{tk:Bool}{dd:Nat}{x y:aL}{r:Nat}{k:Wr.K}{p:List Nat}{z n:Nat}{c:RC}{es bQ:List T}{o2:Ob}{v:AV} (g1:(fs.hd (raw ((id*1000+i+1)*8) x)).ev l=some (.w r k p z 0 n,l)) (g2:(fs.hd (kc r k p)).ev l=some (c,l))
  (gn:c.t.aM p=some (.l .y sz es)) (gl:n=es.length) (gw:(fs.hd (Pg.wr r ({c with t:=c.t.put p .u}:RC).av)).ev l=some ((),l1))
  (h2:(fs.hd (raw ((id*1000+i+1)*8) y)).ev l1=some (v,l1)) (h3:(fs.hd (lX v)).ev l1=some (.l o2 sz bQ,l1)) (hlen:es.length+bQ.length<cQ) (gq:mR bQ=true) (h4:(fs.hd ((gd dd (.own ⟨(id*1000+i+1)*8,(id*1000+i+1)*8,(id*1000+i+1)*8⟩ (.l .y sz (es++bQ)))).bind fun _=>forget kl)).ev l1=some ((),l2))
  (hf:fs.fC fun f=>f=cz) (h:cc id (i+1) os cz l2 K):cc id i (⟨some dd,.dk sz agg zero tk x y,none,kl⟩::os) fs l K:=za (E2 g1 g2 gn gl gw) h2 h3 hlen gq h4 hf h
theorem zV {sz:Nat}{agg:Bool}{zero:List T}{tk:Bool}{dd:Nat}{x y:aL}{r:Nat}{k:Wr.K}{p:List Nat}{z n:Nat}{c:RC}{es bQ iu:List T}{o2 o3:Ob}{v:AV} (g1:(fs.hd (raw ((id*1000+i+1)*8) x)).ev l=some (.w r k p z 0 n,l)) (g2:(fs.hd (kc r k p)).ev l=some (c,l))
  (gn:c.t.aM p=some (.l .y sz es)) (gl:n=es.length) (gw:(fs.hd (Pg.wr r ({c with t:=c.t.put p .u}:RC).av)).ev l=some ((),l1))
  (h2:(fs.hd (raw ((id*1000+i+1)*8) y)).ev l1=some (v,l1)) (h3:(fs.hd (lX v)).ev l1=some (.l o2 sz bQ,l1)) (h5:(fs.hd (gJ ((id*1000+i+1)*8) tk y)).ev l1=some ([.l o3 sz iu],l3)) (hlen:es.length+bQ.length<cQ) (gq:mR bQ=false) (rz:es.length+iu.length<cQ)
  (h4:(fs.hd ((gd dd (.own ⟨(id*1000+i+1)*8,(id*1000+i+1)*8,(id*1000+i+1)*8⟩ (.l .y sz (es++iu)))).bind fun _=>forget kl)).ev l3=some ((),l2)) (hf:fs.fC fun f=>f=cz) (h:cc id (i+1) os cz l2 K):
  cc id i (⟨some dd,.dk sz agg zero tk x y,none,kl⟩::os) fs l K:=zA (E2 g1 g2 gn gl gw) h2 h3 h5 hlen gq rz h4 hf h
def Fs.drop (fs:Fs):Nat->Fs
 |0=>fs
 |n+1=>fs.tl.drop n
def Fs.CM (fs:Fs) (n:Nat) (k:Fs->Prop):Prop:=match n with
 |0=>k fs
 |n+1=>fs.fC fun f=>f.CM n k
theorem VL:∀(n:Nat) (fs:Fs) (k:Fs->Prop),fs.CM n k=k (fs.drop n)
 |0,_,_=>rfl
 |n+1,fs,k=>by rw[Fs.CM,ZF,VL n];rfl
theorem VW:∀(a c:List aY) (i:Nat) (fs:Fs) (l:LS),(tL id i a fs).ev l≠none->(tL id i (a++c) fs).ev l=match(tL id i a fs).ev l with|some (_,l')=>(tL id (i+a.length) c (fs.drop a.length)).ev l'|none=>none
 |[],c,i,fs,l,_=>by rw[VX];rfl
 |o::a,c,i,fs,l,h=>by
  have hf:fs=none\/∃x l,fs=some (x::l):=by
   match fs,h with
   |none,_=>exact .inl rfl
   |some (x::l),_=>exact .inr ⟨x,l,rfl⟩
   |some [],h=>exact absurd rfl h
  rw[IA hf,ch]at h⊢;show(tL id i (o::(a++c)) fs).ev l=_;rw[IA hf,ch];cases h1:(fs.hd (o.exec ((id*1000+i+1)*8))).ev l with
  |none=>rfl
  |some x=>
   rw[h1]at h;simp only at h⊢;rw[VW a c (i+1) fs.tl x.2 h,show i+1+a.length=i+(a.length+1) by omega];rfl
theorem Iz {n:Nat}{ops:List aY} (h:cc id i (ops.take n) fs l fun l'=>l'=l1) (hn:n<=ops.length) (hf:fs.CM n fun f=>f=cz) (h2:cc id (i+n) (ops.drop n) cz l1 K):cc id i ops fs l K:=by
 obtain⟨l',h3,h4⟩:=h.out;obtain⟨l'',h5,h6⟩:=h2.out;subst h4;rw[VL]at hf;refine⟨⟨l'',?_,h6⟩⟩;have:=VW (id:=id) (ops.take n) (ops.drop n) i fs l (by rw[h3];simp);rw[uG,h3]at this;rw[this,fU,Nat.min_eq_left hn,hf];exact h5
theorem ze {ops:List aY}{n dd:Nat}{v:Bool}{ln:LS} (hg:l.get s=.x (.b b)) (hu:L5 s (⟨d,op,some (s,true),kl⟩::ops) fun m=>m=n) (hd:Tm (List.take n (⟨d,op,some (s,true),kl⟩::ops)) fun m=>m=dd) (hn:Nat.ble n (ops.length+1)=true) (hf:fs.CM n fun f=>f=cz)
  (hy:b=true->cc id i (List.take n (⟨d,op,some (s,true),kl⟩::ops)) fs l fun l'=>l'=l1) (dK:b=(!true)->cc id i (List.take n (⟨d,op,some (s,true),kl⟩::ops)) fs l fun l'=>l'=ln) (hv:l1.get dd=.x (.b v)) (Ta:ln.get dd=.x (.b false))
  (he:l1.Bn dd (.x (.b (b&&v))) fun x=>x=l2) (qu:ln.Bn dd (.x (.b (b&&v))) fun x=>x=l2) (h:cc id (i+n) (List.drop n (⟨d,op,some (s,true),kl⟩::ops)) cz l2 K):cc id i (⟨d,op,some (s,true),kl⟩::ops) fs l K:=by
 have na:n<=(⟨d,op,some (s,true),kl⟩::ops).length:=by simpa using qM hn
 rw[PF]at he qu;cases hb:b with
 |true=>
  have:l2=l1:=by
   rw[<-he,hb,pX];exact EW _ _ _ hv
  exact Iz (hy hb) na hf (this▸h)
 |false=>
  have:l2=ln:=by
   rw[<-qu,hb,wI];exact EW _ _ _ Ta
  exact Iz (dK hb) na hf (this▸h)
theorem zf {ops:List aY}{n dd:Nat}{v:Bool}{ln:LS} (hg:l.get s=.x (.b b)) (hu:L5 s (⟨d,op,some (s,false),kl⟩::ops) fun m=>m=n) (hd:Tm (List.take n (⟨d,op,some (s,false),kl⟩::ops)) fun m=>m=dd) (hn:Nat.ble n (ops.length+1)=true) (hf:fs.CM n fun f=>f=cz)
  (hy:b=false->cc id i (List.take n (⟨d,op,some (s,false),kl⟩::ops)) fs l fun l'=>l'=l1) (dK:b=(!false)->cc id i (List.take n (⟨d,op,some (s,false),kl⟩::ops)) fs l fun l'=>l'=ln) (hv:l1.get dd=.x (.b v)) (Ta:ln.get dd=.x (.b true))
  (he:l1.Bn dd (.x (.b (b||v))) fun x=>x=l2) (qu:ln.Bn dd (.x (.b (b||v))) fun x=>x=l2) (h:cc id (i+n) (List.drop n (⟨d,op,some (s,false),kl⟩::ops)) cz l2 K):cc id i (⟨d,op,some (s,false),kl⟩::ops) fs l K:=by
 have na:n<=(⟨d,op,some (s,false),kl⟩::ops).length:=by simpa using qM hn
 rw[PF]at he qu;cases hb:b with
 |false=>
  have:l2=l1:=by
   rw[<-he,hb,Bool.false_or];exact EW _ _ _ hv
  exact Iz (hy hb) na hf (this▸h)
 |true=>
  have:l2=ln:=by
   rw[<-qu,hb,Bool.true_or];exact EW _ _ _ Ta
  exact Iz (dK hb) na hf (this▸h)
end
section
variable {l:LS}{us:List Nat}{K:Ex->LS->List Nat->Prop}
def L0:eB->LS->List Nat->(Ex->LS->List Nat->Prop)->Prop
 |.sk,l,us,K=>K .nx l us
 |.ret,l,us,K=>K .ret l us
 |.exit id,l,us,K=>K (.exit id) l us
 |.seq a b,l,us,K=>Ev a l us (afX b K)
 |.aO id c,l,us,K=>Ev c l us (P2 id K)
 |.sR id fs ops,l,us,K=>bif us.contains id then False else cc id 0 ops fs l fun l'=>K .nx l' (id::us)
 |_,_,_,_=>False
def isStep:eB->Bool
 |.cond _ _ _=>false
 |.loop _ _=>false
 |.bad=>false
 |_=>true
theorem zcc:∀{c:eB}{l:LS}{us:List Nat}{K:Ex->LS->List Nat->Prop},L0 c l us K->Ev c l us K
 |.sk,_,_,_,h=>Z62 h
 |.ret,_,_,_,h=>Z5z h
 |.exit _,_,_,_,h=>Z5u h
 |.seq _ _,_,_,_,h=>Z61 h
 |.aO _ _,_,_,_,h=>Z5q h
 |.sR id fs ops,l,us,K,h=>by
  simp only[L0]at h;cases hu:us.contains id with
  |true=>rw[hu]at h;exact h.elim
  |false=>
   rw[hu]at h;obtain⟨l',h1,h2⟩:=h.out;refine⟨.nx,l',id::us,?_,h2⟩;simp only[den,hu,cX,if_false];have:(afU id fs ops).run l.of=some ((),l'.of):=by
    cases fs<;>exact qa _ h1
   rw[this]
theorem zc {c:eB} (hs:isStep c=true) (h:L0 c l us K):Ev c l us K:=zcc h
theorem zt {c:aL}{a b:eB}{t:Bool}{l l1:LS}{us:List Nat}{K:Ex->LS->List Nat->Prop} (h:(raw 0 c).ev l=some (.x (.b t),l1)) (h1:t=true->Ev a l us K) (h2:t=false->Ev b l us K):Ev (.cond c a b) l us K:=Ox h h1 h2
theorem zt1 {c:aL}{a b:eB}{t:Bool}{l l1:LS}{us:List Nat}{K:Ex->LS->List Nat->Prop} (h:(raw 0 c).ev l=some (.x (.b t),l1)) (ht:t=true) (h1:Ev a l us K):Ev (.cond c a b) l us K:=Z5t h ht h1
theorem zt0 {c:aL}{a b:eB}{t:Bool}{l l1:LS}{us:List Nat}{K:Ex->LS->List Nat->Prop} (h:(raw 0 c).ev l=some (.x (.b t),l1)) (ht:t=false) (h1:Ev b l us K):Ev (.cond c a b) l us K:=Z5s h ht h1
theorem cF {bY:List Nat}{c:eB}{l:LS}{us:List Nat}{K:Ex->LS->List Nat->Prop}{α β:Type} (f:α->T) (xs:List α) (S:Nat->β->LS) (Inv:Nat->β->Prop) (x0:β) (h0:Inv 0 x0) (hS:(l.gy bY fun x=>x)=S 0 x0)
  (step:∀i x y,xs[i]?=some y->i<xs.length->decide ((i:Int)<(xs.map f).length)=true->decide ((i:Int)<xs.length)=true->Inv i x->
   (∀x',Inv (i+1) x'->∀l' ed,(l'.gy bY fun x=>x)=S (i+1) x'->pE bY c K .nx l' ed)->Ev c (S i x) [] (pE bY c K))
  (last:∀x,decide ((xs.length:Int)<(xs.map f).length)=false->decide ((xs.length:Int)<xs.length)=false->Inv xs.length x->Ev c (S xs.length x) [] (pE bY c K)):Ev (.loop bY c) l us K:=by
 refine jS S Inv xs.length x0 h0 hS fun i x hi hx ih=>?_;rcases js i xs.length with aF|fL
 ·exact step i x xs[i] (bF aF) aF (by simpa using aF) (by simpa using aF) hx fun x' jh=>ih x' aF jh
 ·have:i=xs.length:=by omega
  subst this;exact last x (by simp) (by simp) hx
end
namespace C
abbrev o (d:Nat) (p:jr) (k:List Nat):aY:=⟨some d,p,none,k⟩
abbrev n (p:jr) (k:List Nat):aY:=⟨none,p,none,k⟩
abbrev g (s:Nat) (x:aY):aY:=⟨x.d,x.op,some (s,true),x.kl⟩
abbrev h (s:Nat) (x:aY):aY:=⟨x.d,x.op,some (s,false),x.kl⟩
abbrev v (d x:Nat) (k:List Nat):aY:=⟨some d,.mv (.t x),none,k⟩
abbrev w (d x:Nat) (k:List Nat):aY:=⟨some d,.uW (.t x),none,k⟩
abbrev j (d:Nat) (x:T) (k:List Nat):aY:=⟨some d,.uW (.k x),none,k⟩
abbrev l (d x:Nat) (k:List Nat):aY:=⟨some d,.ld none (.t x),none,k⟩
abbrev L (d n x:Nat) (k:List Nat):aY:=⟨some d,.ld (some n) (.t x),none,k⟩
abbrev f (d x m:Nat) (k:List Nat):aY:=⟨some d,.fa (.t x) m,none,k⟩
abbrev i (d m x y:Nat) (k:List Nat):aY:=⟨some d,.ia m (.t x) (.t y),none,k⟩
abbrev b (d:Nat) (p:BinOp) (x y:Nat) (k:List Nat):aY:=⟨some d,.bin p .o (.t x) (.t y),none,k⟩
abbrev B (d:Nat) (p:BinOp) (x:Nat) (y:Int) (k:List Nat):aY:=⟨some d,.bin p .o (.t x) (.k (.i .i64 y)),none,k⟩
abbrev u (d x:Nat) (k:List Nat):aY:=⟨some d,.un .not (.t x),none,k⟩
abbrev m (d x:Nat) (k:List Nat):aY:=⟨some d,.len false (.t x),none,k⟩
abbrev c (d:Nat) (g:Nat) (F:aB) (a:List (fN×aL)) (k:List Nat):aY:=⟨some d,.call g F a,none,k⟩
abbrev S (x:Nat):fN×aL:=(.S,.t x)
abbrev s (z a x:Nat) (k:List Nat):aY:=⟨none,.kQ z true (.t a) (.t x),none,k⟩
abbrev Y (x:Int):T:=.i .i64 x
abbrev q:List eB->eB
 |[]=>.sk
 |[a]=>a
 |a::l=>.seq a (q l)
abbrev r (i:Nat) (l:List aY):eB:=.sR i none l
abbrev R (i:Nat) (fs:List (List Nat×List Nat)) (l:List aY):eB:=.sR i (some fs) l
abbrev t (x:Nat) (a b:eB):eB:=.cond (.t x) a b
abbrev k (i:Nat) (a:eB):eB:=.aO i a
abbrev p (l:List Nat) (a:eB):eB:=.loop l a
abbrev e (i:Nat):eB:=.exit i
abbrev x:eB:=.ret
abbrev z:eB:=.sk
abbrev o' (d:Nat) (p:jr):aY:=⟨some d,p,none,[]⟩
abbrev n' (p:jr):aY:=⟨none,p,none,[]⟩
abbrev v' (d x:Nat):aY:=⟨some d,.mv (.t x),none,[]⟩
abbrev vv (d x:Nat):aY:=⟨some d,.mv (.t x),none,[x]⟩
abbrev w' (d x:Nat):aY:=⟨some d,.uW (.t x),none,[]⟩
abbrev ww (d x:Nat):aY:=⟨some d,.uW (.t x),none,[x]⟩
abbrev j' (d:Nat) (x:T):aY:=⟨some d,.uW (.k x),none,[]⟩
abbrev l' (d x:Nat):aY:=⟨some d,.ld none (.t x),none,[]⟩
abbrev ll (d x:Nat):aY:=⟨some d,.ld none (.t x),none,[x]⟩
abbrev L' (d n x:Nat):aY:=⟨some d,.ld (some n) (.t x),none,[]⟩
abbrev LL (d n x:Nat):aY:=⟨some d,.ld (some n) (.t x),none,[x]⟩
abbrev f' (d x m:Nat):aY:=⟨some d,.fa (.t x) m,none,[]⟩
abbrev ff (d x m:Nat):aY:=⟨some d,.fa (.t x) m,none,[x]⟩
abbrev i' (d m x y:Nat):aY:=⟨some d,.ia m (.t x) (.t y),none,[]⟩
abbrev ii (d m x y:Nat):aY:=⟨some d,.ia m (.t x) (.t y),none,[x,y]⟩
abbrev b' (d:Nat) (p:BinOp) (x y:Nat):aY:=⟨some d,.bin p .o (.t x) (.t y),none,[]⟩
abbrev bb (d:Nat) (p:BinOp) (x y:Nat):aY:=⟨some d,.bin p .o (.t x) (.t y),none,[x,y]⟩
abbrev BB (d:Nat) (p:BinOp) (x:Nat) (y:Int):aY:=⟨some d,.bin p .o (.t x) (.k (.i .i64 y)),none,[x]⟩
abbrev u' (d x:Nat):aY:=⟨some d,.un .not (.t x),none,[]⟩
abbrev uu (d x:Nat):aY:=⟨some d,.un .not (.t x),none,[x]⟩
abbrev m' (d x:Nat):aY:=⟨some d,.len false (.t x),none,[]⟩
abbrev mm (d x:Nat):aY:=⟨some d,.len false (.t x),none,[x]⟩
abbrev d (d:Nat) (g:Nat) (F:aB) (a:List Nat) (k:List Nat):aY:=⟨some d,.call g F (a.map S),none,k⟩
abbrev d' (d:Nat) (g:Nat) (F:aB) (a:List Nat):aY:=⟨some d,.call g F (a.map S),none,[]⟩
abbrev dd (d:Nat) (g:Nat) (F:aB) (a:List Nat):aY:=⟨some d,.call g F (a.map S),none,a⟩
abbrev s' (z a x:Nat):aY:=⟨none,.kQ z true (.t a) (.t x),none,[]⟩
abbrev ss (z a x:Nat):aY:=⟨none,.kQ z true (.t a) (.t x),none,[x]⟩
def fl:aL->List Nat
 |.t n=>[n]
 |.k _=>[]
def Us:List (Nat×Nat×aL)->List Nat
 |[]=>[]
 |(_,_,x)::l=>fl x++Us l
def L2:List (fN×aL)->List Nat
 |[]=>[]
 |(_,x)::l=>fl x++L2 l
def L3:List aL->List Nat
 |[]=>[]
 |x::l=>fl x++L3 l
def A8:Option aL->List Nat
 |some x=>fl x
 |none=>[]
def tm:jr->List Nat
 |.mv x=>fl x
 |.uW x=>fl x
 |.pick c a b=>fl c++fl a++fl b
 |.box _ x=>fl x
 |.fa x _=>fl x
 |.ia _ x y=>fl x++fl y
 |.xO _ _ x y=>fl x++fl y
 |.ld _ x=>fl x
 |.GS x=>fl x
 |.kQ _ _ x v=>fl x++fl v
 |.bin _ _ x y=>fl x++fl y
 |.un _ x=>fl x
 |.J6 _ x=>fl x
 |.atH x=>fl x
 |.L4 x=>fl x
 |.v7 _ _ _ x y=>fl x++fl y
 |.qJ _ _ x lo hi=>fl x++A8 lo++A8 hi
 |.jU _ _ l=>Us l
 |.dN _ _ _ _ _ l=>Us l
 |.ext x _=>fl x
 |.len _ x=>fl x
 |.dk _ _ _ _ x y=>fl x++fl y
 |.mn l=>L3 l
 |.mx l=>L3 l
 |.call _ _ l=>L2 l
 |.tK x _ l=>fl x++L2 l
 |.fn _ l=>L3 l
 |.J9 _ x=>fl x
 |.qE x=>fl x
 |.iq _ _ x l=>fl x++L2 l
 |.CF x=>fl x
 |.oB (.ld _ x)=>fl x
 |.oB (.kQ _ _ x v)=>fl x++fl v
 |.oB (.dk _ _ _ _ x y)=>fl x++fl y
 |_=>[]
def Qg:List Nat->List Nat
 |[]=>[]
 |x::l=>bif Nat.ble 100000000 x then Qg l else x::Qg l
def Qh:List Nat->List Nat
 |[]=>[]
 |x::l=>bif Nat.ble 100000000 x then(x-100000000)::Qh l else Qh l
def ft (o:aY) (e:List Nat):List Nat×List Nat:=
 let w:=(match o.d with|some d=>[d]|none=>[])++o.kl++Qh e
 (tm o.op++(match o.guard with|some (s,_)=>[s]|none=>[])++w++Qg e,w)
def Qi:List aY->List (List Nat)->List (List Nat×List Nat)
 |o::os,e::es=>ft o e::Qi os es
 |_,_=>[]
abbrev D (i:Nat) (es:List (List Nat)) (l:List aY):eB:=.sR i (some (Qi l es)) l
end C
section
variable {id i:Nat}{os:List aY}{fs cz:Fs}{l l1 l2:LS}{K:LS->Prop}{kl:List Nat}
theorem B2 {sz:Nat}{agg:Bool}{zero:List T}{tk:Bool}{dd:Nat}{x y:aL}{es bQ:List T}{o2 o3:Ob}{v:AV}
  (h1:(fs.hd (nk ((id*1000+i+1)*8) x)).ev l=some (.l .y sz es,l1)) (h2:(fs.hd (raw ((id*1000+i+1)*8) y)).ev l1=some (v,l1)) (h3:(fs.hd (lX v)).ev l1=some (.l o2 sz bQ,l1)) (h5:(fs.hd (gJ ((id*1000+i+1)*8) tk y)).ev l1=some ([.l o3 sz bQ],l1)) (hlen:es.length+bQ.length<cQ)
  (h4:(fs.hd ((gd dd (.own ⟨(id*1000+i+1)*8,(id*1000+i+1)*8,(id*1000+i+1)*8⟩ (.l .y sz (es++bQ)))).bind fun _=>forget kl)).ev l1=some ((),l2)) (hf:fs.fC fun f=>f=cz) (h:cc id (i+1) os cz l2 K):
  cc id i (⟨some dd,.dk sz agg zero tk x y,none,kl⟩::os) fs l K:=by
 cases gq:mR bQ with
 |true=>exact za h1 h2 h3 hlen gq h4 hf h
 |false=>exact zA h1 h2 h3 h5 hlen gq hlen h4 hf h
theorem B7 {sz:Nat}{agg:Bool}{zero:List T}{tk:Bool}{dd:Nat}{x y:aL}{es bQ iu:List T}{o2 o3:Ob}{v:AV}{l3:LS}
  (h1:(fs.hd (nk ((id*1000+i+1)*8) x)).ev l=some (.l .y sz es,l1)) (h2:(fs.hd (raw ((id*1000+i+1)*8) y)).ev l1=some (v,l1)) (h3:(fs.hd (lX v)).ev l1=some (.l o2 sz iu,l1)) (h5:(fs.hd (gJ ((id*1000+i+1)*8) tk y)).ev l1=some ([.l o3 sz bQ],l3)) (he:iu=bQ) (hlen:es.length+bQ.length<cQ)
  (h4:(fs.hd ((gd dd (.own ⟨(id*1000+i+1)*8,(id*1000+i+1)*8,(id*1000+i+1)*8⟩ (.l .y sz (es++bQ)))).bind fun _=>forget kl)).ev l3=some ((),l2)) (h4':(fs.hd ((gd dd (.own ⟨(id*1000+i+1)*8,(id*1000+i+1)*8,(id*1000+i+1)*8⟩ (.l .y sz (es++bQ)))).bind fun _=>forget kl)).ev l1=some ((),l2)) (hf:fs.fC fun f=>f=cz) (h:cc id (i+1) os cz l2 K):
  cc id i (⟨some dd,.dk sz agg zero tk x y,none,kl⟩::os) fs l K:=by
 subst he;cases gq:mR iu with
 |true=>exact za h1 h2 h3 hlen gq h4' hf h
 |false=>exact zA h1 h2 h3 h5 hlen gq hlen h4 hf h
theorem L8 {sz:Nat}{agg:Bool}{zero:List T}{tk:Bool}{dd:Nat}{x y:aL}{r:Nat}{k:Wr.K}{p:List Nat}{z n:Nat}{c:RC}{es bQ:List T}{o2 o3:Ob}{v:AV} (g1:(fs.hd (raw ((id*1000+i+1)*8) x)).ev l=some (.w r k p z 0 n,l)) (g2:(fs.hd (kc r k p)).ev l=some (c,l))
  (gn:c.t.aM p=some (.l .y sz es)) (gl:n=es.length) (gw:(fs.hd (Pg.wr r ({c with t:=c.t.put p .u}:RC).av)).ev l=some ((),l1))
  (h2:(fs.hd (raw ((id*1000+i+1)*8) y)).ev l1=some (v,l1)) (h3:(fs.hd (lX v)).ev l1=some (.l o2 sz bQ,l1)) (h5:(fs.hd (gJ ((id*1000+i+1)*8) tk y)).ev l1=some ([.l o3 sz bQ],l1)) (hlen:es.length+bQ.length<cQ)
  (h4:(fs.hd ((gd dd (.own ⟨(id*1000+i+1)*8,(id*1000+i+1)*8,(id*1000+i+1)*8⟩ (.l .y sz (es++bQ)))).bind fun _=>forget kl)).ev l1=some ((),l2)) (hf:fs.fC fun f=>f=cz) (h:cc id (i+1) os cz l2 K):
  cc id i (⟨some dd,.dk sz agg zero tk x y,none,kl⟩::os) fs l K:=B2 (E2 g1 g2 gn gl gw) h2 h3 h5 hlen h4 hf h
theorem Eg {e P7 m:Nat}{x:aL}{k:IntKind}{n:Int} (h:(fs.hd (raw e x)).ev l=some (.x (.i k n),l)) (hn:n=m):(fs.hd (qj e P7 (some x))).ev l=some (m,l):=by
 subst hn
 match fs,h with
 |none,h=>
  simp only[Fs.hd]at h⊢;simp only[qj,Bind.bind,ch,h,pY,if_true];rfl
 |some ((r,w)::fs),h=>
  simp only[Fs.hd]at h⊢;simp only[qj,Bind.bind,fj,ch,h,pY,if_true];rfl
 |some [],h=>cases h
theorem zu {sz:Nat}{tk:Bool}{d:Option Nat}{x:aL}{lo hi:Option aL}{es bQ:List T}{m n:Nat} (h1:(fs.hd (look ((id*1000+i+1)*8) x)).ev l=some (.x (.l .n sz es),l)) (h2:(fs.hd (qj ((id*1000+i+1)*8) es.length hi)).ev l=some (n,l)) (h3:(fs.hd (qj ((id*1000+i+1)*8) 0 lo)).ev l=some (m,l))
  (h4:m<=n/\n<=es.length) (hs:Nat.ble 1 sz=true) (he:sub es m (n-m)=bQ) (h5:(fs.hd ((dE d (.x (.l .n sz bQ))).bind fun _=>forget kl)).ev l=some ((),l1)) (hf:fs.fC fun f=>f=cz) (h:cc id (i+1) os cz l1 K):cc id i (⟨d,.qJ sz tk x lo hi,none,kl⟩::os) fs l K:=by
 refine zo ?_ hf h;have fY:0<sz:=qM hs;subst he
 match fs,h1,h2,h3,h5 with
 |none,h1,h2,h3,h5=>
  simp only[Fs.hd]at h1 h2 h3 h5⊢;rw[ch]at h5;simp only[aY.exec,aY.go,exec,slice,Bind.bind,ch,h1,h2,h3,h4,fY,and_self,if_true,Pure.pure,ja];exact h5
 |some ((r,w)::fs),h1,h2,h3,h5=>
  simp only[Fs.hd]at h1 h2 h3 h5⊢;rw[fj,ch]at h5;simp only[aY.exec,aY.go,exec,slice,Bind.bind,fj,ch,h1,h2,h3,h4,fY,and_self,if_true,Pure.pure,r8,ja];exact h5
 |some [],h1,_,_,_=>cases h1
theorem JJ {α:Type}{f:α->T}{l:List α}{i:Nat}:sub (l.map f) 0 (i-0)=(l.take i).map f:=by simp[sub,List.map_take]
theorem zkM (g:Nat) {F:aB}{d:Option Nat}{x y:aL}{r z n sz:Nat}{k kk:Wr.K}{es:List T}{hb:Hand}{gH:List Arg}{q:Out} (h1:(fs.hd (raw ((id*1000+i+1)*8) x)).ev l=some (.w r k [] z 0 n,l)) (h2:(fs.hd (kc r k [])).ev l=some (⟨false,kk,.l .y sz es⟩,l)) (hn:n=es.length) (hr:Nat.ble (r+1) 1000=true)
  (hy:(fs.hd (hand ((id*1000+i+1)*8) .S y none)).ev l=some (hb,l)) (ha:[.mu (.l .y sz es),hb.arg]=gH) (hq:F gH=some q) (h3:jV [{arg:=.mu (.l .y sz es),box:=some r},hb] q=true) (h4:(fs.hd ((qk ((id*1000+i+1)*8) d [{arg:=.mu (.l .y sz es),box:=some r},hb] q).bind fun _=>forget kl)).ev l=some ((),l2)) (hf:fs.fC fun f=>f=cz) (hK:cc id (i+1) os cz l2 K):
  cc id i (⟨d,.call g F [(.M,x),(.S,y)],none,kl⟩::os) fs l K:=by
 refine zk g (l1:=l) (hs:=[{arg:=.mu (.l .y sz es),box:=some r},hb]) ?_ ha hq h3 h4 hf hK;have py:r<1000:=qM hr
 match fs,h1,h2,hy with
 |none,h1,h2,hy=>
  simp only[Fs.hd]at h1 h2 hy⊢;have e1:(hand ((id*1000+i+1)*8) .M x none).ev l=some ({arg:=.mu (.l .y sz es),box:=some r},l):=by
   simp only[hand,Bind.bind,ch,h1,h2,hn,py,and_self,if_true];rfl
  simp only[oz,ny,ml,Bind.bind,ch,Pure.pure,ja,List.head?_cons,Option.join_some,List.tail_cons,e1,hy,nW,s8]
 |some ((r2,w)::fs),h1,h2,hy=>
  simp only[Fs.hd]at h1 h2 hy⊢;have e1:((hand ((id*1000+i+1)*8) .M x none).within r2 w).ev l=some ({arg:=.mu (.l .y sz es),box:=some r},l):=by
   simp only[hand,Bind.bind,fj,ch,h1,h2,hn,py,and_self,if_true];rfl
  simp only[oz,ny,ml,Bind.bind,fj,r8,ch,Pure.pure,ja,List.head?_cons,Option.join_some,List.tail_cons,e1,hy,nW,s8]
 |some [],h1,_,_=>cases h1
end
theorem tc {hs:List Hand}{sz:Nat}{es:List T} (ha:apart hs=true) (hc:cP es=true):jV hs ⟨[.one (.l .y sz es)],[]⟩=true:=by
 simp[jV,ha,RV.closed,T.closed,hc,RV.lO]
theorem cm {α:Type}{f:α->T} (h:∀x,(f x).closed=true) (l:List α):cP (l.map f)=true:=by
 induction l with
 |nil=>rfl
 |cons x l ih=>simp[cP,h x,ih]
end Go.Wr

