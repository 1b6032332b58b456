/-
  What is proved: lemmas for the laws. No condition.
-/
import Derived.Test.YtbghjecopkbhlaaGreatQh
set_option linter.unusedVariables false
set_option linter.unusedSimpArgs false
namespace Go.Wr
set_option maxRecDepth 20000
def tR (rows:List (List au)) (i c:Nat):Bool:=(rows.take i).any fun rs=>match rs[c]? with|some r=> !r.bV.isEmpty|none=>false
theorem Cc {o:Ob} (l:List aa):decide (((l.map (aa.el o)).length:Int)>0)= !l.isEmpty:=by
 cases l with
 |nil=>rfl
 |cons a l=>simp
theorem Zba (h:aA) (hl:h.al<=4000000) (hn:li h=false\/(eM h 0=false/\eM h 1=false)) (hp:li h=true->ly h):HU [.st (h.cs .n)]=some ⟨[.one (iT (-1)),.one (iT (-1)),.st (h.cs .y)],[]⟩:=by
 have h0:=Hf h hl;have h1:=DC h hl;have h2:=afK h hl;cases ho:li h with
 |false=>
  rw[ho]at h1
  (refine aP rfl ?_;show Ev xU.code _ _ _)
  repeat' (first|refine yy ?_|refine ym ?_|(apply zf;iterate 5 exact rfl)|refine yp ?_|refine yk oE (h0) ?_|refine yk lN (h1) ?_|refine yk FT (h2) ?_|refine ak ?_ (ht:=rfl)|refine ai ?_ (ht:=rfl)|refine ym ?_ (ht:=rfl)|refine yy ?_ (ht:=rfl)|refine yp ?_ (ht:=rfl)|refine ak ?_|refine ai ?_|refine yt ?_ ?_|refine yo ?_|apply zn|refine yc ?_|exact rfl|intro _)
  show ∃l',(leave xU).ev _=some (_,l');refine fin rfl ?_;simp only[bN];rfl
 |true=>
  rw[ho]at h1;have gK:eM h 0=false/\eM h 1=false:=by
   rcases hn with h|h
   ·rw[h]at ho;cases ho
   ·exact h
  have hi:=(OS (hp ho)).2 gK;rw[hi]at h2
  (refine aP rfl ?_;show Ev xU.code _ _ _)
  repeat' (first|refine yy ?_|refine ym ?_|(apply zf;iterate 5 exact rfl)|refine yp ?_|refine yk oE (h0) ?_|refine yk lN (h1) ?_|refine yk FT (h2) ?_|refine ak ?_ (ht:=rfl)|refine ai ?_ (ht:=rfl)|refine ym ?_ (ht:=rfl)|refine yy ?_ (ht:=rfl)|refine yp ?_ (ht:=rfl)|refine ak ?_|refine ai ?_|refine yt ?_ ?_|refine yo ?_|apply zn|refine yc ?_|exact rfl|intro _)
  show ∃l',(leave xU).ev _=some (_,l');refine fin rfl ?_;simp only[bN];rfl
set_option maxHeartbeats 8000000 in
theorem Zbb (h:aA) (hp:ly h) (ho:li h=true) (hl:h.al<=4000000) (hn:¬(eM h 0=false/\eM h 1=false)):∃x,A5 h=some x/\Eb h x/\HU [.st (h.cs .n)]=some ⟨[.one (iT x.gp),.one (iT x.lK),.st ((Hl h x).cs .y)],[]⟩:=by
 obtain⟨t,r,x,hc,hT,oO,hz,GC,hr,rfl,hx,bf⟩:=Ja hp hn;refine⟨_,hx,bf,?_⟩;have h0:=Hf h hl;have h1:=DC h hl;rw[ho]at h1;have h2:=afK h hl;have hi:(((fR h).length:Int)==0)=false:=by
  rw[beq_eq_false_iff_ne];intro e;exact hn ((OS hp).1 (by omega))
 have h3:=as3 (eM h 0) (eM h 1) h.fT h.aT.iV;rw[show um (eM h 0) (eM h 1) h.fT h.aT.iV=fD h from rfl]at h3;have h4:=as2 _ _ _ t (YH hp _) (kH.2 hp.weights) (by simp[bq];exact hp.LV) (uU.2 oO) hz GC;have h5:=as4 h hp ho hl (fD h).1.toNat (by rcases hc with hc|hc<;>rw[hc]<;>simp);obtain⟨t0,t1,Ak⟩:=ZL hp;obtain⟨⟨l0⟩,⟨l1⟩,⟨l2⟩,⟨l3⟩,⟨l4⟩,⟨l5⟩,hR⟩:=ET hp;have hh:∀c,eM h c=tR h.Rows 3 c:=fun c=>by unfold eM tR;rw[hR];rfl
 rw[hh 0,hh 1]at h3;generalize Aq:fD h=ce at*;obtain⟨ci,sn⟩:=ce;clear hx bf GC hz oO hn Aq hp hl hh;simp only at hc hT h3 h4 h5;have er:((r.1.toNat:Nat):Int)=r.1:=by omega
 have ec:((ci.toNat:Nat):Int)=ci:=by omega
 rw[ec]at h5;generalize fS h ci.toNat=s0 at*;obtain⟨cf,ck,cl,ss,rows,ts,si,ro,ou⟩:=h;simp only at Ak hR hT;subst Ak hR
 (refine aP rfl ?_;show Ev xU.code _ _ _)
 repeat' (first|refine yy ?_|refine ym ?_|(apply zf;iterate 5 exact rfl)|refine yp ?_|refine yk oE (h0) ?_|refine yk lN (h1) ?_|refine yk FT (h2) ?_|refine ai ?_ (ht:=hi)|refine ak ?_ (ht:=rfl)|refine ai ?_ (ht:=rfl)|refine ym ?_ (ht:=rfl)|refine yy ?_ (ht:=rfl)|refine yp ?_ (ht:=rfl)|refine ak ?_|refine ai ?_|refine yt ?_ ?_|refine yo ?_|apply zn|refine yc ?_|exact rfl|intro _)
 show Ev (.loop _ _) _ _ _;refine jS (fun i (p:Bool×Bool)=>[(1,.box ⟨0,0,0⟩ (aA.cs .n ⟨cf,ck,cl,ss,[[⟨l0⟩,⟨l1⟩],[⟨l2⟩,⟨l3⟩],[⟨l4⟩,⟨l5⟩]],[t0,t1],si,ro,ou⟩)),(4,.box ⟨0,0,0⟩ (aA.zero.cs .y)),(5,.box ⟨0,0,0⟩ (aA.cs .y ⟨cf,ck,cl,ss,[[⟨l0⟩,⟨l1⟩],[⟨l2⟩,⟨l3⟩],[⟨l4⟩,⟨l5⟩]],[t0,t1],si,ro,ou⟩)),(6,.box ⟨0,0,0⟩ [.b p.1,.b p.2]),(27,.x (.l .n 1 ([[⟨l0⟩,⟨l1⟩],[⟨l2⟩,⟨l3⟩],[⟨l4⟩,⟨l5⟩]].map (au.ls .n)))),(28,.x (iT 3)),(29,.x (iT i))]) (fun i p=>p.1=tR [[⟨l0⟩,⟨l1⟩],[⟨l2⟩,⟨l3⟩],[⟨l4⟩,⟨l5⟩]] i 0/\p.2=tR [[⟨l0⟩,⟨l1⟩],[⟨l2⟩,⟨l3⟩],[⟨l4⟩,⟨l5⟩]] i 1) 3 (false,false) ⟨rfl,rfl⟩ rfl ?_;rintro i ⟨x,y⟩ kp ⟨e1,e2⟩ ih;simp only at e1 e2;rcases(by omega:i=0\/i=1\/i=2\/i=3) with rfl|rfl|rfl|rfl
 ·have go:=ih (!l0.isEmpty||x, !l1.isEmpty||y) (by omega) ⟨by rw[e1];simp[tR,BO,BN,BP],by rw[e2];simp[tR,BO,BN,BP]⟩;clear ih e1 e2 h0 h1 h2 h3 h4 h5;rw[<-Cc (o:=.n) l0,<-Cc (o:=.n) l1]at go;cases x<;>cases y<;>simp only[Bool.or_false,wJ]at go;all_goals repeat' (first|refine yy ?_|refine ym ?_|(apply zf;iterate 5 exact rfl)|refine yp ?_|refine DM (bY:=[1,4,5,6,8,27,28,29,33,34,35]) ?_|refine ak ?_ (ht:=rfl)|refine ai ?_ (ht:=rfl)|refine ym ?_ (ht:=rfl)|refine yy ?_ (ht:=rfl)|refine yp ?_ (ht:=rfl)|refine ak ?_|refine ai ?_|refine yt ?_ ?_|refine yo ?_|apply zn|refine yc ?_|exact rfl|intro _)
  all_goals exact go _ _ rfl
 ·have go:=ih (!l2.isEmpty||x, !l3.isEmpty||y) (by omega) ⟨by rw[e1];simp[tR,BO,BN,BP],by rw[e2];simp[tR,BO,BN,BP]⟩;clear ih e1 e2 h0 h1 h2 h3 h4 h5;rw[<-Cc (o:=.n) l2,<-Cc (o:=.n) l3]at go;cases x<;>cases y<;>simp only[Bool.or_false,wJ]at go;all_goals repeat' (first|refine yy ?_|refine ym ?_|(apply zf;iterate 5 exact rfl)|refine yp ?_|refine DM (bY:=[1,4,5,6,8,27,28,29,33,34,35]) ?_|refine ak ?_ (ht:=rfl)|refine ai ?_ (ht:=rfl)|refine ym ?_ (ht:=rfl)|refine yy ?_ (ht:=rfl)|refine yp ?_ (ht:=rfl)|refine ak ?_|refine ai ?_|refine yt ?_ ?_|refine yo ?_|apply zn|refine yc ?_|exact rfl|intro _)
  all_goals exact go _ _ rfl
 ·have go:=ih (!l4.isEmpty||x, !l5.isEmpty||y) (by omega) ⟨by rw[e1];simp[tR,BO,BN,BP],by rw[e2];simp[tR,BO,BN,BP]⟩;clear ih e1 e2 h0 h1 h2 h3 h4 h5;rw[<-Cc (o:=.n) l4,<-Cc (o:=.n) l5]at go;cases x<;>cases y<;>simp only[Bool.or_false,wJ]at go;all_goals repeat' (first|refine yy ?_|refine ym ?_|(apply zf;iterate 5 exact rfl)|refine yp ?_|refine DM (bY:=[1,4,5,6,8,27,28,29,33,34,35]) ?_|refine ak ?_ (ht:=rfl)|refine ai ?_ (ht:=rfl)|refine ym ?_ (ht:=rfl)|refine yy ?_ (ht:=rfl)|refine yp ?_ (ht:=rfl)|refine ak ?_|refine ai ?_|refine yt ?_ ?_|refine yo ?_|apply zn|refine yc ?_|exact rfl|intro _)
  all_goals exact go _ _ rfl
 ·clear ih;rw[<-e1,<-e2]at h3;rcases hc with rfl|rfl
  ·obtain rfl:t0=t:=by simpa using hT
   repeat' (first|refine yy ?_|refine ym ?_|(apply zf;iterate 5 exact rfl)|refine yp ?_|refine yk Ki (h3) ?_|refine yk Kj (h5) ?_|refine yw Kh (h4) (Io (aK.cl _) rfl) ?_|refine ak ?_ (ht:=rfl)|refine ai ?_ (ht:=rfl)|refine ak ?_|refine ai ?_|refine yt ?_ ?_|refine yo ?_|apply zn|refine yc ?_|exact rfl|intro _)
   show ∃l',(leave xU).ev _=some (_,l');refine fin rfl ?_;simp only[bN,er];rfl
  ·obtain rfl:t1=t:=by simpa using hT
   repeat' (first|refine yy ?_|refine ym ?_|(apply zf;iterate 5 exact rfl)|refine yp ?_|refine yk Ki (h3) ?_|refine yk Kj (h5) ?_|refine yw Kh (h4) (Io (aK.cl _) rfl) ?_|refine ak ?_ (ht:=rfl)|refine ai ?_ (ht:=rfl)|refine ak ?_|refine ai ?_|refine yt ?_ ?_|refine yo ?_|apply zn|refine yc ?_|exact rfl|intro _)
   show ∃l',(leave xU).ev _=some (_,l');refine fin rfl ?_;simp only[bN,er];rfl
end Go.Wr

