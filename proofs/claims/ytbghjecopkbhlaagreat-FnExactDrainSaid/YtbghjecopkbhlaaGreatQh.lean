/-
  What is proved: lemmas for the laws. No condition.
-/
import Derived.Test.YtbghjecopkbhlaaGreatQe
import Derived.Test.YtbghjecopkbhlaaGreatPc
import Derived.Test.YtbghjecopkbhlaaGreatQc
set_option linter.unusedVariables false
set_option linter.unusedSimpArgs false
namespace Go.Wr
set_option maxRecDepth 20000
theorem ET {h:aA} (hp:ly h):∃a b c d e f,h.Rows=[[a,b],[c,d],[e,f]]:=by
 have h1:=hp.rows;have h2:=hp.two
 match hR:h.Rows,h1 with
 |[x,y,z],_=>
  rw[hR]at h2;have hx:=h2 x (by simp);have hy:=h2 y (by simp);have hz:=h2 z (by simp)
  match x,hx,y,hy,z,hz with
  |[a,b],_,[c,d],_,[e,f],_=>exact⟨a,b,c,d,e,f,rfl⟩
theorem qS {h:aA}{i k:Nat}{rs:List au}{e:aa}{l:List aa} (hl:h.al<=4000000) (hx:h.Rows[i]?=some rs) (hy:rs[k]?=some ⟨e::l⟩):e.al<=4000000:=by
 have h1:=ES hl hx hy;have h2:=gk (f:=aa.al) (l:=e::l) (i:=0) (x:=e) rfl;simp only[au.al]at h1;omega
theorem LO (h:aA) (hp:ly h) (hl:h.al<=4000000) (c:Nat) (hc:c=0\/c=1):D2 [.st (h.cs .n),.x (iT c)]=some ⟨[.one (ints .y (fS h c))],[]⟩:=by
 obtain⟨⟨l0⟩,⟨l1⟩,⟨l2⟩,⟨l3⟩,⟨l4⟩,⟨l5⟩,hR⟩:=ET hp;clear hp;obtain⟨cf,ck,cl,ss,rows,ts,si,ro,ou⟩:=h;simp only at hR;subst hR
 (refine aP rfl ?_;show Ev TD.code _ _ _)
 repeat' (first|refine ak ?_|refine ai ?_|refine yt ?_ ?_|refine yo ?_|apply zn|refine yc ?_|intro _)
 show Ev (.loop _ _) _ _ _;refine jS (fun i (_:Unit)=>[(1,.x (iT c)),(2,.box ⟨0,0,0⟩ (aA.cs .n ⟨cf,ck,cl,ss,[[⟨l0⟩,⟨l1⟩],[⟨l2⟩,⟨l3⟩],[⟨l4⟩,⟨l5⟩]],ts,si,ro,ou⟩)),(5,.own ⟨0,0,0⟩ (ints .y ((fS ⟨cf,ck,cl,ss,[[⟨l0⟩,⟨l1⟩],[⟨l2⟩,⟨l3⟩],[⟨l4⟩,⟨l5⟩]],ts,si,ro,ou⟩ c).take i))),(6,.x (iT i))]) (fun _ _=>True) 3 () trivial rfl ?_;rintro i-hi-ih;rcases(by omega:i=0\/i=1\/i=2\/i=3) with rfl|rfl|rfl|rfl
 ·have ih:=fun l' ed=>ih () (by omega) trivial l' ed;rcases hc with rfl|rfl
  ·cases l0;all_goals repeat' (first|refine yk xA (Dz _ (qS (i:=0) (k:=0) hl rfl rfl)) ?_|refine yk ko (qG _ _) ?_|refine ak ?_ (ht:=rfl)|refine ai ?_ (ht:=rfl)|refine ak ?_|refine ai ?_|refine yt ?_ ?_|refine yo ?_|apply zn|refine yc ?_|intro _)
   all_goals (first|exact ih _ _ rfl|(rename_i hf;exfalso;simp at hf;done)|(rename_i hf;exfalso;simp at hf;omega))
  ·cases l1;all_goals repeat' (first|refine yk xA (Dz _ (qS (i:=0) (k:=1) hl rfl rfl)) ?_|refine yk ko (qG _ _) ?_|refine ak ?_ (ht:=rfl)|refine ai ?_ (ht:=rfl)|refine ak ?_|refine ai ?_|refine yt ?_ ?_|refine yo ?_|apply zn|refine yc ?_|intro _)
   all_goals (first|exact ih _ _ rfl|(rename_i hf;exfalso;simp at hf;done)|(rename_i hf;exfalso;simp at hf;omega))
 ·have ih:=fun l' ed=>ih () (by omega) trivial l' ed;rcases hc with rfl|rfl
  ·cases l2;all_goals repeat' (first|refine yk xA (Dz _ (qS (i:=1) (k:=0) hl rfl rfl)) ?_|refine yk ko (qG _ _) ?_|refine ak ?_ (ht:=rfl)|refine ai ?_ (ht:=rfl)|refine ak ?_|refine ai ?_|refine yt ?_ ?_|refine yo ?_|apply zn|refine yc ?_|intro _)
   all_goals (first|exact ih _ _ rfl|(rename_i hf;exfalso;simp at hf;done)|(rename_i hf;exfalso;simp at hf;omega))
  ·cases l3;all_goals repeat' (first|refine yk xA (Dz _ (qS (i:=1) (k:=1) hl rfl rfl)) ?_|refine yk ko (qG _ _) ?_|refine ak ?_ (ht:=rfl)|refine ai ?_ (ht:=rfl)|refine ak ?_|refine ai ?_|refine yt ?_ ?_|refine yo ?_|apply zn|refine yc ?_|intro _)
   all_goals (first|exact ih _ _ rfl|(rename_i hf;exfalso;simp at hf;done)|(rename_i hf;exfalso;simp at hf;omega))
 ·have ih:=fun l' ed=>ih () (by omega) trivial l' ed;rcases hc with rfl|rfl
  ·cases l4;all_goals repeat' (first|refine yk xA (Dz _ (qS (i:=2) (k:=0) hl rfl rfl)) ?_|refine yk ko (qG _ _) ?_|refine ak ?_ (ht:=rfl)|refine ai ?_ (ht:=rfl)|refine ak ?_|refine ai ?_|refine yt ?_ ?_|refine yo ?_|apply zn|refine yc ?_|intro _)
   all_goals (first|exact ih _ _ rfl|(rename_i hf;exfalso;simp at hf;done)|(rename_i hf;exfalso;simp at hf;omega))
  ·cases l5;all_goals repeat' (first|refine yk xA (Dz _ (qS (i:=2) (k:=1) hl rfl rfl)) ?_|refine yk ko (qG _ _) ?_|refine ak ?_ (ht:=rfl)|refine ai ?_ (ht:=rfl)|refine ak ?_|refine ai ?_|refine yt ?_ ?_|refine yo ?_|apply zn|refine yc ?_|intro _)
   all_goals (first|exact ih _ _ rfl|(rename_i hf;exfalso;simp at hf;done)|(rename_i hf;exfalso;simp at hf;omega))
 ·clear ih
  repeat' (first|refine ai ?_ (ht:=rfl)|refine ak ?_|refine ai ?_|refine yt ?_ ?_|refine yo ?_|apply zn|refine yc ?_|intro _)
  show ∃l',(leave TD).ev _=some (_,l');refine fin rfl ?_;rfl
def afY (r:au):Int:=match r.bV with|[]=>0|e::_=>List.foldl (fun a b=>if b<a then b else a) 200 [qm e]
def LZ (h:aA) (c a:Nat):Int:=match h.Rows[a]? with
 |some rs=>(match rs[c]? with|some r=>afY r|none=>0)
 |none=>0
def Uq (h:aA) (c:Nat):List Int:=[LZ h c 0,LZ h c 1,LZ h c 2]
theorem Zp8 (h:aA) (c:Nat):Uq h c=fS h c:=by
 have e:∀x y:Int,(if y<x then y else x)=min y x:=fun x y=>by split<;>omega
 have e2:afY=DG:=by
  funext r
  obtain⟨l⟩:=r;cases l with
  |nil=>rfl
  |cons x l=>show List.foldl _ _ _=min (qm x) 200;simp only[List.foldl,e]
 unfold Uq fS LZ oX;rw[e2];rfl
set_option maxHeartbeats 4000000 in
theorem as4 (h:aA) (hp:ly h) (ho:li h=true) (hl:h.al<=4000000) (c:Nat) (hc:c=0\/c=1):NB [.st (h.cs .n),.x (iT c)]=some ⟨[.one (ints .y (fS h c))],[]⟩:=by
 obtain⟨⟨l0⟩,⟨l1⟩,⟨l2⟩,⟨l3⟩,⟨l4⟩,⟨l5⟩,hR⟩:=ET hp;clear hp;obtain⟨cf,ck,cl,ss,rows,ts,si,ro,ou⟩:=h;simp only at hR;subst hR;rw[<-Zp8];have h1:=DC _ hl;rw[ho]at h1;have h2:gj [.x (iT c),.x (iT 0),.x (iT 1)]=some ⟨[.one (.b true)],[]⟩:=by rw[oV];rcases hc with rfl|rfl<;>rfl
 (refine aP rfl ?_;show Ev TB.code _ _ _)
 repeat' (first|refine yy ?_|refine ym ?_|(apply zf;iterate 5 exact rfl)|refine yp ?_|refine yk lN (h1) ?_|refine yk eL (h2) ?_|refine ak ?_ (ht:=rfl)|refine ai ?_ (ht:=rfl)|refine ym ?_ (ht:=rfl)|refine yy ?_ (ht:=rfl)|refine ak ?_|refine ai ?_|refine yt ?_ ?_|refine yo ?_|apply zn|refine yc ?_|exact rfl|intro _)
 show Ev (.loop _ _) _ _ _;refine jS (fun i (_:Unit)=>[(1,.x (iT c)),(2,.box ⟨0,0,0⟩ (aA.cs .n ⟨cf,ck,cl,ss,[[⟨l0⟩,⟨l1⟩],[⟨l2⟩,⟨l3⟩],[⟨l4⟩,⟨l5⟩]],ts,si,ro,ou⟩)),(5,.own ⟨0,0,0⟩ (ints .y ((Uq ⟨cf,ck,cl,ss,[[⟨l0⟩,⟨l1⟩],[⟨l2⟩,⟨l3⟩],[⟨l4⟩,⟨l5⟩]],ts,si,ro,ou⟩ c).take i))),(19,.x (.l .n 1 ([[⟨l0⟩,⟨l1⟩],[⟨l2⟩,⟨l3⟩],[⟨l4⟩,⟨l5⟩]].map (au.ls .n)))),(20,.x (iT 3)),(21,.x (iT i))]) (fun _ _=>True) 3 () trivial rfl ?_;rintro i-hi-ih;rcases(by omega:i=0\/i=1\/i=2\/i=3) with rfl|rfl|rfl|rfl
 ·have ih:=fun l' ed=>ih () (by omega) trivial l' ed;rcases hc with rfl|rfl
  ·cases l0;all_goals repeat' (first|refine yy ?_|refine ym ?_|(apply zf;iterate 5 exact rfl)|refine yp ?_|refine yk xy (Dy _ (qS (i:=0) (k:=0) hl rfl rfl)) ?_|refine ak ?_ (ht:=rfl)|refine ai ?_ (ht:=rfl)|refine ak ?_|refine ai ?_|refine yt ?_ ?_|refine yo ?_|apply zn|refine yc ?_|exact rfl|intro _)
   all_goals (first|exact ih _ _ rfl|(rename_i hf;exfalso;simp at hf;done)|(rename_i hf;exfalso;simp at hf;omega))
  ·cases l1;all_goals repeat' (first|refine yy ?_|refine ym ?_|(apply zf;iterate 5 exact rfl)|refine yp ?_|refine yk xy (Dy _ (qS (i:=0) (k:=1) hl rfl rfl)) ?_|refine ak ?_ (ht:=rfl)|refine ai ?_ (ht:=rfl)|refine ak ?_|refine ai ?_|refine yt ?_ ?_|refine yo ?_|apply zn|refine yc ?_|exact rfl|intro _)
   all_goals (first|exact ih _ _ rfl|(rename_i hf;exfalso;simp at hf;done)|(rename_i hf;exfalso;simp at hf;omega))
 ·have ih:=fun l' ed=>ih () (by omega) trivial l' ed;rcases hc with rfl|rfl
  ·cases l2;all_goals repeat' (first|refine yy ?_|refine ym ?_|(apply zf;iterate 5 exact rfl)|refine yp ?_|refine yk xy (Dy _ (qS (i:=1) (k:=0) hl rfl rfl)) ?_|refine ak ?_ (ht:=rfl)|refine ai ?_ (ht:=rfl)|refine ak ?_|refine ai ?_|refine yt ?_ ?_|refine yo ?_|apply zn|refine yc ?_|exact rfl|intro _)
   all_goals (first|exact ih _ _ rfl|(rename_i hf;exfalso;simp at hf;done)|(rename_i hf;exfalso;simp at hf;omega))
  ·cases l3;all_goals repeat' (first|refine yy ?_|refine ym ?_|(apply zf;iterate 5 exact rfl)|refine yp ?_|refine yk xy (Dy _ (qS (i:=1) (k:=1) hl rfl rfl)) ?_|refine ak ?_ (ht:=rfl)|refine ai ?_ (ht:=rfl)|refine ak ?_|refine ai ?_|refine yt ?_ ?_|refine yo ?_|apply zn|refine yc ?_|exact rfl|intro _)
   all_goals (first|exact ih _ _ rfl|(rename_i hf;exfalso;simp at hf;done)|(rename_i hf;exfalso;simp at hf;omega))
 ·have ih:=fun l' ed=>ih () (by omega) trivial l' ed;rcases hc with rfl|rfl
  ·cases l4;all_goals repeat' (first|refine yy ?_|refine ym ?_|(apply zf;iterate 5 exact rfl)|refine yp ?_|refine yk xy (Dy _ (qS (i:=2) (k:=0) hl rfl rfl)) ?_|refine ak ?_ (ht:=rfl)|refine ai ?_ (ht:=rfl)|refine ak ?_|refine ai ?_|refine yt ?_ ?_|refine yo ?_|apply zn|refine yc ?_|exact rfl|intro _)
   all_goals (first|exact ih _ _ rfl|(rename_i hf;exfalso;simp at hf;done)|(rename_i hf;exfalso;simp at hf;omega))
  ·cases l5;all_goals repeat' (first|refine yy ?_|refine ym ?_|(apply zf;iterate 5 exact rfl)|refine yp ?_|refine yk xy (Dy _ (qS (i:=2) (k:=1) hl rfl rfl)) ?_|refine ak ?_ (ht:=rfl)|refine ai ?_ (ht:=rfl)|refine ak ?_|refine ai ?_|refine yt ?_ ?_|refine yo ?_|apply zn|refine yc ?_|exact rfl|intro _)
   all_goals (first|exact ih _ _ rfl|(rename_i hf;exfalso;simp at hf;done)|(rename_i hf;exfalso;simp at hf;omega))
 ·clear ih
  repeat' (first|refine yy ?_|refine ym ?_|(apply zf;iterate 5 exact rfl)|refine yp ?_|refine ai ?_ (ht:=rfl)|refine ak ?_|refine ai ?_|refine yt ?_ ?_|refine yo ?_|apply zn|refine yc ?_|exact rfl|intro _)
  show ∃l',(leave TB).ev _=some (_,l');refine fin rfl ?_;rfl
theorem Io {hs:List Hand}{k:IntKind}{i:Int}{cs:List T} (hc:cP cs=true) (ha:apart hs=true):jV hs ⟨[.one (.i k i),.st cs],[]⟩=true:=by
 simp only[jV,ha,nV,s6,RV.closed,hc,RV.lO,T.closed,T.loose,gX,wJ]
theorem Vw {h:aA} (hp:ly h):um (!ie (fS h 0) 0 0) (!ie (fS h 1) 0 0) h.fT h.aT.iV=fD h:=by
 unfold fD;rw[OO hp,OO hp]
theorem ZL {h:aA} (hp:ly h):∃a b,h.cI=[a,b]:=by
 match hT:h.cI,hp.turns with
 |[a,b],_=>exact⟨a,b,rfl⟩
theorem YH {h:aA} (hp:ly h) (c:Nat):ie (fS h c) 0 200=true:=kH.2 (YI hp c)
theorem Zq2 (h:aA) (hp:ly h) (hl:h.al<=4000000) (hn:eM h 0=false/\eM h 1=false):HZ [.st (h.cs .n)]=some ⟨[.one (iT (-1)),.one (iT (-1)),.st (h.cs .y)],[]⟩:=by
 have h0:=Dx h hl;have h1:=LO h hp hl 0 (.inl rfl);have h2:=LO h hp hl 1 (.inr rfl);have n1:=we (fS h 0) 0 0 (by show 3<=4194304;decide);have n2:=we (fS h 1) 0 0 (by show 3<=4194304;decide);have h3:=afL (!ie (fS h 0) 0 0) (!ie (fS h 1) 0 0) h.fT h.aT.iV;rw[Vw hp,(EK hp hn).2]at h3
 (refine aP rfl ?_;show Ev A4.code _ _ _)
 repeat' (first|refine yk mh (h0) ?_|refine yk tO (h1) ?_|refine yk tO (h2) ?_|refine yv lM (n1) ?_|refine yv lM (n2) ?_|refine yk FY (h3) ?_|refine ak ?_ (ht:=rfl)|refine ai ?_ (ht:=rfl)|refine ak ?_|refine ai ?_|refine yt ?_ ?_|refine yo ?_|apply zn|refine yc ?_|intro _)
 show ∃l',(leave A4).ev _=some (_,l');refine fin rfl ?_;simp only[bN];rfl
set_option maxHeartbeats 4000000 in
theorem Zq3 (h:aA) (hp:ly h) (hl:h.al<=4000000) (hn:¬(eM h 0=false/\eM h 1=false)):∃x,A5 h=some x/\Eb h x/\HZ [.st (h.cs .n)]=some ⟨[.one (iT x.gp),.one (iT x.lK),.st ((Hl h x).cs .y)],[]⟩:=by
 obtain⟨t,r,x,hc,hT,oO,hz,GC,hr,rfl,hx,bf⟩:=Ja hp hn;refine⟨_,hx,bf,?_⟩;have h0:=Dx h hl;have h1:=LO h hp hl 0 (.inl rfl);have h2:=LO h hp hl 1 (.inr rfl);have n1:=we (fS h 0) 0 0 (by show 3<=4194304;decide);have n2:=we (fS h 1) 0 0 (by show 3<=4194304;decide);have h3:=afL (!ie (fS h 0) 0 0) (!ie (fS h 1) 0 0) h.fT h.aT.iV;rw[Vw hp]at h3;have h4:=atj _ _ _ t (YH hp _) (kH.2 hp.weights) (by simp[bq];exact hp.LV) (uU.2 oO) hz GC;obtain⟨t0,t1,Ak⟩:=ZL hp;generalize Aq:fD h=ce at*;obtain⟨ci,sn⟩:=ce;clear hx bf GC hz oO hn Aq hp hl;simp only at hc hT h3 h4;have er:((r.1.toNat:Nat):Int)=r.1:=by omega
 rcases hc with rfl|rfl
 ·rw[show(0:Int).toNat=0 from rfl]at h4 hT;generalize fS h 0=s0 at*;generalize fS h 1=s1 at*;obtain⟨cf,ck,cl,ss,rows,ts,si,ro,ou⟩:=h;simp only at Ak;subst Ak;obtain rfl:t0=t:=by simpa using hT
  (refine aP rfl ?_;show Ev A4.code _ _ _)
  repeat' (first|refine yk mh (h0) ?_|refine yk tO (h1) ?_|refine yk tO (h2) ?_|refine yv lM (n1) ?_|refine yv lM (n2) ?_|refine yk FY (h3) ?_|refine yw Kn (h4) (Io (aK.cl _) rfl) ?_|refine ak ?_ (ht:=rfl)|refine ai ?_ (ht:=rfl)|refine ak ?_|refine ai ?_|refine yt ?_ ?_|refine yo ?_|apply zn|refine yc ?_|intro _)
  show ∃l',(leave A4).ev _=some (_,l');refine fin rfl ?_;simp only[bN,er];rfl
 ·rw[show(1:Int).toNat=1 from rfl]at h4 hT;generalize fS h 0=s0 at*;generalize fS h 1=s1 at*;obtain⟨cf,ck,cl,ss,rows,ts,si,ro,ou⟩:=h;simp only at Ak;subst Ak;obtain rfl:t1=t:=by simpa using hT
  (refine aP rfl ?_;show Ev A4.code _ _ _)
  repeat' (first|refine yk mh (h0) ?_|refine yk tO (h1) ?_|refine yk tO (h2) ?_|refine yv lM (n1) ?_|refine yv lM (n2) ?_|refine yk FY (h3) ?_|refine yw Kn (h4) (Io (aK.cl _) rfl) ?_|refine ak ?_ (ht:=rfl)|refine ai ?_ (ht:=rfl)|refine ak ?_|refine ai ?_|refine yt ?_ ?_|refine yo ?_|apply zn|refine yc ?_|intro _)
  show ∃l',(leave A4).ev _=some (_,l');refine fin rfl ?_;simp only[bN,er];rfl
end Go.Wr

