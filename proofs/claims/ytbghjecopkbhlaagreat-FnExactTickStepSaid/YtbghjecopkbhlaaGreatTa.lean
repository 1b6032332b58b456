/-
  What is proved: lemmas for the laws. No condition.
-/
import Derived.Test.YtbghjecopkbhlaaGreatRc
import Derived.IntWalk
import Derived.Test.YtbghjecopkbhlaaGreatRd
set_option linter.unusedVariables false
set_option linter.unusedSimpArgs false
namespace Go.Wr
abbrev iT (n:Int):T:=.i .i64 n
abbrev iB (n:UInt8):T:=.i .u8 n.toNat
abbrev ints (o:Ob) (l:List Int):T:=.l o 1 (l.map iT)
abbrev bytes (o:Ob) (l:List UInt8):T:=.l o 1 (l.map iB)
abbrev kg.lss (o:Ob) (l:List (List Int)):T:=.l o 1 (l.map (ints o))
theorem lD {α:Type} (f:α->T) (l:List α):bO (l.map f)=l.map fun x=>(f x).fz:=by rw[Er,yW];rfl
theorem n0:(fun x=>(iT x).fz)=iT:=rfl
theorem nZ:(fun x=>(iB x).fz)=iB:=rfl
theorem oc (o:Ob):(fun l=>(ints o l).fz)=ints .n:=by funext x;simp only[ints,T.fz,lD]
def aS {α:Type} (f:α->Nat) (l:List α):Nat:=l.length+(l.map f).sum
def fits {α:Type} (p:α->Prop) (l:List α):Prop:=l.length<=maxLen/\∀x∈l,p x
theorem dA {α:Type} (f:α->Nat) (l:List α):l.length<=aS f l:=by unfold aS;omega
theorem gk {α:Type}{f:α->Nat}{l:List α}{i:Nat}{x:α} (h:l[i]?=some x):f x<=aS f l:=by
 have:∀{l:List α}{i:Nat},l[i]?=some x->f x<=(l.map f).sum:=by
  intro l
  induction l with
  |nil=>intro i h;simp at h
  |cons a l ih=>
   intro i h;cases i with
   |zero=>simp at h;subst h;simp
   |succ i=>have:=ih (i:=i) (by simpa using h);simp;omega
 have:=this h;unfold aS;omega
theorem od {fs:List Ty}{ts:List T} (h:dU (.st fs) ts):rP fs ts:=by simpa only[dU]using h
theorem cV {f:Ty}{fs:List Ty}{ts:List T} (h:rP (f::fs) ts):∃a b,ts=a++b/\dU f a/\rP fs b:=by simpa only[rP]using h
theorem oe {ts:List T} (h:rP [] ts):ts=[]:=by simpa only[rP]using h
theorem fi {ts:List T} (h:dU (.i .i64) ts):∃n,ts=[iT n]:=by
 simp only[dU]at h;obtain⟨n,rfl,_⟩:=h;exact⟨n,rfl⟩
theorem IN {ts:List T} (h:dU .b ts):∃n,ts=[.b n]:=by
 simp only[dU]at h;exact h
theorem WX {α β:Type}{f:α->β}{p:α->Prop}:∀{es:List β},(∀x∈es,∃a,x=f a/\p a)->∃l:List α,es=l.map f/\∀x∈l,p x
 |[],_=>⟨[],rfl,by simp⟩
 |x::es,h=>by
  obtain⟨a,rfl,ha⟩:=h x fe;obtain⟨l,rfl,hl⟩:=WX fun y hy=>h y (fJ _ hy);exact⟨a::l,rfl,by simpa using⟨ha,hl⟩⟩
theorem lF {α:Type}{e:Ty}{el:α->T}{p:α->Prop}{ts:List T} (h:dU (.l e) ts) (he:∀cs,dU e cs->∃x,sf e.agg cs=el x/\p x):∃l:List α,ts=[.l .n e.size (l.map el)]/\fits p l:=by
 simp only[dU]at h;obtain⟨es,rfl,hl,cg⟩:=h;obtain⟨l,rfl,hp⟩:=WX (f:=el) (p:=p) fun x hx=>by
  obtain⟨cs,hc,rfl⟩:=cg x hx;exact he cs hc
 exact⟨l,rfl,by simpa using hl,hp⟩
theorem Ca {ts:List T} (h:dU (.l (.i .i64)) ts):∃l:List Int,ts=[ints .n l]/\l.length<=maxLen:=by
 obtain⟨l,rfl,h1,_⟩:=lF (el:=iT) (p:=fun _=>True) h fun cs hc=>by
  obtain⟨n,rfl⟩:=fi hc;exact⟨n,rfl,trivial⟩
 exact⟨l,rfl,h1⟩
theorem Y2 {ts:List T} (h:dU (.l (.i .u8)) ts):∃l:List UInt8,ts=[bytes .n l]/\l.length<=maxLen:=by
 obtain⟨l,rfl,h1,_⟩:=lF (el:=iB) (p:=fun _=>True) h fun cs hc=>by
  simp only[dU]at hc;obtain⟨n,rfl,h0,h1⟩:=hc;have:IntKind.min .u8=0:=by decide
  have:IntKind.max .u8=255:=by decide
  refine⟨UInt8.ofNat n.toNat,?_,trivial⟩;simp only[sf,Ty.agg,List.headD_cons,cX,if_false,T.i.injEq,true_and];rw[UInt8.toNat_ofNat_of_lt' (by simp[UInt8.size];omega)];omega
 exact⟨l,rfl,h1⟩
theorem Zck {ts:List T} (h:dU (.l (.l (.i .i64))) ts):∃l:List (List Int),ts=[kg.lss .n l]/\fits (fun l=>l.length<=maxLen) l:=lF (el:=ints .n) h fun cs hc=>by
 obtain⟨n,rfl,hn⟩:=Ca hc;exact⟨n,rfl,hn⟩
structure bm where
 Count:Int
 Sum:Int
 Min:Int
 Max:Int
 ca:List Int
 bX:List Int
 Rows:List (List Int)
 deriving DecidableEq,Inhabited
def bm.cs (o:Ob) (x:bm):List T:=[iT x.Count,iT x.Sum,iT x.Min,iT x.Max,ints o x.ca,ints o x.bX,kg.lss o x.Rows]
def bm.el (o:Ob) (x:bm):T:=.a (x.cs o)
abbrev bm.ls (o:Ob) (l:List bm):T:=.l o 7 (l.map (bm.el o))
def bm.al (x:bm):Nat:=x.ca.length+x.bX.length+aS List.length x.Rows
def bm.fit (x:bm):Prop:=x.ca.length<=maxLen/\x.bX.length<=maxLen/\fits (fun l=>l.length<=maxLen) x.Rows
abbrev bm.ty:Ty:=.st [.i .i64,.i .i64,.i .i64,.i .i64,.l (.i .i64),.l (.i .i64),.l (.l (.i .i64))]
theorem bm.fz (o:Ob) (x:bm):bO (x.cs o)=x.cs .n:=by simp only[bm.cs,bO,T.fz,lD,n0,nZ,oc]
theorem bm.ef (o:Ob):(fun x=>((bm.el o) x).fz)=bm.el .n:=by funext x;simp only[bm.el,T.fz,bm.fz]
theorem bm.of {ts:List T} (h:dU bm.ty ts):∃x:bm,ts=x.cs .n/\x.fit:=by
 have h:=od h;obtain⟨_,_,rfl,h0,h⟩:=cV h;obtain⟨_,_,rfl,h1,h⟩:=cV h;obtain⟨_,_,rfl,h2,h⟩:=cV h;obtain⟨_,_,rfl,h3,h⟩:=cV h;obtain⟨_,_,rfl,h4,h⟩:=cV h;obtain⟨_,_,rfl,h5,h⟩:=cV h;obtain⟨_,_,rfl,h6,h⟩:=cV h;obtain rfl:=oe h;obtain⟨x0,rfl⟩:=fi h0;obtain⟨x1,rfl⟩:=fi h1;obtain⟨x2,rfl⟩:=fi h2;obtain⟨x3,rfl⟩:=fi h3;obtain⟨x4,rfl,f4⟩:=Ca h4;obtain⟨x5,rfl,f5⟩:=Ca h5;obtain⟨x6,rfl,f6⟩:=Zck h6;exact⟨⟨x0,x1,x2,x3,x4,x5,x6⟩,rfl,⟨f4,f5,f6⟩⟩
theorem bm.ji {ts:List T} (h:dU (.l bm.ty) ts):∃l:List bm,ts=[bm.ls .n l]/\fits bm.fit l:=lF (el:=bm.el .n) h fun cs hc=>by
 obtain⟨x,rfl,hx⟩:=bm.of hc;exact⟨x,rfl,hx⟩
structure af where
 Lo:Int
 Hi:Int
 deriving DecidableEq,Inhabited
def af.cs (o:Ob) (x:af):List T:=[iT x.Lo,iT x.Hi]
def af.el (o:Ob) (x:af):T:=.a (x.cs o)
abbrev af.ls (o:Ob) (l:List af):T:=.l o 2 (l.map (af.el o))
def af.al (x:af):Nat:=0
def af.fit (x:af):Prop:=True
abbrev af.ty:Ty:=.st [.i .i64,.i .i64]
theorem af.fz (o:Ob) (x:af):bO (x.cs o)=x.cs .n:=by simp only[af.cs,bO,T.fz,lD,n0,nZ,oc]
theorem af.ef (o:Ob):(fun x=>((af.el o) x).fz)=af.el .n:=by funext x;simp only[af.el,T.fz,af.fz]
theorem af.of {ts:List T} (h:dU af.ty ts):∃x:af,ts=x.cs .n/\x.fit:=by
 have h:=od h;obtain⟨_,_,rfl,h0,h⟩:=cV h;obtain⟨_,_,rfl,h1,h⟩:=cV h;obtain rfl:=oe h;obtain⟨x0,rfl⟩:=fi h0;obtain⟨x1,rfl⟩:=fi h1;exact⟨⟨x0,x1⟩,rfl,trivial⟩
theorem af.ji {ts:List T} (h:dU (.l af.ty) ts):∃l:List af,ts=[af.ls .n l]/\fits af.fit l:=lF (el:=af.el .n) h fun cs hc=>by
 obtain⟨x,rfl,hx⟩:=af.of hc;exact⟨x,rfl,hx⟩
structure bT where
 Seq:Int
 Hq:Int
 Key:Int
 eo:Int
 aN:bm
 deriving DecidableEq,Inhabited
def bT.cs (o:Ob) (x:bT):List T:=[iT x.Seq,iT x.Hq,iT x.Key,iT x.eo,iT x.aN.Count,iT x.aN.Sum,iT x.aN.Min,iT x.aN.Max,ints o x.aN.ca,ints o x.aN.bX,kg.lss o x.aN.Rows]
def bT.el (o:Ob) (x:bT):T:=.a (x.cs o)
abbrev bT.ls (o:Ob) (l:List bT):T:=.l o 11 (l.map (bT.el o))
def bT.al (x:bT):Nat:=x.aN.al
def bT.fit (x:bT):Prop:=x.aN.fit
abbrev bT.ty:Ty:=.st [.i .i64,.i .i64,.i .i64,.i .i64,bm.ty]
theorem bT.fz (o:Ob) (x:bT):bO (x.cs o)=x.cs .n:=by simp only[bT.cs,bO,T.fz,lD,n0,nZ,oc]
theorem bT.ef (o:Ob):(fun x=>((bT.el o) x).fz)=bT.el .n:=by funext x;simp only[bT.el,T.fz,bT.fz]
theorem bT.of {ts:List T} (h:dU bT.ty ts):∃x:bT,ts=x.cs .n/\x.fit:=by
 have h:=od h;obtain⟨_,_,rfl,h0,h⟩:=cV h;obtain⟨_,_,rfl,h1,h⟩:=cV h;obtain⟨_,_,rfl,h2,h⟩:=cV h;obtain⟨_,_,rfl,h3,h⟩:=cV h;obtain⟨_,_,rfl,h4,h⟩:=cV h;obtain rfl:=oe h;obtain⟨x0,rfl⟩:=fi h0;obtain⟨x1,rfl⟩:=fi h1;obtain⟨x2,rfl⟩:=fi h2;obtain⟨x3,rfl⟩:=fi h3;obtain⟨x4,rfl,f4⟩:=bm.of h4;exact⟨⟨x0,x1,x2,x3,x4⟩,rfl,f4⟩
theorem bT.ji {ts:List T} (h:dU (.l bT.ty) ts):∃l:List bT,ts=[bT.ls .n l]/\fits bT.fit l:=lF (el:=bT.el .n) h fun cs hc=>by
 obtain⟨x,rfl,hx⟩:=bT.of hc;exact⟨x,rfl,hx⟩
structure aa where
 Key:Int
 eo:Int
 aH:List af
 aN:bm
 deriving DecidableEq,Inhabited
def aa.cs (o:Ob) (x:aa):List T:=[iT x.Key,iT x.eo,af.ls o x.aH,iT x.aN.Count,iT x.aN.Sum,iT x.aN.Min,iT x.aN.Max,ints o x.aN.ca,ints o x.aN.bX,kg.lss o x.aN.Rows]
def aa.el (o:Ob) (x:aa):T:=.a (x.cs o)
abbrev aa.ls (o:Ob) (l:List aa):T:=.l o 10 (l.map (aa.el o))
def aa.al (x:aa):Nat:=x.aH.length+x.aN.al
def aa.fit (x:aa):Prop:=fits af.fit x.aH/\x.aN.fit
abbrev aa.ty:Ty:=.st [.i .i64,.i .i64,.l (af.ty),bm.ty]
theorem aa.fz (o:Ob) (x:aa):bO (x.cs o)=x.cs .n:=by simp only[aa.cs,bO,T.fz,lD,af.ef,n0,nZ,oc]
theorem aa.ef (o:Ob):(fun x=>((aa.el o) x).fz)=aa.el .n:=by funext x;simp only[aa.el,T.fz,aa.fz]
theorem aa.of {ts:List T} (h:dU aa.ty ts):∃x:aa,ts=x.cs .n/\x.fit:=by
 have h:=od h;obtain⟨_,_,rfl,h0,h⟩:=cV h;obtain⟨_,_,rfl,h1,h⟩:=cV h;obtain⟨_,_,rfl,h2,h⟩:=cV h;obtain⟨_,_,rfl,h3,h⟩:=cV h;obtain rfl:=oe h;obtain⟨x0,rfl⟩:=fi h0;obtain⟨x1,rfl⟩:=fi h1;obtain⟨x2,rfl,f2⟩:=af.ji h2;obtain⟨x3,rfl,f3⟩:=bm.of h3;exact⟨⟨x0,x1,x2,x3⟩,rfl,⟨f2,f3⟩⟩
theorem aa.ji {ts:List T} (h:dU (.l aa.ty) ts):∃l:List aa,ts=[aa.ls .n l]/\fits aa.fit l:=lF (el:=aa.el .n) h fun cs hc=>by
 obtain⟨x,rfl,hx⟩:=aa.of hc;exact⟨x,rfl,hx⟩
structure cZ where
 Kind:Int
 Uz:Int
 o6:Int
 jO:Int
 bK:List af
 Item:bT
 deriving DecidableEq,Inhabited
def cZ.cs (o:Ob) (x:cZ):List T:=[iT x.Kind,iT x.Uz,iT x.o6,iT x.jO,af.ls o x.bK,iT x.Item.Seq,iT x.Item.Hq,iT x.Item.Key,iT x.Item.eo,iT x.Item.aN.Count,iT x.Item.aN.Sum,iT x.Item.aN.Min,iT x.Item.aN.Max,ints o x.Item.aN.ca,ints o x.Item.aN.bX,kg.lss o x.Item.aN.Rows]
def cZ.el (o:Ob) (x:cZ):T:=.a (x.cs o)
abbrev cZ.ls (o:Ob) (l:List cZ):T:=.l o 16 (l.map (cZ.el o))
def cZ.al (x:cZ):Nat:=x.bK.length+x.Item.al
def cZ.fit (x:cZ):Prop:=fits af.fit x.bK/\x.Item.fit
abbrev cZ.ty:Ty:=.st [.i .i64,.i .i64,.i .i64,.i .i64,.l (af.ty),bT.ty]
theorem cZ.fz (o:Ob) (x:cZ):bO (x.cs o)=x.cs .n:=by simp only[cZ.cs,bO,T.fz,lD,af.ef,n0,nZ,oc]
theorem cZ.ef (o:Ob):(fun x=>((cZ.el o) x).fz)=cZ.el .n:=by funext x;simp only[cZ.el,T.fz,cZ.fz]
theorem cZ.of {ts:List T} (h:dU cZ.ty ts):∃x:cZ,ts=x.cs .n/\x.fit:=by
 have h:=od h;obtain⟨_,_,rfl,h0,h⟩:=cV h;obtain⟨_,_,rfl,h1,h⟩:=cV h;obtain⟨_,_,rfl,h2,h⟩:=cV h;obtain⟨_,_,rfl,h3,h⟩:=cV h;obtain⟨_,_,rfl,h4,h⟩:=cV h;obtain⟨_,_,rfl,h5,h⟩:=cV h;obtain rfl:=oe h;obtain⟨x0,rfl⟩:=fi h0;obtain⟨x1,rfl⟩:=fi h1;obtain⟨x2,rfl⟩:=fi h2;obtain⟨x3,rfl⟩:=fi h3;obtain⟨x4,rfl,f4⟩:=af.ji h4;obtain⟨x5,rfl,f5⟩:=bT.of h5;exact⟨⟨x0,x1,x2,x3,x4,x5⟩,rfl,⟨f4,f5⟩⟩
theorem cZ.ji {ts:List T} (h:dU (.l cZ.ty) ts):∃l:List cZ,ts=[cZ.ls .n l]/\fits cZ.fit l:=lF (el:=cZ.el .n) h fun cs hc=>by
 obtain⟨x,rfl,hx⟩:=cZ.of hc;exact⟨x,rfl,hx⟩
structure cr where
 Id:Int
 o6:Int
 Live:Bool
 jO:Int
 lA:List bT
 bK:List af
 Next:Int
 deriving DecidableEq,Inhabited
def cr.cs (o:Ob) (x:cr):List T:=[iT x.Id,iT x.o6,.b x.Live,iT x.jO,bT.ls o x.lA,af.ls o x.bK,iT x.Next]
def cr.el (o:Ob) (x:cr):T:=.a (x.cs o)
abbrev cr.ls (o:Ob) (l:List cr):T:=.l o 7 (l.map (cr.el o))
def cr.al (x:cr):Nat:=aS bT.al x.lA+x.bK.length
def cr.fit (x:cr):Prop:=fits bT.fit x.lA/\fits af.fit x.bK
abbrev cr.ty:Ty:=.st [.i .i64,.i .i64,.b,.i .i64,.l (bT.ty),.l (af.ty),.i .i64]
theorem cr.fz (o:Ob) (x:cr):bO (x.cs o)=x.cs .n:=by simp only[cr.cs,bO,T.fz,lD,bT.ef,af.ef,n0,nZ,oc]
theorem cr.ef (o:Ob):(fun x=>((cr.el o) x).fz)=cr.el .n:=by funext x;simp only[cr.el,T.fz,cr.fz]
theorem cr.of {ts:List T} (h:dU cr.ty ts):∃x:cr,ts=x.cs .n/\x.fit:=by
 have h:=od h;obtain⟨_,_,rfl,h0,h⟩:=cV h;obtain⟨_,_,rfl,h1,h⟩:=cV h;obtain⟨_,_,rfl,h2,h⟩:=cV h;obtain⟨_,_,rfl,h3,h⟩:=cV h;obtain⟨_,_,rfl,h4,h⟩:=cV h;obtain⟨_,_,rfl,h5,h⟩:=cV h;obtain⟨_,_,rfl,h6,h⟩:=cV h;obtain rfl:=oe h;obtain⟨x0,rfl⟩:=fi h0;obtain⟨x1,rfl⟩:=fi h1;obtain⟨x2,rfl⟩:=IN h2;obtain⟨x3,rfl⟩:=fi h3;obtain⟨x4,rfl,f4⟩:=bT.ji h4;obtain⟨x5,rfl,f5⟩:=af.ji h5;obtain⟨x6,rfl⟩:=fi h6;exact⟨⟨x0,x1,x2,x3,x4,x5,x6⟩,rfl,⟨f4,f5⟩⟩
theorem cr.ji {ts:List T} (h:dU (.l cr.ty) ts):∃l:List cr,ts=[cr.ls .n l]/\fits cr.fit l:=lF (el:=cr.el .n) h fun cs hc=>by
 obtain⟨x,rfl,hx⟩:=cr.of hc;exact⟨x,rfl,hx⟩
structure aD where
 o6:Int
 jO:Int
 bK:List af
 dM:Int
 yK:Int
 deriving DecidableEq,Inhabited
def aD.cs (o:Ob) (x:aD):List T:=[iT x.o6,iT x.jO,af.ls o x.bK,iT x.dM,iT x.yK]
def aD.el (o:Ob) (x:aD):T:=.a (x.cs o)
abbrev aD.ls (o:Ob) (l:List aD):T:=.l o 5 (l.map (aD.el o))
def aD.al (x:aD):Nat:=x.bK.length
def aD.fit (x:aD):Prop:=fits af.fit x.bK
abbrev aD.ty:Ty:=.st [.i .i64,.i .i64,.l (af.ty),.i .i64,.i .i64]
theorem aD.fz (o:Ob) (x:aD):bO (x.cs o)=x.cs .n:=by simp only[aD.cs,bO,T.fz,lD,af.ef,n0,nZ,oc]
theorem aD.ef (o:Ob):(fun x=>((aD.el o) x).fz)=aD.el .n:=by funext x;simp only[aD.el,T.fz,aD.fz]
theorem aD.of {ts:List T} (h:dU aD.ty ts):∃x:aD,ts=x.cs .n/\x.fit:=by
 have h:=od h;obtain⟨_,_,rfl,h0,h⟩:=cV h;obtain⟨_,_,rfl,h1,h⟩:=cV h;obtain⟨_,_,rfl,h2,h⟩:=cV h;obtain⟨_,_,rfl,h3,h⟩:=cV h;obtain⟨_,_,rfl,h4,h⟩:=cV h;obtain rfl:=oe h;obtain⟨x0,rfl⟩:=fi h0;obtain⟨x1,rfl⟩:=fi h1;obtain⟨x2,rfl,f2⟩:=af.ji h2;obtain⟨x3,rfl⟩:=fi h3;obtain⟨x4,rfl⟩:=fi h4;exact⟨⟨x0,x1,x2,x3,x4⟩,rfl,f2⟩
theorem aD.ji {ts:List T} (h:dU (.l aD.ty) ts):∃l:List aD,ts=[aD.ls .n l]/\fits aD.fit l:=lF (el:=aD.el .n) h fun cs hc=>by
 obtain⟨x,rfl,hx⟩:=aD.of hc;exact⟨x,rfl,hx⟩
structure au where
 bV:List aa
 deriving DecidableEq,Inhabited
def au.cs (o:Ob) (x:au):List T:=[aa.ls o x.bV]
def au.el (o:Ob) (x:au):T:=.a (x.cs o)
abbrev au.ls (o:Ob) (l:List au):T:=.l o 1 (l.map (au.el o))
abbrev au.lss (o:Ob) (l:List (List au)):T:=.l o 1 (l.map (au.ls o))
def au.al (x:au):Nat:=aS aa.al x.bV
def au.fit (x:au):Prop:=fits aa.fit x.bV
abbrev au.ty:Ty:=.st [.l (aa.ty)]
theorem au.fz (o:Ob) (x:au):bO (x.cs o)=x.cs .n:=by simp only[au.cs,bO,T.fz,lD,aa.ef,n0,nZ,oc]
theorem au.ef (o:Ob):(fun x=>((au.el o) x).fz)=au.el .n:=by funext x;simp only[au.el,T.fz,au.fz]
theorem au.iw (o:Ob):(fun l=>((au.ls o) l).fz)=au.ls .n:=by funext x;simp only[au.ls,T.fz,lD,au.ef]
theorem au.of {ts:List T} (h:dU au.ty ts):∃x:au,ts=x.cs .n/\x.fit:=by
 have h:=od h;obtain⟨_,_,rfl,h0,h⟩:=cV h;obtain rfl:=oe h;obtain⟨x0,rfl,f0⟩:=aa.ji h0;exact⟨⟨x0⟩,rfl,f0⟩
theorem au.ji {ts:List T} (h:dU (.l au.ty) ts):∃l:List au,ts=[au.ls .n l]/\fits au.fit l:=lF (el:=au.el .n) h fun cs hc=>by
 obtain⟨x,rfl,hx⟩:=au.of hc;exact⟨x,rfl,hx⟩
theorem au.apx {ts:List T} (h:dU (.l (.l au.ty)) ts):∃l:List (List au),ts=[au.lss .n l]/\fits (fits au.fit) l:=lF (el:=au.ls .n) h fun cs hc=>by
 obtain⟨x,rfl,hx⟩:=au.ji hc;exact⟨x,rfl,hx⟩
structure aK where
 At:Int
 nS:Bool
 Left:List Int
 deriving DecidableEq,Inhabited
def aK.cs (o:Ob) (x:aK):List T:=[iT x.At,.b x.nS,ints o x.Left]
def aK.el (o:Ob) (x:aK):T:=.a (x.cs o)
abbrev aK.ls (o:Ob) (l:List aK):T:=.l o 3 (l.map (aK.el o))
def aK.al (x:aK):Nat:=x.Left.length
def aK.fit (x:aK):Prop:=x.Left.length<=maxLen
abbrev aK.ty:Ty:=.st [.i .i64,.b,.l (.i .i64)]
theorem aK.fz (o:Ob) (x:aK):bO (x.cs o)=x.cs .n:=by simp only[aK.cs,bO,T.fz,lD,n0,nZ,oc]
theorem aK.ef (o:Ob):(fun x=>((aK.el o) x).fz)=aK.el .n:=by funext x;simp only[aK.el,T.fz,aK.fz]
theorem aK.of {ts:List T} (h:dU aK.ty ts):∃x:aK,ts=x.cs .n/\x.fit:=by
 have h:=od h;obtain⟨_,_,rfl,h0,h⟩:=cV h;obtain⟨_,_,rfl,h1,h⟩:=cV h;obtain⟨_,_,rfl,h2,h⟩:=cV h;obtain rfl:=oe h;obtain⟨x0,rfl⟩:=fi h0;obtain⟨x1,rfl⟩:=IN h1;obtain⟨x2,rfl,f2⟩:=Ca h2;exact⟨⟨x0,x1,x2⟩,rfl,f2⟩
theorem aK.ji {ts:List T} (h:dU (.l aK.ty) ts):∃l:List aK,ts=[aK.ls .n l]/\fits aK.fit l:=lF (el:=aK.el .n) h fun cs hc=>by
 obtain⟨x,rfl,hx⟩:=aK.of hc;exact⟨x,rfl,hx⟩
structure bR where
 fm:Int
 kx:Int
 iV:Int
 dX:List Int
 mK:Int
 mL:Int
 mJ:Int
 Still:Int
 deriving DecidableEq,Inhabited
def bR.cs (o:Ob) (x:bR):List T:=[iT x.fm,iT x.kx,iT x.iV,ints o x.dX,iT x.mK,iT x.mL,iT x.mJ,iT x.Still]
def bR.el (o:Ob) (x:bR):T:=.a (x.cs o)
abbrev bR.ls (o:Ob) (l:List bR):T:=.l o 8 (l.map (bR.el o))
def bR.al (x:bR):Nat:=x.dX.length
def bR.fit (x:bR):Prop:=x.dX.length<=maxLen
abbrev bR.ty:Ty:=.st [.i .i64,.i .i64,.i .i64,.l (.i .i64),.i .i64,.i .i64,.i .i64,.i .i64]
theorem bR.fz (o:Ob) (x:bR):bO (x.cs o)=x.cs .n:=by simp only[bR.cs,bO,T.fz,lD,n0,nZ,oc]
theorem bR.ef (o:Ob):(fun x=>((bR.el o) x).fz)=bR.el .n:=by funext x;simp only[bR.el,T.fz,bR.fz]
theorem bR.of {ts:List T} (h:dU bR.ty ts):∃x:bR,ts=x.cs .n/\x.fit:=by
 have h:=od h;obtain⟨_,_,rfl,h0,h⟩:=cV h;obtain⟨_,_,rfl,h1,h⟩:=cV h;obtain⟨_,_,rfl,h2,h⟩:=cV h;obtain⟨_,_,rfl,h3,h⟩:=cV h;obtain⟨_,_,rfl,h4,h⟩:=cV h;obtain⟨_,_,rfl,h5,h⟩:=cV h;obtain⟨_,_,rfl,h6,h⟩:=cV h;obtain⟨_,_,rfl,h7,h⟩:=cV h;obtain rfl:=oe h;obtain⟨x0,rfl⟩:=fi h0;obtain⟨x1,rfl⟩:=fi h1;obtain⟨x2,rfl⟩:=fi h2;obtain⟨x3,rfl,f3⟩:=Ca h3;obtain⟨x4,rfl⟩:=fi h4;obtain⟨x5,rfl⟩:=fi h5;obtain⟨x6,rfl⟩:=fi h6;obtain⟨x7,rfl⟩:=fi h7;exact⟨⟨x0,x1,x2,x3,x4,x5,x6,x7⟩,rfl,f3⟩
theorem bR.ji {ts:List T} (h:dU (.l bR.ty) ts):∃l:List bR,ts=[bR.ls .n l]/\fits bR.fit l:=lF (el:=bR.el .n) h fun cs hc=>by
 obtain⟨x,rfl,hx⟩:=bR.of hc;exact⟨x,rfl,hx⟩
structure aC where
 BI:Int
 bg:aa
 deriving DecidableEq,Inhabited
def aC.cs (o:Ob) (x:aC):List T:=[iT x.BI,iT x.bg.Key,iT x.bg.eo,af.ls o x.bg.aH,iT x.bg.aN.Count,iT x.bg.aN.Sum,iT x.bg.aN.Min,iT x.bg.aN.Max,ints o x.bg.aN.ca,ints o x.bg.aN.bX,kg.lss o x.bg.aN.Rows]
def aC.el (o:Ob) (x:aC):T:=.a (x.cs o)
abbrev aC.ls (o:Ob) (l:List aC):T:=.l o 11 (l.map (aC.el o))
def aC.al (x:aC):Nat:=x.bg.al
def aC.fit (x:aC):Prop:=x.bg.fit
abbrev aC.ty:Ty:=.st [.i .i64,aa.ty]
theorem aC.fz (o:Ob) (x:aC):bO (x.cs o)=x.cs .n:=by simp only[aC.cs,bO,T.fz,lD,af.ef,n0,nZ,oc]
theorem aC.ef (o:Ob):(fun x=>((aC.el o) x).fz)=aC.el .n:=by funext x;simp only[aC.el,T.fz,aC.fz]
theorem aC.of {ts:List T} (h:dU aC.ty ts):∃x:aC,ts=x.cs .n/\x.fit:=by
 have h:=od h;obtain⟨_,_,rfl,h0,h⟩:=cV h;obtain⟨_,_,rfl,h1,h⟩:=cV h;obtain rfl:=oe h;obtain⟨x0,rfl⟩:=fi h0;obtain⟨x1,rfl,f1⟩:=aa.of h1;exact⟨⟨x0,x1⟩,rfl,f1⟩
theorem aC.ji {ts:List T} (h:dU (.l aC.ty) ts):∃l:List aC,ts=[aC.ls .n l]/\fits aC.fit l:=lF (el:=aC.el .n) h fun cs hc=>by
 obtain⟨x,rfl,hx⟩:=aC.of hc;exact⟨x,rfl,hx⟩
structure aA where
 aT:bR
 kR:Int
 gT:Bool
 bp:List aD
 Rows:List (List au)
 cI:List aK
 fT:Int
 aJ:List aa
 bz:List aC
 deriving DecidableEq,Inhabited
def aA.cs (o:Ob) (x:aA):List T:=[iT x.aT.fm,iT x.aT.kx,iT x.aT.iV,ints o x.aT.dX,iT x.aT.mK,iT x.aT.mL,iT x.aT.mJ,iT x.aT.Still,iT x.kR,.b x.gT,aD.ls o x.bp,au.lss o x.Rows,aK.ls o x.cI,iT x.fT,aa.ls o x.aJ,aC.ls o x.bz]
def aA.el (o:Ob) (x:aA):T:=.a (x.cs o)
abbrev aA.ls (o:Ob) (l:List aA):T:=.l o 16 (l.map (aA.el o))
def aA.al (x:aA):Nat:=x.aT.al+aS aD.al x.bp+aS (aS au.al) x.Rows+aS aK.al x.cI+aS aa.al x.aJ+aS aC.al x.bz
def aA.fit (x:aA):Prop:=x.aT.fit/\fits aD.fit x.bp/\fits (fits au.fit) x.Rows/\fits aK.fit x.cI/\fits aa.fit x.aJ/\fits aC.fit x.bz
abbrev aA.ty:Ty:=.st [bR.ty,.i .i64,.b,.l (aD.ty),.l (.l (au.ty)),.l (aK.ty),.i .i64,.l (aa.ty),.l (aC.ty)]
theorem aA.fz (o:Ob) (x:aA):bO (x.cs o)=x.cs .n:=by simp only[aA.cs,bO,T.fz,lD,aa.ef,aC.ef,au.ef,aD.ef,aK.ef,n0,nZ,oc]
theorem aA.ef (o:Ob):(fun x=>((aA.el o) x).fz)=aA.el .n:=by funext x;simp only[aA.el,T.fz,aA.fz]
theorem aA.of {ts:List T} (h:dU aA.ty ts):∃x:aA,ts=x.cs .n/\x.fit:=by
 have h:=od h;obtain⟨_,_,rfl,h0,h⟩:=cV h;obtain⟨_,_,rfl,h1,h⟩:=cV h;obtain⟨_,_,rfl,h2,h⟩:=cV h;obtain⟨_,_,rfl,h3,h⟩:=cV h;obtain⟨_,_,rfl,h4,h⟩:=cV h;obtain⟨_,_,rfl,h5,h⟩:=cV h;obtain⟨_,_,rfl,h6,h⟩:=cV h;obtain⟨_,_,rfl,h7,h⟩:=cV h;obtain⟨_,_,rfl,h8,h⟩:=cV h;obtain rfl:=oe h;obtain⟨x0,rfl,f0⟩:=bR.of h0;obtain⟨x1,rfl⟩:=fi h1;obtain⟨x2,rfl⟩:=IN h2;obtain⟨x3,rfl,f3⟩:=aD.ji h3;obtain⟨x4,rfl,f4⟩:=au.apx h4;obtain⟨x5,rfl,f5⟩:=aK.ji h5;obtain⟨x6,rfl⟩:=fi h6;obtain⟨x7,rfl,f7⟩:=aa.ji h7;obtain⟨x8,rfl,f8⟩:=aC.ji h8;exact⟨⟨x0,x1,x2,x3,x4,x5,x6,x7,x8⟩,rfl,⟨f0,f3,f4,f5,f7,f8⟩⟩
theorem aA.ji {ts:List T} (h:dU (.l aA.ty) ts):∃l:List aA,ts=[aA.ls .n l]/\fits aA.fit l:=lF (el:=aA.el .n) h fun cs hc=>by
 obtain⟨x,rfl,hx⟩:=aA.of hc;exact⟨x,rfl,hx⟩
structure cu where
 To:Int
 Bytes:List UInt8
 UT:Bool
 deriving DecidableEq,Inhabited
def cu.cs (o:Ob) (x:cu):List T:=[iT x.To,bytes o x.Bytes,.b x.UT]
def cu.el (o:Ob) (x:cu):T:=.a (x.cs o)
abbrev cu.ls (o:Ob) (l:List cu):T:=.l o 3 (l.map (cu.el o))
def cu.al (x:cu):Nat:=x.Bytes.length
def cu.fit (x:cu):Prop:=x.Bytes.length<=maxLen
abbrev cu.ty:Ty:=.st [.i .i64,.l (.i .u8),.b]
theorem cu.fz (o:Ob) (x:cu):bO (x.cs o)=x.cs .n:=by simp only[cu.cs,bO,T.fz,lD,n0,nZ,oc]
theorem cu.ef (o:Ob):(fun x=>((cu.el o) x).fz)=cu.el .n:=by funext x;simp only[cu.el,T.fz,cu.fz]
theorem cu.of {ts:List T} (h:dU cu.ty ts):∃x:cu,ts=x.cs .n/\x.fit:=by
 have h:=od h;obtain⟨_,_,rfl,h0,h⟩:=cV h;obtain⟨_,_,rfl,h1,h⟩:=cV h;obtain⟨_,_,rfl,h2,h⟩:=cV h;obtain rfl:=oe h;obtain⟨x0,rfl⟩:=fi h0;obtain⟨x1,rfl,f1⟩:=Y2 h1;obtain⟨x2,rfl⟩:=IN h2;exact⟨⟨x0,x1,x2⟩,rfl,f1⟩
theorem cu.ji {ts:List T} (h:dU (.l cu.ty) ts):∃l:List cu,ts=[cu.ls .n l]/\fits cu.fit l:=lF (el:=cu.el .n) h fun cs hc=>by
 obtain⟨x,rfl,hx⟩:=cu.of hc;exact⟨x,rfl,hx⟩
structure da where
 rO:List cr
 iE:aA
 Net:List cu
 deriving DecidableEq,Inhabited
def da.cs (o:Ob) (x:da):List T:=[cr.ls o x.rO,iT x.iE.aT.fm,iT x.iE.aT.kx,iT x.iE.aT.iV,ints o x.iE.aT.dX,iT x.iE.aT.mK,iT x.iE.aT.mL,iT x.iE.aT.mJ,iT x.iE.aT.Still,iT x.iE.kR,.b x.iE.gT,aD.ls o x.iE.bp,au.lss o x.iE.Rows,aK.ls o x.iE.cI,iT x.iE.fT,aa.ls o x.iE.aJ,aC.ls o x.iE.bz,cu.ls o x.Net]
def da.el (o:Ob) (x:da):T:=.a (x.cs o)
abbrev da.ls (o:Ob) (l:List da):T:=.l o 18 (l.map (da.el o))
def da.al (x:da):Nat:=aS cr.al x.rO+x.iE.al+aS cu.al x.Net
def da.fit (x:da):Prop:=fits cr.fit x.rO/\x.iE.fit/\fits cu.fit x.Net
abbrev da.ty:Ty:=.st [.l (cr.ty),aA.ty,.l (cu.ty)]
theorem da.fz (o:Ob) (x:da):bO (x.cs o)=x.cs .n:=by simp only[da.cs,bO,T.fz,lD,cr.ef,aa.ef,aC.ef,cu.ef,au.ef,aD.ef,aK.ef,n0,nZ,oc]
theorem da.ef (o:Ob):(fun x=>((da.el o) x).fz)=da.el .n:=by funext x;simp only[da.el,T.fz,da.fz]
theorem da.of {ts:List T} (h:dU da.ty ts):∃x:da,ts=x.cs .n/\x.fit:=by
 have h:=od h;obtain⟨_,_,rfl,h0,h⟩:=cV h;obtain⟨_,_,rfl,h1,h⟩:=cV h;obtain⟨_,_,rfl,h2,h⟩:=cV h;obtain rfl:=oe h;obtain⟨x0,rfl,f0⟩:=cr.ji h0;obtain⟨x1,rfl,f1⟩:=aA.of h1;obtain⟨x2,rfl,f2⟩:=cu.ji h2;exact⟨⟨x0,x1,x2⟩,rfl,⟨f0,f1,f2⟩⟩
theorem da.ji {ts:List T} (h:dU (.l da.ty) ts):∃l:List da,ts=[da.ls .n l]/\fits da.fit l:=lF (el:=da.el .n) h fun cs hc=>by
 obtain⟨x,rfl,hx⟩:=da.of hc;exact⟨x,rfl,hx⟩
structure cY where
 Kind:Int
 A:Int
 B:Int
 C:Int
 D:Int
 bV:List Int
 deriving DecidableEq,Inhabited
def cY.cs (o:Ob) (x:cY):List T:=[iT x.Kind,iT x.A,iT x.B,iT x.C,iT x.D,ints o x.bV]
def cY.el (o:Ob) (x:cY):T:=.a (x.cs o)
abbrev cY.ls (o:Ob) (l:List cY):T:=.l o 6 (l.map (cY.el o))
def cY.al (x:cY):Nat:=x.bV.length
def cY.fit (x:cY):Prop:=x.bV.length<=maxLen
abbrev cY.ty:Ty:=.st [.i .i64,.i .i64,.i .i64,.i .i64,.i .i64,.l (.i .i64)]
theorem cY.fz (o:Ob) (x:cY):bO (x.cs o)=x.cs .n:=by simp only[cY.cs,bO,T.fz,lD,n0,nZ,oc]
theorem cY.ef (o:Ob):(fun x=>((cY.el o) x).fz)=cY.el .n:=by funext x;simp only[cY.el,T.fz,cY.fz]
theorem cY.of {ts:List T} (h:dU cY.ty ts):∃x:cY,ts=x.cs .n/\x.fit:=by
 have h:=od h;obtain⟨_,_,rfl,h0,h⟩:=cV h;obtain⟨_,_,rfl,h1,h⟩:=cV h;obtain⟨_,_,rfl,h2,h⟩:=cV h;obtain⟨_,_,rfl,h3,h⟩:=cV h;obtain⟨_,_,rfl,h4,h⟩:=cV h;obtain⟨_,_,rfl,h5,h⟩:=cV h;obtain rfl:=oe h;obtain⟨x0,rfl⟩:=fi h0;obtain⟨x1,rfl⟩:=fi h1;obtain⟨x2,rfl⟩:=fi h2;obtain⟨x3,rfl⟩:=fi h3;obtain⟨x4,rfl⟩:=fi h4;obtain⟨x5,rfl,f5⟩:=Ca h5;exact⟨⟨x0,x1,x2,x3,x4,x5⟩,rfl,f5⟩
theorem cY.ji {ts:List T} (h:dU (.l cY.ty) ts):∃l:List cY,ts=[cY.ls .n l]/\fits cY.fit l:=lF (el:=cY.el .n) h fun cs hc=>by
 obtain⟨x,rfl,hx⟩:=cY.of hc;exact⟨x,rfl,hx⟩
theorem dQ {n:Int} (h:-9223372036854775808<=n/\n<=9223372036854775807):IntKind.i64.wrap n=n:=by rw[IntKind.wrap_i64];omega
theorem bU {i:Nat} (h:i<9223372036854775807):IntKind.i64.wrap (↑i+1)=((i+1:Nat):Int):=by rw[dQ (by omega)];omega
theorem oq {α β:Type} (l:List α) (f:α->β):sub (l.map f) 0 (l.map f).length=l.map f:=by simp[sub,p8]
theorem bN (l:List T):sub l 0 l.length=l:=by simp[sub]
theorem bH {α:Type}{l:List α}{f:α->T}{i:Nat}{x:α} (h:l[i]?=some x):(l.map f)[((i:Nat):Int).toNat]?=some (f x):=by simp[h]
def bq (x lo hi:Int):Bool:=decide (lo<=x)&&decide (x<=hi)
def left (n:Int) (b:Nat):Int:=if n<b then-1 else n-b
def eP (n:Int):Prop:=-1<=n/\n<=1048576
theorem nn {n:Int}{b:Nat} (h:eP n):eP (left n b):=by unfold eP left at*;split<;>omega
theorem OW {n:Int}{b c:Nat} (hn:eP n) (h:decide (left n b<0)=true) (hc:b<=c):left n c=-1:=by
 simp only[decide_eq_true_eq]at h;unfold left at*;unfold eP at hn;split at h
 ·rw[if_pos (by omega)]
 ·omega
theorem IX {n:Int}{b:Nat} (hn:eP n) (h:decide (left n b<0)=false):left n b=n-b/\(b:Int)<=n:=by
 simp only[decide_eq_false_iff_not]at h;unfold left at*;split at h
 ·omega
 ·rename_i h1;rw[if_neg h1];exact⟨rfl,by omega⟩
theorem E4 {α:Type}{l:List α}{f:α->T}{n:Int} (hn:eP n) (hl:l.length<=maxLen):IntKind.i64.wrap (n-(l.map f).length)=n-l.length:=by
 unfold eP at hn;rw[cL,dQ (by unfold maxLen at hl;omega)]
def pre {α:Type} (f:α->Nat) (l:List α) (i:Nat):Nat:=((l.take i).map f).sum
theorem Pf {α:Type} (f:α->Nat) (l:List α):pre f l 0=0:=by simp[pre]
theorem uP {α:Type}{f:α->Nat}{l:List α}{i:Nat}{x:α} (h:l[i]?=some x):pre f l (i+1)=pre f l i+f x:=by
 unfold pre;rw[mb,h];simp
theorem Pe {α:Type}{f:α->Nat}{l:List α}{i:Nat} (h:l.length<=i):l.length+pre f l i=aS f l:=by
 unfold pre aS;rw[p8 h]
theorem w8 {α:Type}{f:α->Nat}{l:List α}{i:Nat}:l.length+pre f l i<=aS f l:=by
 unfold pre aS;have:∀(l:List Nat) (i:Nat),(l.take i).sum<=l.sum:=by
  intro l
  induction l with
  |nil=>intro i;simp
  |cons a l ih=>intro i;cases i with
   |zero=>simp
   |succ i=>have:=ih i;simp;omega
 have:=this (l.map f) i;rw[List.map_take];omega
theorem B3 {α:Type}{a b:List α}{i:Nat}{x:α} (h:a.take i=b.take i) (hx:a[i]?=some x) (hy:b[i]?=some x):a.take (i+1)=b.take (i+1):=by
 rw[mb,mb,h,hx,hy]
theorem Ce {α:Type}{a b:List α}{i:Nat}{x y:α} (hx:a[i]?=some x) (hy:b[i]?=some y) (h:x≠y):a≠b:=by
 intro e;subst e;rw[hx]at hy;cases hy;exact h rfl
theorem Cf {α β:Type}{a b:List α}{f g:α->β} (h:(((a.map f).length:Int)!=(b.map g).length)=true):a≠b:=by
 intro e;subst e;simp at h
theorem B1 {α β:Type}{a b:List α}{f g:α->β} (h:(((a.map f).length:Int)!=(b.map g).length)=false):a.length=b.length:=by
 simp at h;omega
theorem B0 {α:Type}{a b:List α}{i:Nat} (h:a.take i=b.take i) (hl:a.length=b.length) (hi:a.length<=i):a=b:=by
 rwa [p8 hi,p8 (by omega)]at h
theorem alW:(∀sz es,T.lz (.l .y sz es)=.l .n sz (bO es))/\(∀sz es,T.lz (.l .n sz es)=.l .n sz es)/\(∀k n,T.lz (.i k n)=.i k n)/\(∀x,T.lz (.b x)=.b x)/\(∀x,T.lz (.s x)=.s x)/\(∀g env,T.lz (.f g env)=.f g env)/\(∀k n,T.fz (.i k n)=.i k n)/\(∀x,T.fz (.b x)=.b x)/\(∀x,T.fz (.s x)=.s x)/\(∀cs,T.fz (.a cs)=.a (bO cs))/\(∀o sz es,T.fz (.l o sz es)=.l .n sz (bO es))/\(∀g env,T.fz (.f g env)=.f g env)/\(∀t,T.fz (.p t)=.p t)/\(T.fz .u=.u)/\(bO []=[])/\(∀t ts,bO (t::ts)=t.fz::bO ts)/\(∀o,(fun x=>(bm.el o x).fz)=bm.el .n)/\(∀o x,bO (bm.cs o x)=bm.cs .n x)/\(∀o,(fun x=>(af.el o x).fz)=af.el .n)/\(∀o x,bO (af.cs o x)=af.cs .n x)/\(∀o,(fun x=>(bT.el o x).fz)=bT.el .n)/\(∀o x,bO (bT.cs o x)=bT.cs .n x)/\(∀o,(fun x=>(aa.el o x).fz)=aa.el .n)/\(∀o x,bO (aa.cs o x)=aa.cs .n x)/\(∀o,(fun x=>(cZ.el o x).fz)=cZ.el .n)/\(∀o x,bO (cZ.cs o x)=cZ.cs .n x)/\(∀o,(fun x=>(cr.el o x).fz)=cr.el .n)/\(∀o x,bO (cr.cs o x)=cr.cs .n x)/\(∀o,(fun x=>(aD.el o x).fz)=aD.el .n)/\(∀o x,bO (aD.cs o x)=aD.cs .n x)/\(∀o,(fun x=>(au.el o x).fz)=au.el .n)/\(∀o x,bO (au.cs o x)=au.cs .n x)/\(∀o,(fun x=>(aK.el o x).fz)=aK.el .n)/\(∀o x,bO (aK.cs o x)=aK.cs .n x)/\(∀o,(fun x=>(bR.el o x).fz)=bR.el .n)/\(∀o x,bO (bR.cs o x)=bR.cs .n x)/\(∀o,(fun x=>(aC.el o x).fz)=aC.el .n)/\(∀o x,bO (aC.cs o x)=aC.cs .n x)/\(∀o,(fun x=>(aA.el o x).fz)=aA.el .n)/\(∀o x,bO (aA.cs o x)=aA.cs .n x)/\(∀o,(fun x=>(cu.el o x).fz)=cu.el .n)/\(∀o x,bO (cu.cs o x)=cu.cs .n x)/\(∀o,(fun x=>(da.el o x).fz)=da.el .n)/\(∀o x,bO (da.cs o x)=da.cs .n x)/\(∀o,(fun x=>(cY.el o x).fz)=cY.el .n)/\(∀o x,bO (cY.cs o x)=cY.cs .n x):=⟨fun _ _=>rfl,fun _ _=>rfl,fun _ _=>rfl,fun _=>rfl,fun _=>rfl,fun _ _=>rfl,fun _ _=>rfl,fun _=>rfl,fun _=>rfl,fun _=>rfl,fun _ _ _=>rfl,fun _ _=>rfl,fun _=>rfl,rfl,rfl,fun _ _=>rfl,bm.ef,bm.fz,af.ef,af.fz,bT.ef,bT.fz,aa.ef,aa.fz,cZ.ef,cZ.fz,cr.ef,cr.fz,aD.ef,aD.fz,au.ef,au.fz,aK.ef,aK.fz,bR.ef,bR.fz,aC.ef,aC.fz,aA.ef,aA.fz,cu.ef,cu.fz,da.ef,da.fz,cY.ef,cY.fz⟩
theorem iw:(∀{α:Type} (f:α->T) (l:List α),bO (l.map f)=l.map fun x=>(f x).fz)/\(∀{α β:Type} (l:List α) (f:α->β),sub (l.map f) 0 (l.map f).length=l.map f)/\((∀sz es,T.lz (.l .y sz es)=.l .n sz (bO es))/\(∀sz es,T.lz (.l .n sz es)=.l .n sz es)/\(∀k n,T.lz (.i k n)=.i k n)/\(∀x,T.lz (.b x)=.b x)/\(∀x,T.lz (.s x)=.s x)/\(∀g env,T.lz (.f g env)=.f g env)/\(∀k n,T.fz (.i k n)=.i k n)/\(∀x,T.fz (.b x)=.b x)/\(∀x,T.fz (.s x)=.s x)/\(∀cs,T.fz (.a cs)=.a (bO cs))/\(∀o sz es,T.fz (.l o sz es)=.l .n sz (bO es))/\(∀g env,T.fz (.f g env)=.f g env)/\(∀t,T.fz (.p t)=.p t)/\(T.fz .u=.u)/\(bO []=[])/\(∀t ts,bO (t::ts)=t.fz::bO ts)/\(∀o,(fun x=>(bm.el o x).fz)=bm.el .n)/\(∀o x,bO (bm.cs o x)=bm.cs .n x)/\(∀o,(fun x=>(af.el o x).fz)=af.el .n)/\(∀o x,bO (af.cs o x)=af.cs .n x)/\(∀o,(fun x=>(bT.el o x).fz)=bT.el .n)/\(∀o x,bO (bT.cs o x)=bT.cs .n x)/\(∀o,(fun x=>(aa.el o x).fz)=aa.el .n)/\(∀o x,bO (aa.cs o x)=aa.cs .n x)/\(∀o,(fun x=>(cZ.el o x).fz)=cZ.el .n)/\(∀o x,bO (cZ.cs o x)=cZ.cs .n x)/\(∀o,(fun x=>(cr.el o x).fz)=cr.el .n)/\(∀o x,bO (cr.cs o x)=cr.cs .n x)/\(∀o,(fun x=>(aD.el o x).fz)=aD.el .n)/\(∀o x,bO (aD.cs o x)=aD.cs .n x)/\(∀o,(fun x=>(au.el o x).fz)=au.el .n)/\(∀o x,bO (au.cs o x)=au.cs .n x)/\(∀o,(fun x=>(aK.el o x).fz)=aK.el .n)/\(∀o x,bO (aK.cs o x)=aK.cs .n x)/\(∀o,(fun x=>(bR.el o x).fz)=bR.el .n)/\(∀o x,bO (bR.cs o x)=bR.cs .n x)/\(∀o,(fun x=>(aC.el o x).fz)=aC.el .n)/\(∀o x,bO (aC.cs o x)=aC.cs .n x)/\(∀o,(fun x=>(aA.el o x).fz)=aA.el .n)/\(∀o x,bO (aA.cs o x)=aA.cs .n x)/\(∀o,(fun x=>(cu.el o x).fz)=cu.el .n)/\(∀o x,bO (cu.cs o x)=cu.cs .n x)/\(∀o,(fun x=>(da.el o x).fz)=da.el .n)/\(∀o x,bO (da.cs o x)=da.cs .n x)/\(∀o,(fun x=>(cY.el o x).fz)=cY.el .n)/\(∀o x,bO (cY.cs o x)=cY.cs .n x)):=⟨@lD,@oq,alW⟩
section
variable {id i:Nat}{o:aY}{d:Option Nat}{op:jr}{os:List aY}{fs cz:Fs}{l l1 l2 l3:LS}{K:LS->Prop}{s:Nat}{b want:Bool}{kl:List Nat}
theorem yo (hK:cc id (i+1) os cz l1 K) (h:(fs.hd (o.exec ((id*1000+i+1)*8))).ev l=some ((),l1):=by exact rfl) (hf:fs.fC fun f=>f=cz:=by exact rfl):cc id i (o::os) fs l K:=zo h hf hK
theorem yy (h:cc id i (⟨d,op,none,kl⟩::os) fs l K) (hr:fs.has s=true:=by exact rfl) (hg:l.get s=.x (.b b):=by exact rfl) (ht:b=want:=by with_reducible assumption):cc id i (⟨d,op,some (s,want),kl⟩::os) fs l K:=zy hr hg ht h
theorem ym (h:cc id (i+1) os cz l1 K) (hr:fs.has s=true:=by exact rfl) (hg:l.get s=.x (.b b):=by exact rfl) (ht:b= !want:=by with_reducible assumption) (h1:(fs.hd ((dE d (.dj 0)).bind fun _=>forget kl)).ev l=some ((),l1):=by exact rfl) (hf:fs.fC fun f=>f=cz:=by exact rfl):cc id i (⟨d,op,some (s,want),kl⟩::os) fs l K:=zm hr hg ht h1 hf h
theorem yp {c x y:aL}{v:T} (h:cc id (i+1) os cz l1 K) (hg:(fs.hd (raw ((id*1000+i+1)*8) c)).ev l=some (.x (.b b),l):=by exact rfl) (ht:b=want:=by with_reducible assumption) (hx:(fs.hd (raw ((id*1000+i+1)*8) (bif want then x else y))).ev l=some (.x v,l):=by exact rfl) (h1:(fs.hd ((dE d (.x v)).bind fun _=>forget kl)).ev l=some ((),l1):=by exact rfl) (hf:fs.fC fun f=>f=cz:=by exact rfl):cc id i (⟨d,.pick c x y,none,kl⟩::os) fs l K:=zp hg ht hx h1 hf h
theorem yk {F:aB}{args:List (fN×aL)}{hs:List Hand}{gH:List Arg}{q:Out} (g:Nat) (h2:F gH=some q) (hK:cc id (i+1) os cz l2 K) (h1:(fs.hd (oz ((id*1000+i+1)*8) args [])).ev l=some (hs,l1):=by exact rfl) (ha:hs.map Hand.arg=gH:=by exact rfl) (h3:jV hs q=true:=by exact rfl) (h4:(fs.hd ((qk ((id*1000+i+1)*8) d hs q).bind fun _=>forget kl)).ev l1=some ((),l2):=by exact rfl) (hf:fs.fC fun f=>f=cz:=by exact rfl):cc id i (⟨d,.call g F args,none,kl⟩::os) fs l K:=zk g h1 ha h2 h3 h4 hf hK
theorem yv {F:aB}{args:List (fN×aL)}{hs:List Hand}{gH:List Arg}{q:Out} (g:Nat) (h2:F gH=some q) (hK:cc id (i+1) os cz l2 K) (h1:(fs.hd (oz ((id*1000+i+1)*8) args [])).ev l=some (hs,l1):=by exact rfl) (ha:hs.map Hand.arg=gH:=by(simp only[List.map,iw];exact rfl)) (h3:jV hs q=true:=by exact rfl) (h4:(fs.hd ((qk ((id*1000+i+1)*8) d hs q).bind fun _=>forget kl)).ev l1=some ((),l2):=by exact rfl) (hf:fs.fC fun f=>f=cz:=by exact rfl):cc id i (⟨d,.call g F args,none,kl⟩::os) fs l K:=zk g h1 ha h2 h3 h4 hf hK
theorem yw {F:aB}{args:List (fN×aL)}{hs:List Hand}{gH:List Arg}{q:Out} (g:Nat) (h2:F gH=some q) (h3:jV hs q=true) (hK:cc id (i+1) os cz l2 K) (h1:(fs.hd (oz ((id*1000+i+1)*8) args [])).ev l=some (hs,l1):=by exact rfl) (ha:hs.map Hand.arg=gH:=by(simp only[List.map,iw];exact rfl)) (h4:(fs.hd ((qk ((id*1000+i+1)*8) d hs q).bind fun _=>forget kl)).ev l1=some ((),l2):=by exact rfl) (hf:fs.fC fun f=>f=cz:=by exact rfl):cc id i (⟨d,.call g F args,none,kl⟩::os) fs l K:=zk g h1 ha h2 h3 h4 hf hK
theorem yd {x:aL}{lI:List (Nat×aB)}{g:Nat}{env:List T}{F:aB}{args:List (fN×aL)}{hs:List Hand}{gH:List Arg}{q:Out} (h2:F gH=some q) (hK:cc id (i+1) os cz l2 K) (h0:(fs.hd (raw ((id*1000+i+1)*8) x)).ev l=some (.x (.f g env),l):=by exact rfl) (hc:lI.find? (fun c=>c.1==g)=some (g,F):=by exact rfl) (h1:(fs.hd (oz ((id*1000+i+1)*8) args env)).ev l=some (hs,l1):=by exact rfl) (ha:hs.map Hand.arg=gH:=by exact rfl) (h3:jV hs q=true:=by exact rfl) (h4:(fs.hd ((qk ((id*1000+i+1)*8) d hs q).bind fun _=>forget kl)).ev l1=some ((),l2):=by exact rfl) (hf:fs.fC fun f=>f=cz:=by exact rfl):cc id i (⟨d,.tK x lI args,none,kl⟩::os) fs l K:=zd h0 hc h1 ha h2 h3 h4 hf hK
theorem yi {sz:Nat}{x ix:aL}{k:IntKind}{n:Int}{es:List T} (t:T) (ht:es[n.toNat]?=some t) (h:cc id (i+1) os cz l1 K) (h1:(fs.hd (raw ((id*1000+i+1)*8) ix)).ev l=some (.x (.i k n),l):=by exact rfl) (h2:(fs.hd (look ((id*1000+i+1)*8) x)).ev l=some (.x (.l .n sz es),l):=by exact rfl) (h0:0<=n:=by exact pY _) (h3:(fs.hd ((dE d (.q t 0)).bind fun _=>forget kl)).ev l=some ((),l1):=by exact rfl) (hf:fs.fC fun f=>f=cz:=by exact rfl):cc id i (⟨d,.ia sz x ix,none,kl⟩::os) fs l K:=zi t h1 h2 h0 ht h3 hf h
theorem yj {sz:Nat}{x ix:aL}{k:IntKind}{n:Int}{es:List T} (t:T) (h0:0<=n) (ht:es[n.toNat]?=some t) (h:cc id (i+1) os cz l1 K) (h1:(fs.hd (raw ((id*1000+i+1)*8) ix)).ev l=some (.x (.i k n),l):=by exact rfl) (h2:(fs.hd (look ((id*1000+i+1)*8) x)).ev l=some (.x (.l .n sz es),l):=by exact rfl) (h3:(fs.hd ((dE d (.q t 0)).bind fun _=>forget kl)).ev l=some ((),l1):=by exact rfl) (hf:fs.fC fun f=>f=cz:=by exact rfl):cc id i (⟨d,.ia sz x ix,none,kl⟩::os) fs l K:=zi t h1 h2 h0 ht h3 hf h
theorem yx {sz:Nat}{x ix:aL}{k:IntKind}{n:Int}{r':Nat}{kk:Wr.K}{p:List Nat}{lo m:Nat} (ht:n<m) (h:cc id (i+1) os cz l1 K) (h1:(fs.hd (raw ((id*1000+i+1)*8) ix)).ev l=some (.x (.i k n),l):=by exact rfl) (h2:(fs.hd (look ((id*1000+i+1)*8) x)).ev l=some (.w r' kk p sz lo m,l):=by exact rfl) (h0:0<=n:=by exact pY _) (h3:(fs.hd ((dE d (.ptr r' kk (p++[lo+n.toNat]) 0)).bind fun _=>forget kl)).ev l=some ((),l1):=by exact rfl) (hf:fs.fC fun f=>f=cz:=by exact rfl):cc id i (⟨d,.ia sz x ix,none,kl⟩::os) fs l K:=zw h1 h2 h0 ht h3 hf h
theorem yz {sz:Nat}{x ix:aL}{k:IntKind}{n:Int}{r':Nat}{kk:Wr.K}{p:List Nat}{lo m:Nat} (h0:0<=n) (ht:n<m) (h:cc id (i+1) os cz l1 K) (h1:(fs.hd (raw ((id*1000+i+1)*8) ix)).ev l=some (.x (.i k n),l):=by exact rfl) (h2:(fs.hd (look ((id*1000+i+1)*8) x)).ev l=some (.w r' kk p sz lo m,l):=by exact rfl) (h3:(fs.hd ((dE d (.ptr r' kk (p++[lo+n.toNat]) 0)).bind fun _=>forget kl)).ev l=some ((),l1):=by exact rfl) (hf:fs.fC fun f=>f=cz:=by exact rfl):cc id i (⟨d,.ia sz x ix,none,kl⟩::os) fs l K:=zw h1 h2 h0 ht h3 hf h
theorem yl {x:aL}{rr:Nat}{k:Wr.K}{p:List Nat}{off:Nat}{c:RC}{t:T} (node:T) (hn:c.t.aM p=some node) (h:cc id (i+1) os cz l1 K) (h1:(fs.hd (addr ((id*1000+i+1)*8) x)).ev l=some (.ptr rr k p off,l):=by exact rfl) (h2:(fs.hd (oW rr k p)).ev l=some (c,l):=by exact rfl) (ht:node.cells[off]?=some t:=by exact rfl) (h3:(fs.hd ((dE d (seen rr c.k p off node t).av).bind fun _=>forget kl)).ev l=some ((),l1):=by exact rfl) (hf:fs.fC fun f=>f=cz:=by exact rfl):cc id i (⟨d,.ld none x,none,kl⟩::os) fs l K:=zl node h1 h2 hn ht h3 hf h
theorem yL {n:Nat}{x:aL}{rr:Nat}{k:Wr.K}{p:List Nat}{off:Nat}{c:RC} (cs:List T) (hn:c.t.aM p=some (.a cs)) (h:cc id (i+1) os cz l1 K) (h1:(fs.hd (addr ((id*1000+i+1)*8) x)).ev l=some (.ptr rr k p off,l):=by exact rfl) (h2:(fs.hd (oW rr k p)).ev l=some (c,l):=by exact rfl) (hl:Nat.ble (off+n) cs.length=true:=by exact rfl) (h3:(fs.hd ((dE d (.st (seenCells rr c.k p (.a cs) off (sub cs off n)))).bind fun _=>forget kl)).ev l=some ((),l1):=by exact rfl) (hf:fs.fC fun f=>f=cz:=by exact rfl):cc id i (⟨d,.ld (some n) x,none,kl⟩::os) fs l K:=zL cs h1 h2 hn hl h3 hf h
theorem yS {n:Nat}{tk:Bool}{x v:aL}{rr:Nat}{k k':Wr.K}{p:List Nat}{off:Nat}{c:RC}{new:List T} (node:T) (t:T) (hn:c.t.aM p=some node) (hm:c.t.eO p=true) (ht:c.t.put p (node.jo (fG node.cells off new))=t) (h:cc id (i+1) os cz l2 K) (h0:(fs.hd (gJ ((id*1000+i+1)*8) tk v)).ev l=some (new,l1):=by exact rfl) (hl:new.length=n:=by exact rfl) (h1:(fs.hd (addr ((id*1000+i+1)*8) x)).ev l1=some (.ptr rr k p off,l1):=by exact rfl) (h2:(fs.hd (oW rr k p)).ev l1=some (c,l1):=by exact rfl) (bf:LI c p off node new=true:=by exact rfl) (hk:(bif (sub node.cells off new.length).all T.scalar&&new.all T.scalar then c.k else bump ((id*1000+i+1)*8) c p)=k':=by exact rfl) (h3:(fs.hd ((Pg.wr rr ({c with k:=k',t:=t}:RC).av).bind fun _=>forget kl)).ev l1=some ((),l2):=by exact rfl) (hf:fs.fC fun f=>f=cz:=by exact rfl):cc id i (⟨none,.kQ n tk x v,none,kl⟩::os) fs l K:=zS node t h0 hl h1 h2 hn hm bf ht hk h3 hf h
end
section
variable {l:LS}{us:List Nat}{K:Ex->LS->List Nat->Prop}
theorem yc {c:eB} (h:L0 c l us K) (hs:isStep c=true:=by exact rfl):Ev c l us K:=zc hs h
theorem yt {c:aL}{a b:eB}{t:Bool}{l l1:LS}{us:List Nat}{K:Ex->LS->List Nat->Prop} (h1:t=true->Ev a l us K) (h2:t=false->Ev b l us K) (h:(raw 0 c).ev l=some (.x (.b t),l1):=by exact rfl):Ev (.cond c a b) l us K:=zt h h1 h2
theorem ak {c:aL}{a b:eB}{t:Bool}{l l1:LS}{us:List Nat}{K:Ex->LS->List Nat->Prop} (h1:Ev a l us K) (h:(raw 0 c).ev l=some (.x (.b t),l1):=by exact rfl) (ht:t=true:=by with_reducible assumption):Ev (.cond c a b) l us K:=zt1 h ht h1
theorem ai {c:aL}{a b:eB}{t:Bool}{l l1:LS}{us:List Nat}{K:Ex->LS->List Nat->Prop} (h1:Ev b l us K) (h:(raw 0 c).ev l=some (.x (.b t),l1):=by exact rfl) (ht:t=false:=by with_reducible assumption):Ev (.cond c a b) l us K:=zt0 h ht h1
end
section
variable {id i:Nat}{d:Option Nat}{os:List aY}{l l1 l2 l3:LS}{K:LS->Prop}{kl:List Nat}
theorem Wd {l:LS}:(rh []).ev l=some ((),l):=rfl
theorem Z8v {t:T}{cs:List Cell}{l:LS} (h:(rh cs).ev l=some ((),l)):(rh (.x t::cs)).ev l=some ((),l):=h
theorem We {r:Nat}{k:Wr.K}{p:List Nat}{z lo n:Nat}{cs:List Cell}{l:LS}{c:RC}{sz:Nat}{es:List T} (h1:(kc r k p).ev l=some (c,l)) (hn:c.t.aM p=some (.l .y sz es)) (hl:es.length=n) (h:(rh cs).ev l=some ((),l)):
  (rh (.w r k p z lo n::cs)).ev l=some ((),l):=by
 simp only[rh,Bind.bind,ch,h1,hn,hl,if_true];exact h
theorem Zaa {e:Nat}{x:aL}{r:Nat}{k:Wr.K}{p:List Nat}{z sz:Nat}{c:RC}{es:List T} (h1:(raw e x).ev l=some (.w r k p z 0 es.length,l)) (h2:(kc r k p).ev l=some (c,l)) (hn:c.t.aM p=some (.l .y sz es))
  (hw:(Pg.wr r ({c with t:=c.t.put p .u}:RC).av).ev l=some ((),l1)):(gJ e true x).ev l=some ([.l .y sz es],l1):=by
 have mz:sub es 0 es.length=es:=by simp[sub]
 simp only[gJ,jX,Bind.bind,ch,h1,h2,hn,if_true,hw,mz];rfl
theorem Zj2 {e r:Nat}{ls:List (List Nat×T)}{av:AV}{c:RC}{t':T} (h1:(Pg.rd r).ev l1=some (av,l1)) (hc:av.rc=some c) (hp:qF ls c.t=some t') (hw:(Pg.wr r ({c with k:=⟨c.k.e,e,e⟩,t:=t'}:RC).av).ev l1=some ((),l2)):
  (Dw e r ls).ev l1=some ((),l2):=by
 simp only[Dw,Bind.bind,ch,h1,hc,hp];exact hw
theorem Zjl {p:List Nat}{x t t':T} (hn:t.aM p=some .u) (hm:t.eO p=true) (he:p.isEmpty=false) (ht:t.put p x=t'):qF [(p,x)] t=some t':=by
 simp only[qF,hn,hm,he,uA,lB,s6,if_true,ht]
theorem zM (g:Nat) {F:aB}{x:aL}{args:List (fN×aL)}{v uX:AV}{c0:RC}{l4:LS}{ps:List (Option (Nat×List Nat))}{r:Nat}{ts cs:List T}{hs:List Hand}{xa:Arg}{gH:List Arg}{q:Out}
  (h1:(raw ((id*1000+i+1)*8) x).ev l=some (v,l)) (h2:xY v=some (ps,r)) (h3:(rh v.Hm).ev l=some ((),l)) (hr:(Pg.rd r).ev l=some (uX,l)) (hc:uX.rc=some c0) (h4:(gJ ((id*1000+i+1)*8) true x).ev l=some (ts,l1))
  (h5:(ml ((id*1000+i+1)*8) args (args.map fun _=>none)).ev l1=some (hs,l1)) (hS:hs.all (fun h=>h.iI.isEmpty&&h.box.isNone&&h.arg.rE)=true) (ha:zG v ts=some xa) (tQ:xa::hs.map Hand.arg=gH) (hF:F gH=some q)
  (hb:q.back=[cs]) (hg:q.dG.all RV.lO=true) (hl:cs.length=ps.length) (h6:(Dw ((id*1000+i+1)*8) r (ng ps cs)).ev l1=some ((),l4)) (h8:(DE r c0).ev l4=some ((),l2)) (h7:((results ((id*1000+i+1)*8) d q.dG).bind fun _=>forget kl).ev l2=some ((),l3))
  (hK:cc id (i+1) os none l3 K):cc id i (⟨d,.iq g F x args,none,kl⟩::os) none l K:=by
 subst tQ;refine zo ?_ rfl hK;have px:Du F v ts hs ps.length=some (q,cs):=by
  simp only[Du,hS,if_true,ha,hF,P0,hb,hg,hl,beq_self_eq_true,gX]
 show((Fg ((id*1000+i+1)*8) d F x args).bind fun _=>forget kl).ev l=_;rw[ch]at h7⊢;simp only[Fg,Bind.bind,ch,h1,h2,h3,hr,hc,h4,h5,px,h6,h8];exact h7
end
def aff (f:aI) (o:Out):Ex->LS->List Nat->Prop
 |.exit _,_,_=>False
 |_,l,_=>∃l',(AX f).ev l=some (o,l')
theorem rW {f:aI}{xs:List Arg}{o:Out} (h0:E7 f xs=true) (h:Dm 0 xs [] fun l=>Ev f.code l [] (aff f o)):lock (nu f) xs=some o:=by
 rw[rX];obtain⟨l,h1,h2⟩:=OQ xs 0 [] fun l=>Ev f.code l [] (aff f o);rw[h1]at h;obtain⟨ex,l',ed,h3,h4⟩:=h;rw[h2]at h3;have h5:(LS.of []:St)=fun _=>AV.u:=rfl;rw[h5]at h3;unfold nu;rw[if_pos h0,h3];cases ex with
 |exit id=>exact h4.elim
 |nx=>
  obtain⟨l2,h6⟩:=h4;simp only[qa _ h6]
 |ret=>
  obtain⟨l2,h6⟩:=h4;simp only[qa _ h6]
theorem sg {f:aI}{o o':Out}{l l':LS} (h:(AX f).ev l=some (o',l')) (ho:o'=o):∃l',(AX f).ev l=some (o,l'):=⟨l',by rw[h,ho]⟩
theorem jT {o:Ob}{sz i:Nat}{E:List T}{c:T}{q:List Nat}{x:Option T} (hi:i<E.length) (h:c.aM q=x):(T.l o sz (E.set i c)).aM ((0+(i:Int).toNat)::q)=x:=by
 simp only[T.aM,T.bA,db,Int.toNat_natCast,il hi,jl,h]
theorem tz {sz i:Nat}{E:List T}{c:T}{q:List Nat} (hi:i<E.length) (h:c.eO q=true):(T.l .y sz (E.set i c)).eO ((0+(i:Int).toNat)::q)=true:=by
 simp only[T.eO,db,Int.toNat_natCast,il hi,h];rfl
def T.Qd:T->Option T
 |.a cs=>Fk cs fun cs=>some (.a cs)
 |t=>some t
theorem T.alV {t t':T} (h:t.Qd=some t'):t=t':=by
 cases t<;>simp only[T.Qd,IJ,aR]at h<;>exact h
theorem qf {o:Ob}{sz i:Nat}{E:List T}{c c' x:T}{q:List Nat} (hi:i<E.length) (h:(c.put q x).Qd=some c'):(T.l o sz (E.set i c)).put ((0+(i:Int).toNat)::q) x=.l o sz (E.set i c'):=by
 have h:=T.alV h;simp only[T.put,T.bA,db,Int.toNat_natCast,il hi,T.dP,List.set_set,h]
theorem rY {i:Nat}{E:List T}{c:T} (hi:i<E.length):(i:Int)<(E.set i c).length:=by simpa using hi
theorem Xb:∀(p:List Nat) {t x y:T},t.aM p=some y->(t.put p x).aM p=some x
 |[],t,x,y,_=>rfl
 |k::p,t,x,y,h=>by
  simp only[T.aM]at h;cases hk:t.bA k with
  |none=>rw[hk]at h;cases h
  |some c=>
   rw[hk]at h;simp only[T.put,hk,T.aM];have:(t.dP k (c.put p x)).bA k=some (c.put p x):=by
    cases t<;>simp only[T.bA,T.dP]at hk⊢<;>first|cases hk|(have:=(bt.1 hk).1;simp[this])
   rw[this];exact Xb p h
theorem O2:∀(p:List Nat) {t x y:T},t.aM p=some y->t.eO p=true->(t.put p x).eO p=true
 |[],t,x,y,_,_=>by cases x<;>rfl
 |k::p,t,x,y,h,hm=>by
  simp only[T.aM]at h;cases hk:t.bA k with
  |none=>rw[hk]at h;cases h
  |some c=>
   rw[hk]at h;simp only[T.put,hk];cases t<;>simp only[T.bA,T.dP]at hk⊢<;>first|cases hk|skip
   ·have h1:=(bt.1 hk).1;simp only[T.eO,hk]at hm;simp only[T.eO,il h1];exact O2 p h hm
   ·have h1:=(bt.1 hk).1;simp only[T.eO,hk,Y8]at hm;simp only[T.eO,il h1,Y8];exact⟨hm.1,O2 p h hm.2⟩
theorem XO:∀(p:List Nat) {t x z y:T},t.aM p=some y->(t.put p x).put p z=t.put p z
 |[],t,x,z,y,_=>rfl
 |k::p,t,x,z,y,h=>by
  simp only[T.aM]at h;cases hk:t.bA k with
  |none=>rw[hk]at h;cases h
  |some c=>
   rw[hk]at h;have:∀d:T,(t.dP k d).bA k=some d:=by
    intro d;cases t<;>simp only[T.bA,T.dP]at hk⊢<;>first|cases hk|(have:=(bt.1 hk).1;simp[this])
   have h2:∀d e:T,(t.dP k d).dP k e=t.dP k e:=by
    intro d e;cases t<;>simp only[T.dP,List.set_set]
   simp only[T.put,hk,this,h2];rw[XO p h]
section
variable {id i:Nat}{d:Option Nat}{os:List aY}{l l1 l2 l3 l4:LS}{K:LS->Prop}{kl:List Nat}
theorem yM (g:Nat) {F:aB}{x:aL}{args:List (fN×aL)}{uX ZV:AV}{c c1:RC}{r z n:Nat}{k:Wr.K}{p:List Nat}{es bW:List T}{t1 t2:T}{hs:List Hand}{gH:List Arg}{rs:List RV}
  (hF:F (.mu (.l .y z es)::gH)=some ⟨rs,[[.l .y z bW]]⟩) (hK:cc id (i+1) os none l3 K)
  (h1:(raw ((id*1000+i+1)*8) x).ev l=some (.w r k p z 0 n,l):=by exact rfl) (SS:p.isEmpty=false:=by exact rfl) (h2:(kc r k p).ev l=some (c,l):=by exact rfl) (hn:c.t.aM p=some (.l .y z es):=by first|exact jT (by assumption) rfl|exact rfl)
  (hm:c.t.eO p=true:=by first|exact tz (by assumption) rfl|exact rfl) (hlen:es.length=n:=by exact rfl) (hr:(Pg.rd r).ev l=some (uX,l):=by exact rfl) (hc:uX.rc=some c:=by exact rfl) (oK:c.t.put p .u=t1:=by first|exact qf (by assumption) rfl|exact rfl)
  (hw:(Pg.wr r ({c with t:=t1}:RC).av).ev l=some ((),l1):=by exact rfl) (h5:(ml ((id*1000+i+1)*8) args (args.map fun _=>none)).ev l1=some (hs,l1):=by exact rfl) (hS:hs.all (fun h=>h.iI.isEmpty&&h.box.isNone&&h.arg.rE)=true:=by exact rfl) (tQ:hs.map Hand.arg=gH:=by exact rfl)
  (hg:rs.all RV.lO=true:=by exact rfl) (dO:(Pg.rd r).ev l1=some (ZV,l1):=by exact rfl) (nB:ZV.rc=some c1:=by exact rfl) (iP:c1.t=t1:=by exact rfl) (fk:c.t.put p (.l .y z bW)=t2:=by first|exact qf (by assumption) rfl|exact rfl)
  (AT:(Pg.wr r ({c1 with k:=⟨c1.k.e,(id*1000+i+1)*8,(id*1000+i+1)*8⟩,t:=t2}:RC).av).ev l1=some ((),l4):=by exact rfl) (h8:(DE r c).ev l4=some ((),l2):=by exact rfl) (h7:((results ((id*1000+i+1)*8) d rs).bind fun _=>forget kl).ev l2=some ((),l3):=by exact rfl):
  cc id i (⟨d,.iq g F x args,none,kl⟩::os) none l K:=by
 subst hlen oK fk tQ;refine zM (ts:=[.l .y z es]) (cs:=[.l .y z bW]) (ps:=[some (r,p)]) (r:=r) g h1 rfl (We h2 hn rfl Wd) hr hc (Zaa h1 h2 hn hw) h5 hS rfl rfl hF rfl hg rfl ?_ h8 h7 hK;refine Zj2 (t':=c.t.put p (.l .y z bW)) dO nB ?_ AT;show qF [(p,.l .y z bW)] c1.t=_;rw[iP];exact Zjl (Xb p hn) (O2 p hn hm) SS (XO p hn)
theorem yN (g:Nat) {F:aB}{x:aL}{args:List (fN×aL)}{v uX:AV}{c0:RC}{ps:List (Option (Nat×List Nat))}{r:Nat}{ts cs:List T}{hs:List Hand}{xa:Arg}{gH:List Arg}{q:Out}
  (hF:F gH=some q) (hK:cc id (i+1) os none l3 K) (h1:(raw ((id*1000+i+1)*8) x).ev l=some (v,l):=by exact rfl) (h2:xY v=some (ps,r):=by exact rfl) (h3:(rh v.Hm).ev l=some ((),l):=by repeat' (first|exact Wd|(apply We;exact rfl;exact rfl;exact rfl)|apply Z8v))
  (hr:(Pg.rd r).ev l=some (uX,l):=by exact rfl) (hc:uX.rc=some c0:=by exact rfl) (h4:(gJ ((id*1000+i+1)*8) true x).ev l=some (ts,l1):=by exact rfl)
  (h5:(ml ((id*1000+i+1)*8) args (args.map fun _=>none)).ev l1=some (hs,l1):=by exact rfl) (hS:hs.all (fun h=>h.iI.isEmpty&&h.box.isNone&&h.arg.rE)=true:=by exact rfl) (ha:zG v ts=some xa:=by exact rfl) (tQ:xa::hs.map Hand.arg=gH:=by(simp only[List.map,oq];exact rfl))
  (hb:q.back=[cs]:=by exact rfl) (hg:q.dG.all RV.lO=true:=by exact rfl) (hl:cs.length=ps.length:=by exact rfl) (h6:(Dw ((id*1000+i+1)*8) r (ng ps cs)).ev l1=some ((),l4):=by exact rfl) (h8:(DE r c0).ev l4=some ((),l2):=by exact rfl) (h7:((results ((id*1000+i+1)*8) d q.dG).bind fun _=>forget kl).ev l2=some ((),l3):=by exact rfl):
  cc id i (⟨d,.iq g F x args,none,kl⟩::os) none l K:=
 zM g h1 h2 h3 hr hc h4 h5 hS ha tQ hF hb hg hl h6 h8 h7 hK
end
def sc (k:Int):Int:=IntKind.i64.wrap (k+1)
def bd {α:Type} (m:α->Int->α×Int):List α->Int->List α×Int
 |[],k=>([],k)
 |x::l,k=>((m x k).1::(bd m l (m x k).2).1,(bd m l (m x k).2).2)
def fv:Int:=4611686018427387904
def fI {α:Type} (m:α->Int->α×Int) (w:α->Nat):Prop:=∀x k (r:Nat),0<=k->k+((w x+r:Nat):Int)<=fv->0<=(m x k).2/\(m x k).2+(r:Int)<=fv
def wL {α:Type} (w:α->Nat) (l:List α):Nat:=(l.map fun x=>1+w x).sum
theorem PV {α:Type} (w:α->Nat):∀(l:List α),l.length<=wL w l
 |[]=>Nat.le_refl _
 |x::l=>by have:=PV w l;simp only[wL,fc,im,dH]at*;omega
theorem cv {k:Int}{r:Nat} (h:0<=k) (h1:k+((1+r:Nat):Int)<=fv):0<=sc k/\sc k+(r:Int)<=fv:=by
 unfold sc fv at*;rw[IntKind.wrap_i64];omega
theorem cq {α:Type}{m:α->Int->α×Int}{w:α->Nat} (h:fI m w):fI (bd m) (wL w):=by
 intro l
 induction l with
 |nil=>intro k r h1 h2;simp only[wL,s8,List.sum_nil,db]at h2;exact⟨h1,h2⟩
 |cons x l ih=>
  intro k r h1 h2;simp only[wL,fc,im]at h2;obtain⟨h3,h4⟩:=h x k (wL w l+r) h1 (by unfold wL;omega);exact ih _ r h3 h4
theorem zq {α:Type} (m:α->Int->α×Int):∀(l:List α) (k:Int),(bd m l k).1.length=l.length
 |[],_=>rfl
 |x::l,k=>by simp only[bd,dH,zq m l]
theorem I6 {α:Type} (m:α->Int->α×Int) (x:α):∀(l:List α) (k:Int),bd m (l++[x]) k=((bd m l k).1++[(m x (bd m l k).2).1],(m x (bd m l k).2).2)
 |[],k=>rfl
 |y::l,k=>by simp only[gf,bd,I6 m x l]
theorem W2 {α:Type} (m:α->Int->α×Int):∀(l:List α) (k:Int) (i:Nat) (x:α),l[i]?=some x->(bd m l k).1[i]?=some (m x (bd m (l.take i) k).2).1
 |[],k,i,x,h=>by simp at h
 |y::l,k,0,x,h=>by simp only[kE,aR]at h;subst h;rfl
 |y::l,k,i+1,x,h=>by
  simp only[wN]at h;simp only[bd,wN,List.take_succ_cons];exact W2 m l _ i x h
theorem PO {α:Type}{l:List α}{i:Nat}{x:α} (h:l[i]?=some x):l.take (i+1)=l.take i++[x]:=by rw[mb,h];rfl
theorem W4 {α:Type}{m:α->Int->α×Int}{w:α->Nat} (h:fI m w) {l:List α}{k:Int} (h1:0<=k) (h2:k+(wL w l:Int)<=fv) {i:Nat}{x:α} (hx:l[i]?=some x):0<=(bd m (l.take i) k).2/\(bd m (l.take i) k).2+(w x:Int)<=fv:=by
 have h3:wL w l=wL w (l.take i)+(1+w x+wL w (l.drop (i+1))):=by
  have h4:i<l.length:=(bt.1 hx).1;have h5:l[i]=x:=by rw[bF h4]at hx;exact Option.some.inj hx
  have:l=l.take i++(x::l.drop (i+1)):=by rw[<-h5,<-List.drop_eq_getElem_cons h4,uG]
  conv=>lhs;rw[this]
  simp only[wL,kh,List.sum_append,fc,im]
 rw[h3]at h2;obtain⟨h6,h7⟩:=cq h (l.take i) k _ h1 h2;exact⟨h6,by omega⟩
def nJ {α:Type} (m:α->Int->α×Int) (l:List α) (k:Int) (i:Nat):List α:=(bd m (l.take i) k).1++l.drop i
theorem W5 {α:Type} (m:α->Int->α×Int) (l:List α) (k:Int) (i:Nat):(nJ m l k i).length=l.length:=by
 simp only[nJ,jR,zq,fU,List.length_drop];omega
theorem Zfm {α:Type}{m:α->Int->α×Int}{l:List α}{k:Int}{i:Nat}{x:α} (h:l[i]?=some x):(nJ m l k i)[i]?=some x:=by
 have h1:i<l.length:=(bt.1 h).1;have h2:(bd m (l.take i) k).1.length=i:=by rw[zq,fU];omega
 rw[nJ,kD (by omega),h2,Nat.sub_self,rT,pc,h]
theorem Zfo {α:Type}{m:α->Int->α×Int}{l:List α}{k:Int}{i:Nat}{x:α} (h:l[i]?=some x):(nJ m l k i).set i (m x (bd m (l.take i) k).2).1=nJ m l k (i+1):=by
 have h1:i<l.length:=(bt.1 h).1;have h2:(bd m (l.take i) k).1.length=i:=by rw[zq,fU];omega
 have h5:l[i]=x:=by rw[bF h1]at h;exact Option.some.inj h
 rw[nJ,List.set_append_right _ _ (by omega),h2,Nat.sub_self,nJ,PO h,I6,gY];rw[show l.drop i=x::l.drop (i+1) by rw[<-h5,<-List.drop_eq_getElem_cons h1]];rfl
theorem Zp5 {α:Type}{l:List α}{i:Nat}{x:α} (h:l[i]?=some x):l.set i x=l:=by
 obtain⟨h1,h2⟩:=bt.1 h;rw[<-h2,List.set_getElem_self]
section
variable {c:eB}{l:LS}{us:List Nat}{K:Ex->LS->List Nat->Prop}
theorem DM {bY:List Nat}{l':LS} (h:Ev c l' [] (pE bY c K)) (hr:l.gy bY some=some l':=by exact rfl):Ev (.loop bY c) l us K:=by
 refine Oy ?_;unfold LS.gy at hr⊢;rw[EQ]at hr⊢;rw[Option.some.inj hr];exact h
theorem wv {bY:List Nat}{α:Type} (el:α->T) {m:α->Int->α×Int}{w:α->Nat} (hm:fI m w) {xs:List α}{k0:Int} (kM:0<=k0) (hw:k0+(wL w xs:Int)<=fv) {sz:Nat}
  (hS:(l.gy bY fun x=>x)=[(0,.own ⟨0,0,0⟩ (.l .y sz (xs.map el))),(1,.x (iT k0)),(5,.x (iT 0))])
  (step:∀(i:Nat) (E:List T) (x:α) (k:Int),i<E.length->0<=k->k+(w x:Int)<=fv->decide ((i:Int)<(E.set i (el x)).length)=true->
   (∀l' ed,(l'.gy bY fun x=>x)=[(0,.own ⟨0,0,0⟩ (.l .y sz (E.set i (el (m x k).1)))),(1,.x (iT (m x k).2)),(5,.x (iT (IntKind.i64.wrap (i+1))))]->pE bY c K .nx l' ed)->
   Ev c [(0,.own ⟨0,0,0⟩ (.l .y sz (E.set i (el x)))),(1,.x (iT k)),(5,.x (iT i))] [] (pE bY c K))
  (last:∀(k:Int) (E:List T),decide ((xs.length:Int)<E.length)=false->k=(bd m xs k0).2->E=(bd m xs k0).1.map el->Ev c [(0,.own ⟨0,0,0⟩ (.l .y sz E)),(1,.x (iT k)),(5,.x (iT xs.length))] [] (pE bY c K)):Ev (.loop bY c) l us K:=by
 have hl:=PV w xs;unfold fv at hw;refine jS (fun i (_:Unit)=>[(0,.own ⟨0,0,0⟩ (.l .y sz ((nJ m xs k0 i).map el))),(1,.x (iT (bd m (xs.take i) k0).2)),(5,.x (iT i))]) (fun _ _=>True) xs.length () trivial ?_ ?_
 ·rw[hS];rfl
 intro i _ hi _ ih;rcases js i xs.length with aF|fL
 ·have hx:=bF aF;generalize xs[i]=x at hx;have h1:(nJ m xs k0 i).map el=((nJ m xs k0 i).map el).set i (el x):=by
   rw[<-List.map_set,Zp5 (Zfm hx)]
  have h2:((nJ m xs k0 i).map el).set i (el (m x (bd m (xs.take i) k0).2).1)=(nJ m xs k0 (i+1)).map el:=by rw[<-List.map_set,Zfo hx]
  have h3:(m x (bd m (xs.take i) k0).2).2=(bd m (xs.take (i+1)) k0).2:=by rw[PO hx,I6]
  have h4:i<((nJ m xs k0 i).map el).length:=by rw[cL,W5];exact aF
  have h5:=ih () aF trivial;simp only[<-h2,<-h3,<-bU (show i<9223372036854775807 by omega)]at h5;show Ev c [(0,.own ⟨0,0,0⟩ (.l .y sz ((nJ m xs k0 i).map el))),(1,.x (iT (bd m (xs.take i) k0).2)),(5,.x (iT i))] [] _;rw[h1];obtain⟨h6,h7⟩:=W4 hm kM hw hx;exact step i _ x _ h4 h6 h7 (by rw[List.length_set];exact decide_eq_true (by omega)) h5
 ·have h1:i=xs.length:=by omega
  subst h1;refine last _ _ (by rw[cL,W5];simp) (by rw[eD]) ?_;rw[nJ,eD,List.drop_length,nW]
theorem wu {bY:List Nat}{α:Type} (el:α->T) {m:α->Int->α×Int}{w:α->Nat} (hm:fI m w) {xs:List α}{k0:Int} (kM:0<=k0) (hw:k0+(wL w xs:Int)<=fv) {sz:Nat}
  (hS:(l.gy bY fun x=>x)=[(0,.x (.l .n sz ((bd m xs k0).1.map el))),(1,.x (iT k0)),(5,.x (iT 0))])
  (step:∀(i:Nat) (E:List T) (x:α) (k:Int),E[((i:Nat):Int).toNat]?=some (el (m x k).1)->0<=k->k+(w x:Int)<=fv->decide ((i:Int)<E.length)=true->
   (∀l' ed,(l'.gy bY fun x=>x)=[(0,.x (.l .n sz E)),(1,.x (iT (m x k).2)),(5,.x (iT (IntKind.i64.wrap (i+1))))]->pE bY c K .nx l' ed)->
   Ev c [(0,.x (.l .n sz E)),(1,.x (iT k)),(5,.x (iT i))] [] (pE bY c K))
  (last:∀(k:Int) (E:List T),decide ((xs.length:Int)<E.length)=false->k=(bd m xs k0).2->Ev c [(0,.x (.l .n sz E)),(1,.x (iT k)),(5,.x (iT xs.length))] [] (pE bY c K)):Ev (.loop bY c) l us K:=by
 have hl:=PV w xs;unfold fv at hw;refine jS (fun i (_:Unit)=>[(0,.x (.l .n sz ((bd m xs k0).1.map el))),(1,.x (iT (bd m (xs.take i) k0).2)),(5,.x (iT i))]) (fun _ _=>True) xs.length () trivial ?_ ?_
 ·rw[hS];rfl
 intro i _ hi _ ih;rcases js i xs.length with aF|fL
 ·have hx:=bF aF;generalize xs[i]=x at hx;have h1:((bd m xs k0).1.map el)[((i:Nat):Int).toNat]?=some (el (m x (bd m (xs.take i) k0).2).1):=by
   rw[Int.toNat_natCast,iX,W2 m xs k0 i x hx];rfl
  have h3:(m x (bd m (xs.take i) k0).2).2=(bd m (xs.take (i+1)) k0).2:=by rw[PO hx,I6]
  have h5:=ih () aF trivial;simp only[<-h3,<-bU (show i<9223372036854775807 by omega)]at h5;obtain⟨h6,h7⟩:=W4 hm kM hw hx;exact step i _ x _ h1 h6 h7 (by rw[cL,zq];exact decide_eq_true (by omega)) h5
 ·have h1:i=xs.length:=by omega
  subst h1;exact last _ _ (by rw[cL,zq];simp) (by rw[eD])
end
def bj {α:Type} (_:α):Nat:=1
def iM (_:Int) (k:Int):Int×Int:=(k,sc k)
def bM (_:UInt8) (k:Int):UInt8×Int:=(UInt8.ofNat (IntKind.u8.wrap k).toNat,sc k)
theorem gm:fI iM bj:=fun x k r h h1=>cv h h1
theorem U9:fI bM bj:=fun x k r h h1=>cv h h1
theorem YW {α:Type}{f:α->T}{m:α->Int->α×Int}{l:List α}{k:Int}:sub ((bd m l k).1.map f) 0 (l.map f).length=(bd m l k).1.map f:=by
 unfold sub;rw[ax,p8 (by simp[zq])]
theorem ku {k:Int} (h:0<=k):decide (k<0)=false:=by simpa using h
theorem uk (k:Int):(k !=k)=false:=by simp
theorem uj (k:Bool):(k !=k)=false:=by simp
def b3 (k:Int):Bool:=decide (Int.tmod k 3=0)
def bm.bI (x:bm) (k:Int):bm×Int:=
 let k1:=sc k
 let k2:=sc k1
 let k3:=sc k2
 let k4:=sc k3
 let k5:=((bd iM) x.ca k4).2
 let k6:=((bd iM) x.bX k5).2
 let k7:=((bd (bd iM)) x.Rows k6).2
 (⟨k,k1,k2,k3,((bd iM) x.ca k4).1,((bd iM) x.bX k5).1,((bd (bd iM)) x.Rows k6).1⟩,k7)
def bm.w1 (x:bm):Nat:=1+1+1+1+(wL bj) x.ca+(wL bj) x.bX+(wL (wL bj)) x.Rows
theorem bm.cH:fI bm.bI bm.w1:=fun x k r h h1=>by
 unfold bm.w1 at h1;have a0:=cv (r:=1+1+1+(wL bj) x.ca+(wL bj) x.bX+(wL (wL bj)) x.Rows+r) h (by omega);have iH:=a0.2;have a1:=cv (r:=1+1+(wL bj) x.ca+(wL bj) x.bX+(wL (wL bj)) x.Rows+r) a0.1 (by omega);have lH:=a1.2;have a2:=cv (r:=1+(wL bj) x.ca+(wL bj) x.bX+(wL (wL bj)) x.Rows+r) a1.1 (by omega);have po:=a2.2;have a3:=cv (r:=(wL bj) x.ca+(wL bj) x.bX+(wL (wL bj)) x.Rows+r) a2.1 (by omega);have uV:=a3.2;have a4:=(cq gm) x.ca _ ((wL bj) x.bX+(wL (wL bj)) x.Rows+r) a3.1 (by omega);have xi:=a4.2;have a5:=(cq gm) x.bX _ ((wL (wL bj)) x.Rows+r) a4.1 (by omega);have CA:=a5.2;have a6:=(cq (cq gm)) x.Rows _ (r) a5.1 (by omega);have PY:=a6.2;exact a6
def bm.dZ (x:bm) (k:Int):bm×Int:=
 let k1:=((bd iM) x.ca k).2
 let k2:=((bd iM) x.bX k1).2
 let k3:=((bd (bd iM)) x.Rows k2).2
 (⟨x.Count,x.Sum,x.Min,x.Max,((bd iM) x.ca k).1,((bd iM) x.bX k1).1,((bd (bd iM)) x.Rows k2).1⟩,k3)
def bm.wS (x:bm):Nat:=(wL bj) x.ca+(wL bj) x.bX+(wL (wL bj)) x.Rows
theorem bm.jL:fI bm.dZ bm.wS:=fun x k r h h1=>by
 unfold bm.wS at h1;have a0:=(cq gm) x.ca _ ((wL bj) x.bX+(wL (wL bj)) x.Rows+r) h (by omega);have iH:=a0.2;have a1:=(cq gm) x.bX _ ((wL (wL bj)) x.Rows+r) a0.1 (by omega);have lH:=a1.2;have a2:=(cq (cq gm)) x.Rows _ (r) a1.1 (by omega);have po:=a2.2;exact a2
def af.bI (x:af) (k:Int):af×Int:=
 let k1:=sc k
 let k2:=sc k1
 (⟨k,k1⟩,k2)
def af.w1 (x:af):Nat:=1+1
theorem af.cH:fI af.bI af.w1:=fun x k r h h1=>by
 unfold af.w1 at h1;have a0:=cv (r:=1+r) h (by omega);have iH:=a0.2;have a1:=cv (r:=r) a0.1 (by omega);have lH:=a1.2;exact a1
def af.dZ (x:af) (k:Int):af×Int:=
 (⟨x.Lo,x.Hi⟩,k)
def af.wS (x:af):Nat:=0
theorem af.jL:fI af.dZ af.wS:=fun x k r h h1=>by
 unfold af.wS at h1;exact⟨h,by show k+(r:Int)<=fv;omega⟩
def bT.bI (x:bT) (k:Int):bT×Int:=
 let k1:=sc k
 let k2:=sc k1
 let k3:=sc k2
 let k4:=sc k3
 let k5:=(bm.bI x.aN k4).2
 (⟨k,k1,k2,k3,(bm.bI x.aN k4).1⟩,k5)
def bT.w1 (x:bT):Nat:=1+1+1+1+bm.w1 x.aN
theorem bT.cH:fI bT.bI bT.w1:=fun x k r h h1=>by
 unfold bT.w1 at h1;have a0:=cv (r:=1+1+1+bm.w1 x.aN+r) h (by omega);have iH:=a0.2;have a1:=cv (r:=1+1+bm.w1 x.aN+r) a0.1 (by omega);have lH:=a1.2;have a2:=cv (r:=1+bm.w1 x.aN+r) a1.1 (by omega);have po:=a2.2;have a3:=cv (r:=bm.w1 x.aN+r) a2.1 (by omega);have uV:=a3.2;have a4:=bm.cH x.aN _ (r) a3.1 (by omega);have xi:=a4.2;exact a4
def bT.dZ (x:bT) (k:Int):bT×Int:=
 let k1:=(bm.dZ x.aN k).2
 (⟨x.Seq,x.Hq,x.Key,x.eo,(bm.dZ x.aN k).1⟩,k1)
def bT.wS (x:bT):Nat:=bm.wS x.aN
theorem bT.jL:fI bT.dZ bT.wS:=fun x k r h h1=>by
 unfold bT.wS at h1;have a0:=bm.jL x.aN _ (r) h (by omega);have iH:=a0.2;exact a0
def aa.bI (x:aa) (k:Int):aa×Int:=
 let k1:=sc k
 let k2:=sc k1
 let k3:=((bd af.bI) x.aH k2).2
 let k4:=(bm.bI x.aN k3).2
 (⟨k,k1,((bd af.bI) x.aH k2).1,(bm.bI x.aN k3).1⟩,k4)
def aa.w1 (x:aa):Nat:=1+1+(wL af.w1) x.aH+bm.w1 x.aN
theorem aa.cH:fI aa.bI aa.w1:=fun x k r h h1=>by
 unfold aa.w1 at h1;have a0:=cv (r:=1+(wL af.w1) x.aH+bm.w1 x.aN+r) h (by omega);have iH:=a0.2;have a1:=cv (r:=(wL af.w1) x.aH+bm.w1 x.aN+r) a0.1 (by omega);have lH:=a1.2;have a2:=(cq af.cH) x.aH _ (bm.w1 x.aN+r) a1.1 (by omega);have po:=a2.2;have a3:=bm.cH x.aN _ (r) a2.1 (by omega);have uV:=a3.2;exact a3
def aa.dZ (x:aa) (k:Int):aa×Int:=
 let k1:=((bd af.bI) x.aH k).2
 let k2:=(bm.dZ x.aN k1).2
 (⟨x.Key,x.eo,((bd af.bI) x.aH k).1,(bm.dZ x.aN k1).1⟩,k2)
def aa.wS (x:aa):Nat:=(wL af.w1) x.aH+bm.wS x.aN
theorem aa.jL:fI aa.dZ aa.wS:=fun x k r h h1=>by
 unfold aa.wS at h1;have a0:=(cq af.cH) x.aH _ (bm.wS x.aN+r) h (by omega);have iH:=a0.2;have a1:=bm.jL x.aN _ (r) a0.1 (by omega);have lH:=a1.2;exact a1
def cZ.bI (x:cZ) (k:Int):cZ×Int:=
 let k1:=sc k
 let k2:=sc k1
 let k3:=sc k2
 let k4:=sc k3
 let k5:=((bd af.bI) x.bK k4).2
 let k6:=(bT.bI x.Item k5).2
 (⟨k,k1,k2,k3,((bd af.bI) x.bK k4).1,(bT.bI x.Item k5).1⟩,k6)
def cZ.w1 (x:cZ):Nat:=1+1+1+1+(wL af.w1) x.bK+bT.w1 x.Item
theorem cZ.cH:fI cZ.bI cZ.w1:=fun x k r h h1=>by
 unfold cZ.w1 at h1;have a0:=cv (r:=1+1+1+(wL af.w1) x.bK+bT.w1 x.Item+r) h (by omega);have iH:=a0.2;have a1:=cv (r:=1+1+(wL af.w1) x.bK+bT.w1 x.Item+r) a0.1 (by omega);have lH:=a1.2;have a2:=cv (r:=1+(wL af.w1) x.bK+bT.w1 x.Item+r) a1.1 (by omega);have po:=a2.2;have a3:=cv (r:=(wL af.w1) x.bK+bT.w1 x.Item+r) a2.1 (by omega);have uV:=a3.2;have a4:=(cq af.cH) x.bK _ (bT.w1 x.Item+r) a3.1 (by omega);have xi:=a4.2;have a5:=bT.cH x.Item _ (r) a4.1 (by omega);have CA:=a5.2;exact a5
def cZ.dZ (x:cZ) (k:Int):cZ×Int:=
 let k1:=((bd af.bI) x.bK k).2
 let k2:=(bT.dZ x.Item k1).2
 (⟨x.Kind,x.Uz,x.o6,x.jO,((bd af.bI) x.bK k).1,(bT.dZ x.Item k1).1⟩,k2)
def cZ.wS (x:cZ):Nat:=(wL af.w1) x.bK+bT.wS x.Item
theorem cZ.jL:fI cZ.dZ cZ.wS:=fun x k r h h1=>by
 unfold cZ.wS at h1;have a0:=(cq af.cH) x.bK _ (bT.wS x.Item+r) h (by omega);have iH:=a0.2;have a1:=bT.jL x.Item _ (r) a0.1 (by omega);have lH:=a1.2;exact a1
def cr.bI (x:cr) (k:Int):cr×Int:=
 let k1:=sc k
 let k2:=sc k1
 let k3:=sc k2
 let k4:=sc k3
 let k5:=((bd bT.bI) x.lA k4).2
 let k6:=((bd af.bI) x.bK k5).2
 let k7:=sc k6
 (⟨k,k1,b3 k2,k3,((bd bT.bI) x.lA k4).1,((bd af.bI) x.bK k5).1,k6⟩,k7)
def cr.w1 (x:cr):Nat:=1+1+1+1+(wL bT.w1) x.lA+(wL af.w1) x.bK+1
theorem cr.cH:fI cr.bI cr.w1:=fun x k r h h1=>by
 unfold cr.w1 at h1;have a0:=cv (r:=1+1+1+(wL bT.w1) x.lA+(wL af.w1) x.bK+1+r) h (by omega);have iH:=a0.2;have a1:=cv (r:=1+1+(wL bT.w1) x.lA+(wL af.w1) x.bK+1+r) a0.1 (by omega);have lH:=a1.2;have a2:=cv (r:=1+(wL bT.w1) x.lA+(wL af.w1) x.bK+1+r) a1.1 (by omega);have po:=a2.2;have a3:=cv (r:=(wL bT.w1) x.lA+(wL af.w1) x.bK+1+r) a2.1 (by omega);have uV:=a3.2;have a4:=(cq bT.cH) x.lA _ ((wL af.w1) x.bK+1+r) a3.1 (by omega);have xi:=a4.2;have a5:=(cq af.cH) x.bK _ (1+r) a4.1 (by omega);have CA:=a5.2;have a6:=cv (r:=r) a5.1 (by omega);have PY:=a6.2;exact a6
def cr.dZ (x:cr) (k:Int):cr×Int:=
 let k1:=((bd bT.bI) x.lA k).2
 let k2:=((bd af.bI) x.bK k1).2
 (⟨x.Id,x.o6,x.Live,x.jO,((bd bT.bI) x.lA k).1,((bd af.bI) x.bK k1).1,x.Next⟩,k2)
def cr.wS (x:cr):Nat:=(wL bT.w1) x.lA+(wL af.w1) x.bK
theorem cr.jL:fI cr.dZ cr.wS:=fun x k r h h1=>by
 unfold cr.wS at h1;have a0:=(cq bT.cH) x.lA _ ((wL af.w1) x.bK+r) h (by omega);have iH:=a0.2;have a1:=(cq af.cH) x.bK _ (r) a0.1 (by omega);have lH:=a1.2;exact a1
def aD.bI (x:aD) (k:Int):aD×Int:=
 let k1:=sc k
 let k2:=sc k1
 let k3:=((bd af.bI) x.bK k2).2
 let k4:=sc k3
 let k5:=sc k4
 (⟨k,k1,((bd af.bI) x.bK k2).1,k3,k4⟩,k5)
def aD.w1 (x:aD):Nat:=1+1+(wL af.w1) x.bK+1+1
theorem aD.cH:fI aD.bI aD.w1:=fun x k r h h1=>by
 unfold aD.w1 at h1;have a0:=cv (r:=1+(wL af.w1) x.bK+1+1+r) h (by omega);have iH:=a0.2;have a1:=cv (r:=(wL af.w1) x.bK+1+1+r) a0.1 (by omega);have lH:=a1.2;have a2:=(cq af.cH) x.bK _ (1+1+r) a1.1 (by omega);have po:=a2.2;have a3:=cv (r:=1+r) a2.1 (by omega);have uV:=a3.2;have a4:=cv (r:=r) a3.1 (by omega);have xi:=a4.2;exact a4
def aD.dZ (x:aD) (k:Int):aD×Int:=
 let k1:=((bd af.bI) x.bK k).2
 (⟨x.o6,x.jO,((bd af.bI) x.bK k).1,x.dM,x.yK⟩,k1)
def aD.wS (x:aD):Nat:=(wL af.w1) x.bK
theorem aD.jL:fI aD.dZ aD.wS:=fun x k r h h1=>by
 unfold aD.wS at h1;have a0:=(cq af.cH) x.bK _ (r) h (by omega);have iH:=a0.2;exact a0
def au.bI (x:au) (k:Int):au×Int:=
 let k1:=((bd aa.bI) x.bV k).2
 (⟨((bd aa.bI) x.bV k).1⟩,k1)
def au.w1 (x:au):Nat:=(wL aa.w1) x.bV
theorem au.cH:fI au.bI au.w1:=fun x k r h h1=>by
 unfold au.w1 at h1;have a0:=(cq aa.cH) x.bV _ (r) h (by omega);have iH:=a0.2;exact a0
def au.dZ (x:au) (k:Int):au×Int:=
 let k1:=((bd aa.bI) x.bV k).2
 (⟨((bd aa.bI) x.bV k).1⟩,k1)
def au.wS (x:au):Nat:=(wL aa.w1) x.bV
theorem au.jL:fI au.dZ au.wS:=fun x k r h h1=>by
 unfold au.wS at h1;have a0:=(cq aa.cH) x.bV _ (r) h (by omega);have iH:=a0.2;exact a0
def aK.bI (x:aK) (k:Int):aK×Int:=
 let k1:=sc k
 let k2:=sc k1
 let k3:=((bd iM) x.Left k2).2
 (⟨k,b3 k1,((bd iM) x.Left k2).1⟩,k3)
def aK.w1 (x:aK):Nat:=1+1+(wL bj) x.Left
theorem aK.cH:fI aK.bI aK.w1:=fun x k r h h1=>by
 unfold aK.w1 at h1;have a0:=cv (r:=1+(wL bj) x.Left+r) h (by omega);have iH:=a0.2;have a1:=cv (r:=(wL bj) x.Left+r) a0.1 (by omega);have lH:=a1.2;have a2:=(cq gm) x.Left _ (r) a1.1 (by omega);have po:=a2.2;exact a2
def aK.dZ (x:aK) (k:Int):aK×Int:=
 let k1:=((bd iM) x.Left k).2
 (⟨x.At,x.nS,((bd iM) x.Left k).1⟩,k1)
def aK.wS (x:aK):Nat:=(wL bj) x.Left
theorem aK.jL:fI aK.dZ aK.wS:=fun x k r h h1=>by
 unfold aK.wS at h1;have a0:=(cq gm) x.Left _ (r) h (by omega);have iH:=a0.2;exact a0
def bR.bI (x:bR) (k:Int):bR×Int:=
 let k1:=sc k
 let k2:=sc k1
 let k3:=sc k2
 let k4:=((bd iM) x.dX k3).2
 let k5:=sc k4
 let k6:=sc k5
 let k7:=sc k6
 let k8:=sc k7
 (⟨k,k1,k2,((bd iM) x.dX k3).1,k4,k5,k6,k7⟩,k8)
def bR.w1 (x:bR):Nat:=1+1+1+(wL bj) x.dX+1+1+1+1
theorem bR.cH:fI bR.bI bR.w1:=fun x k r h h1=>by
 unfold bR.w1 at h1;have a0:=cv (r:=1+1+(wL bj) x.dX+1+1+1+1+r) h (by omega);have iH:=a0.2;have a1:=cv (r:=1+(wL bj) x.dX+1+1+1+1+r) a0.1 (by omega);have lH:=a1.2;have a2:=cv (r:=(wL bj) x.dX+1+1+1+1+r) a1.1 (by omega);have po:=a2.2;have a3:=(cq gm) x.dX _ (1+1+1+1+r) a2.1 (by omega);have uV:=a3.2;have a4:=cv (r:=1+1+1+r) a3.1 (by omega);have xi:=a4.2;have a5:=cv (r:=1+1+r) a4.1 (by omega);have CA:=a5.2;have a6:=cv (r:=1+r) a5.1 (by omega);have PY:=a6.2;have a7:=cv (r:=r) a6.1 (by omega);have a7b:=a7.2;exact a7
def bR.dZ (x:bR) (k:Int):bR×Int:=
 let k1:=((bd iM) x.dX k).2
 (⟨x.fm,x.kx,x.iV,((bd iM) x.dX k).1,x.mK,x.mL,x.mJ,x.Still⟩,k1)
def bR.wS (x:bR):Nat:=(wL bj) x.dX
theorem bR.jL:fI bR.dZ bR.wS:=fun x k r h h1=>by
 unfold bR.wS at h1;have a0:=(cq gm) x.dX _ (r) h (by omega);have iH:=a0.2;exact a0
def aC.bI (x:aC) (k:Int):aC×Int:=
 let k1:=sc k
 let k2:=(aa.bI x.bg k1).2
 (⟨k,(aa.bI x.bg k1).1⟩,k2)
def aC.w1 (x:aC):Nat:=1+aa.w1 x.bg
theorem aC.cH:fI aC.bI aC.w1:=fun x k r h h1=>by
 unfold aC.w1 at h1;have a0:=cv (r:=aa.w1 x.bg+r) h (by omega);have iH:=a0.2;have a1:=aa.cH x.bg _ (r) a0.1 (by omega);have lH:=a1.2;exact a1
def aC.dZ (x:aC) (k:Int):aC×Int:=
 let k1:=(aa.dZ x.bg k).2
 (⟨x.BI,(aa.dZ x.bg k).1⟩,k1)
def aC.wS (x:aC):Nat:=aa.wS x.bg
theorem aC.jL:fI aC.dZ aC.wS:=fun x k r h h1=>by
 unfold aC.wS at h1;have a0:=aa.jL x.bg _ (r) h (by omega);have iH:=a0.2;exact a0
def aA.bI (x:aA) (k:Int):aA×Int:=
 let k1:=(bR.bI x.aT k).2
 let k2:=sc k1
 let k3:=sc k2
 let k4:=((bd aD.bI) x.bp k3).2
 let k5:=((bd (bd au.bI)) x.Rows k4).2
 let k6:=((bd aK.bI) x.cI k5).2
 let k7:=sc k6
 let k8:=((bd aa.bI) x.aJ k7).2
 let k9:=((bd aC.bI) x.bz k8).2
 (⟨(bR.bI x.aT k).1,k1,b3 k2,((bd aD.bI) x.bp k3).1,((bd (bd au.bI)) x.Rows k4).1,((bd aK.bI) x.cI k5).1,k6,((bd aa.bI) x.aJ k7).1,((bd aC.bI) x.bz k8).1⟩,k9)
def aA.w1 (x:aA):Nat:=bR.w1 x.aT+1+1+(wL aD.w1) x.bp+(wL (wL au.w1)) x.Rows+(wL aK.w1) x.cI+1+(wL aa.w1) x.aJ+(wL aC.w1) x.bz
theorem aA.cH:fI aA.bI aA.w1:=fun x k r h h1=>by
 unfold aA.w1 at h1;have a0:=bR.cH x.aT _ (1+1+(wL aD.w1) x.bp+(wL (wL au.w1)) x.Rows+(wL aK.w1) x.cI+1+(wL aa.w1) x.aJ+(wL aC.w1) x.bz+r) h (by omega);have iH:=a0.2;have a1:=cv (r:=1+(wL aD.w1) x.bp+(wL (wL au.w1)) x.Rows+(wL aK.w1) x.cI+1+(wL aa.w1) x.aJ+(wL aC.w1) x.bz+r) a0.1 (by omega);have lH:=a1.2;have a2:=cv (r:=(wL aD.w1) x.bp+(wL (wL au.w1)) x.Rows+(wL aK.w1) x.cI+1+(wL aa.w1) x.aJ+(wL aC.w1) x.bz+r) a1.1 (by omega);have po:=a2.2;have a3:=(cq aD.cH) x.bp _ ((wL (wL au.w1)) x.Rows+(wL aK.w1) x.cI+1+(wL aa.w1) x.aJ+(wL aC.w1) x.bz+r) a2.1 (by omega);have uV:=a3.2;have a4:=(cq (cq au.cH)) x.Rows _ ((wL aK.w1) x.cI+1+(wL aa.w1) x.aJ+(wL aC.w1) x.bz+r) a3.1 (by omega);have xi:=a4.2;have a5:=(cq aK.cH) x.cI _ (1+(wL aa.w1) x.aJ+(wL aC.w1) x.bz+r) a4.1 (by omega);have CA:=a5.2;have a6:=cv (r:=(wL aa.w1) x.aJ+(wL aC.w1) x.bz+r) a5.1 (by omega);have PY:=a6.2;have a7:=(cq aa.cH) x.aJ _ ((wL aC.w1) x.bz+r) a6.1 (by omega);have a7b:=a7.2;have a8:=(cq aC.cH) x.bz _ (r) a7.1 (by omega);have a8b:=a8.2;exact a8
def aA.dZ (x:aA) (k:Int):aA×Int:=
 let k1:=(bR.dZ x.aT k).2
 let k2:=((bd aD.bI) x.bp k1).2
 let k3:=((bd (bd au.bI)) x.Rows k2).2
 let k4:=((bd aK.bI) x.cI k3).2
 let k5:=((bd aa.bI) x.aJ k4).2
 let k6:=((bd aC.bI) x.bz k5).2
 (⟨(bR.dZ x.aT k).1,x.kR,x.gT,((bd aD.bI) x.bp k1).1,((bd (bd au.bI)) x.Rows k2).1,((bd aK.bI) x.cI k3).1,x.fT,((bd aa.bI) x.aJ k4).1,((bd aC.bI) x.bz k5).1⟩,k6)
def aA.wS (x:aA):Nat:=bR.wS x.aT+(wL aD.w1) x.bp+(wL (wL au.w1)) x.Rows+(wL aK.w1) x.cI+(wL aa.w1) x.aJ+(wL aC.w1) x.bz
theorem aA.jL:fI aA.dZ aA.wS:=fun x k r h h1=>by
 unfold aA.wS at h1;have a0:=bR.jL x.aT _ ((wL aD.w1) x.bp+(wL (wL au.w1)) x.Rows+(wL aK.w1) x.cI+(wL aa.w1) x.aJ+(wL aC.w1) x.bz+r) h (by omega);have iH:=a0.2;have a1:=(cq aD.cH) x.bp _ ((wL (wL au.w1)) x.Rows+(wL aK.w1) x.cI+(wL aa.w1) x.aJ+(wL aC.w1) x.bz+r) a0.1 (by omega);have lH:=a1.2;have a2:=(cq (cq au.cH)) x.Rows _ ((wL aK.w1) x.cI+(wL aa.w1) x.aJ+(wL aC.w1) x.bz+r) a1.1 (by omega);have po:=a2.2;have a3:=(cq aK.cH) x.cI _ ((wL aa.w1) x.aJ+(wL aC.w1) x.bz+r) a2.1 (by omega);have uV:=a3.2;have a4:=(cq aa.cH) x.aJ _ ((wL aC.w1) x.bz+r) a3.1 (by omega);have xi:=a4.2;have a5:=(cq aC.cH) x.bz _ (r) a4.1 (by omega);have CA:=a5.2;exact a5
def cu.bI (x:cu) (k:Int):cu×Int:=
 let k1:=sc k
 let k2:=((bd bM) x.Bytes k1).2
 let k3:=sc k2
 (⟨k,((bd bM) x.Bytes k1).1,b3 k2⟩,k3)
def cu.w1 (x:cu):Nat:=1+(wL bj) x.Bytes+1
theorem cu.cH:fI cu.bI cu.w1:=fun x k r h h1=>by
 unfold cu.w1 at h1;have a0:=cv (r:=(wL bj) x.Bytes+1+r) h (by omega);have iH:=a0.2;have a1:=(cq U9) x.Bytes _ (1+r) a0.1 (by omega);have lH:=a1.2;have a2:=cv (r:=r) a1.1 (by omega);have po:=a2.2;exact a2
def cu.dZ (x:cu) (k:Int):cu×Int:=
 let k1:=((bd bM) x.Bytes k).2
 (⟨x.To,((bd bM) x.Bytes k).1,x.UT⟩,k1)
def cu.wS (x:cu):Nat:=(wL bj) x.Bytes
theorem cu.jL:fI cu.dZ cu.wS:=fun x k r h h1=>by
 unfold cu.wS at h1;have a0:=(cq U9) x.Bytes _ (r) h (by omega);have iH:=a0.2;exact a0
def da.bI (x:da) (k:Int):da×Int:=
 let k1:=((bd cr.bI) x.rO k).2
 let k2:=(aA.bI x.iE k1).2
 let k3:=((bd cu.bI) x.Net k2).2
 (⟨((bd cr.bI) x.rO k).1,(aA.bI x.iE k1).1,((bd cu.bI) x.Net k2).1⟩,k3)
def da.w1 (x:da):Nat:=(wL cr.w1) x.rO+aA.w1 x.iE+(wL cu.w1) x.Net
theorem da.cH:fI da.bI da.w1:=fun x k r h h1=>by
 unfold da.w1 at h1;have a0:=(cq cr.cH) x.rO _ (aA.w1 x.iE+(wL cu.w1) x.Net+r) h (by omega);have iH:=a0.2;have a1:=aA.cH x.iE _ ((wL cu.w1) x.Net+r) a0.1 (by omega);have lH:=a1.2;have a2:=(cq cu.cH) x.Net _ (r) a1.1 (by omega);have po:=a2.2;exact a2
def da.dZ (x:da) (k:Int):da×Int:=
 let k1:=((bd cr.bI) x.rO k).2
 let k2:=(aA.dZ x.iE k1).2
 let k3:=((bd cu.bI) x.Net k2).2
 (⟨((bd cr.bI) x.rO k).1,(aA.dZ x.iE k1).1,((bd cu.bI) x.Net k2).1⟩,k3)
def da.wS (x:da):Nat:=(wL cr.w1) x.rO+aA.wS x.iE+(wL cu.w1) x.Net
theorem da.jL:fI da.dZ da.wS:=fun x k r h h1=>by
 unfold da.wS at h1;have a0:=(cq cr.cH) x.rO _ (aA.wS x.iE+(wL cu.w1) x.Net+r) h (by omega);have iH:=a0.2;have a1:=aA.jL x.iE _ ((wL cu.w1) x.Net+r) a0.1 (by omega);have lH:=a1.2;have a2:=(cq cu.cH) x.Net _ (r) a1.1 (by omega);have po:=a2.2;exact a2
def cY.bI (x:cY) (k:Int):cY×Int:=
 let k1:=sc k
 let k2:=sc k1
 let k3:=sc k2
 let k4:=sc k3
 let k5:=sc k4
 let k6:=((bd iM) x.bV k5).2
 (⟨k,k1,k2,k3,k4,((bd iM) x.bV k5).1⟩,k6)
def cY.w1 (x:cY):Nat:=1+1+1+1+1+(wL bj) x.bV
theorem cY.cH:fI cY.bI cY.w1:=fun x k r h h1=>by
 unfold cY.w1 at h1;have a0:=cv (r:=1+1+1+1+(wL bj) x.bV+r) h (by omega);have iH:=a0.2;have a1:=cv (r:=1+1+1+(wL bj) x.bV+r) a0.1 (by omega);have lH:=a1.2;have a2:=cv (r:=1+1+(wL bj) x.bV+r) a1.1 (by omega);have po:=a2.2;have a3:=cv (r:=1+(wL bj) x.bV+r) a2.1 (by omega);have uV:=a3.2;have a4:=cv (r:=(wL bj) x.bV+r) a3.1 (by omega);have xi:=a4.2;have a5:=(cq gm) x.bV _ (r) a4.1 (by omega);have CA:=a5.2;exact a5
def cY.dZ (x:cY) (k:Int):cY×Int:=
 let k1:=((bd iM) x.bV k).2
 (⟨x.Kind,x.A,x.B,x.C,x.D,((bd iM) x.bV k).1⟩,k1)
def cY.wS (x:cY):Nat:=(wL bj) x.bV
theorem cY.jL:fI cY.dZ cY.wS:=fun x k r h h1=>by
 unfold cY.wS at h1;have a0:=(cq gm) x.bV _ (r) h (by omega);have iH:=a0.2;exact a0
def eI (n:Nat) (p:Nat->Bool):Bool:=(List.range n).all p
theorem Zo {n:Nat}{p:Nat->Bool} (h:∀j,j<n->p j=true):eI n p=true:=by
 unfold eI;rw[eJ];intro j hj;exact h j (mN.1 hj)
theorem Zn {n i:Nat}{p:Nat->Bool} (hi:i<n) (h:p i=false):eI n p=false:=by
 rw[yR];intro h2;have:=eJ.1 h2 i (mN.2 hi);rw[h]at this;cases this
theorem Zm {n:Nat}{p:Nat->Bool}:eI n p=true<->∀j,j<n->p j=true:=by
 constructor
 ·intro h j hj;exact eJ.1 h j (mN.2 hj)
 ·exact Zo
theorem mP {p:Nat->Bool}{i:Nat} (h:∀j,j<i->p j=true) (hi:p i=true):∀j,j<i+1->p j=true:=fun j hj=>by
 rcases Nat.lt_succ_iff_lt_or_eq.1 hj with h1|h1
 ·exact h j h1
 ·exact h1▸hi
theorem Zl {n:Nat}{p q:Nat->Bool} (h:∀j,j<n->p j=q j):eI n p=eI n q:=by
 rw[ma,Zm,Zm];exact⟨fun h2 j hj=>h j hj▸h2 j hj,fun h2 j hj=>(h j hj).symm▸h2 j hj⟩
theorem nq {α:Type}{l:List α}{p:α->Bool}{i:Nat}{x:α} (h:(l.take i).all p=true) (hx:l[i]?=some x) (hp:p x=true):(l.take (i+1)).all p=true:=by
 rw[List.take_succ_eq_append_getElem (bt.1 hx).1,List.all_append,h];obtain⟨hl,rfl⟩:=bt.1 hx;simp[hp]
theorem np {α:Type}{l:List α}{p:α->Bool}{i:Nat}{x:α} (hx:l[i]?=some x) (hp:p x=false):l.all p=false:=by
 rw[yR];intro h;have:=eJ.1 h x (cS hx);rw[hp]at this;cases this
theorem nr {α:Type}{l:List α}{p:α->Bool} (h:(l.take l.length).all p=true):l.all p=true:=by
 rwa [eD]at h
def ie (l:List Int) (lo hi:Int):Bool:=decide (l.length=3)&&l.all (bq · lo hi)
def bR.ok (c:bR):Bool:=bq c.fm 1 8&&bq c.kx 1 60&&bq c.iV 1 10&&ie c.dX 1 4&&bq c.mK 1 100&&bq c.mL 1 20&&bq c.mJ 0 20&&bq c.Still 1 50
def nI (a s:Int):Int:=if bq a 0 2&&bq s 1 60 then 100*a+s else-1
def nL (s:List af) (i:Nat):Bool:=match s[i]? with
 |none=>false
 |some x=>bq x.Lo 0 9999&&bq x.Hi x.Lo 9999&&(match i with
  |0=>true
  |k+1=>match s[k]? with
   |some p=> !decide (x.Lo<=p.Hi+1)
   |none=>false)
def fB (s:List af):Bool:=eI s.length (nL s)
def uo (s:List af) (n:Int):Bool:=s.any fun x=>bq n x.Lo x.Hi
def l8 (x y:af):Bool:= !(decide (x.Lo<=y.Hi)&&decide (y.Lo<=x.Hi))
def jq (a b:List af):Bool:=fB a&&fB b&&a.all fun x=>b.all fun y=>l8 x y
def gD (s:List af):Int:=(s.map fun x=>x.Hi-x.Lo+1).sum
def gi (s:List af):Int:=if fB s then gD s else 0
def mc (s:List af) (lo hi:Int):Bool:=fB s&&s.all fun x=>decide (lo<=x.Lo)&&decide (x.Hi<=hi)
structure dv (s:List af):Prop where
 lo:∀x∈s,0<=x.Lo/\x.Lo<=x.Hi/\x.Hi<=9999
 ord:s.Pairwise fun x y=>x.Hi+1<y.Lo
theorem tD (s:List af):fB s=true<->dv s:=by
 unfold fB;rw[Zm];constructor
 ·intro h;have hb:∀(i:Nat) x,s[i]?=some x->0<=x.Lo/\x.Lo<=x.Hi/\x.Hi<=9999:=fun i x hx=>by
   have:=h i (bt.1 hx).1;simp only[nL,hx,bq,Y8,decide_eq_true_eq]at this;omega
  have abx:∀(i:Nat) x y,s[i]?=some x->s[i+1]?=some y->x.Hi+1<y.Lo:=fun i x y hx hy=>by
   have:=h (i+1) (bt.1 hy).1;simp only[nL,hx,hy,bq,Y8,decide_eq_true_eq,lC,decide_eq_false_iff_not]at this;omega
  refine⟨fun x hx=>?_,?_⟩
  ·obtain⟨i,hi⟩:=gZ.1 hx;exact hb i x hi
  ·rw[qR];intro i j hi hj lg;obtain⟨d,rfl⟩:∃d,j=i+1+d:=⟨j-i-1,by omega⟩
   induction d with
   |zero=>exact abx i _ _ (bF hi) (bF hj)
   |succ d ih=>
    have h1:=ih (by omega) (by omega);have h2:=abx (i+1+d) _ _ (bF (by omega)) (bF hj);have h3:=hb (i+1+d) _ (bF (by omega));omega
 ·intro h j hj;have hx:=bF hj;have h1:=h.lo _ (cS hx);simp only[nL,hx,bq,Y8,decide_eq_true_eq];refine⟨⟨⟨by omega,by omega⟩,by omega,by omega⟩,?_⟩;cases j with
  |zero=>rfl
  |succ k=>
   have hk:k<s.length:=by omega
   have h2:=qR.1 h.ord k (k+1) hk hj (by omega);simp only[bF hk,lC,decide_eq_false_iff_not];omega
def xT (l:List Int) (n:Nat) (qD:Int) (z:Bool):Bool:=decide (l.length=n)&&l.all fun x=>bq x 0 qD&& !(z&&x !=0)
def bm.ok (x:bm):Bool:=
 bq x.Count 0 1000000000&&bq x.Sum 0 1000000000&&bq x.Min 0 1000000&&bq x.Max 0 1000000&&decide (x.Min<=x.Max)&&decide (x.Rows.length=2)&&
 !(x.Count==0&&(x.Sum !=0||x.Max !=0))&&xT x.ca 8 1000000000 (x.Count==0)&&xT x.bX 8 17 (x.Count==0)&&x.Rows.all fun r=>xT r 4 1000000000 (x.Count==0)
def aa.ok (e:aa):Bool:=bq e.Key 0 4&&bq e.eo 0 20&&fB e.aH&&decide (e.aH≠[])&&e.aN.ok
def qZ (l:List aa) (i:Nat):Bool:=match l[i]? with
 |none=>false
 |some e=>e.ok&&(l.take i).all fun o=>jq e.aH o.aH
def kI (l:List aa):Bool:=eI l.length (qZ l)
def au.ok (r:au):Bool:=decide (r.bV.length<=24)&&kI r.bV
def eK (a b:aa):Bool:=decide (a.Key<b.Key)||(a.Key==b.Key&&decide (a.eo<b.eo))
def nR (l:List aC) (key atL:Int):Nat:=l.countP fun o=>o.bg.Key==key&&o.bg.eo==atL
def lZ (out:List af) (x:af):List af:=match out.getLast? with
 |some p=>if x.Lo<=p.Hi+1 then out.dropLast++[⟨p.Lo,max p.Hi x.Hi⟩] else out++[x]
 |none=>[x]
def mF (l:List af):List af:=(l7 (l.map fun x=>(x.Lo,x.Hi))).map fun p=>⟨p.1,p.2⟩
def pQ (l:List af):List af:=(mF l).foldl lZ []
def j6 (l:List aa):List af:=pQ (l.flatMap aa.aH)
structure kS where
 out:List af
 done:Bool
 x:af
def iS (p:kS) (y:af):kS:=
 if y.Hi+1<p.x.Lo then{p with out:=p.out++[y]}
 else if y.Lo>p.x.Hi+1 then(if p.done then{p with out:=p.out++[y]} else{p with out:=p.out++[p.x,y],done:=true})
 else{p with x:=⟨min p.x.Lo y.Lo,max p.x.Hi y.Hi⟩}
def gh (s:List af) (x:af):List af:=let p:=s.foldl iS ⟨[],false,x⟩;if p.done then p.out else p.out++[p.x]
def jA (a b:List af):List af:=b.foldl gh a
def aD.ok (s:aD) (dI:Int):Bool:=bq dI 1 8&&bq s.o6 0 1000&&bq s.jO 0 60&&mc s.bK 1 s.jO&&bq s.dM 0 (gi s.bK)&&decide (s.jO<=s.dM+dI)&&bq s.yK 0 1000000
def aK.ok (t:aK):Bool:=bq t.At 0 2&&ie t.Left 0 1000
def jK (ids:List af) (a:Int):Int:=(ids.map fun x=>max (min x.Hi (100*a+60)-max x.Lo (100*a+1)+1) 0).sum
def fR (h:aA):List aa:=(h.Rows.map fun rs=>(rs.map au.bV).flatten).flatten
def fx (h:aA):List aa:=h.aJ++h.bz.map aC.bg
theorem rV {α:Type}{f:α->T} (h:∀x,(f x).flat=true) (l:List α):mR (l.map f)=true:=by
 induction l with
 |nil=>rfl
 |cons x l ih=>simp[mR,h x,ih]
theorem Je {s:List af}{x:af} (hx:s[0]?=some x):nL s 0=(bq x.Lo 0 9999&&bq x.Hi x.Lo 9999):=by simp[nL,hx]
theorem Jd {s:List af}{k:Nat}{x p:af} (hx:s[k+1]?=some x) (hp:s[k]?=some p):nL s (k+1)=(bq x.Lo 0 9999&&bq x.Hi x.Lo 9999&& !decide (x.Lo<=p.Hi+1)):=by simp[nL,hx,hp]
theorem Xj {s:List af}{k:Nat}{p:af} (hp:s[k]?=some p) (h:nL s k=true):0<=p.Lo/\p.Lo<=p.Hi/\p.Hi<=9999:=by
 simp only[nL,hp,bq,Y8,decide_eq_true_eq]at h;omega
theorem JS {k:Nat} (h:k<=4194304):IntKind.i64.wrap (((k+1:Nat):Int)-1)=k:=by rw[dQ (by omega)];omega
theorem Cq {s:List af} (h:fB s=true) {x:af} (hx:x∈s):0<=x.Lo/\x.Lo<=x.Hi/\x.Hi<=9999:=((tD s).1 h).lo x hx
theorem uH {α:Type}{f:α->T}{l:List α} (hl:l.length<=4194304):([]:List T).length+(l.map f).length<cQ:=by simp[cQ];omega
theorem du {a b:Bool} (h:a=b):(⟨[.one (.b a)],[]⟩:Out)=⟨[.one (.b b)],[]⟩:=by rw[h]
theorem mC {a b:Int} (h:a=b):(⟨[.one (iT a)],[]⟩:Out)=⟨[.one (iT b)],[]⟩:=by rw[h]
theorem iN4 (n:Nat):decide ((n:Int)=4)=decide (n=4):=by rw[ma];simp;omega
theorem iN8 (n:Nat):decide ((n:Int)=8)=decide (n=8):=by rw[ma];simp;omega
theorem iN3 (n:Nat):decide ((n:Int)=3)=decide (n=3):=by rw[ma];simp;omega
theorem iN:(∀n:Nat,decide ((n:Int)=4)=decide (n=4))/\(∀n:Nat,decide ((n:Int)=8)=decide (n=8)):=⟨iN4,iN8⟩
theorem UW {α β:Type}{f:α->T}{g:β->T}{l:List α}{l2:List β} (hl:l.length+l2.length<=4194304):(l.map f).length+(l2.map g).length<cQ:=by simp[cQ];omega
theorem FO {α:Type}{f:α->T}{l:List α}{a b c d:T} (hl:l.length<=4194304):(l.map f).length+[a,b,c,d].length<cQ:=by simp[cQ];omega
theorem EJ {o:Ob}{sz:Nat}{l:List T}{i:Nat}{t:T} (h:l[i]?=some t):(T.l o sz l).aM [0+Int.toNat (i:Int)]=some t:=by
 simp[T.aM,T.bA,h]
theorem qV {α:Type}{f:α->T}{l:List α}{i:Nat} (h:i<l.length):(i:Int)<((l.map f).length:Nat):=by rw[cL];omega
theorem Zqy {l:List Int}{i:Nat}{x:Int} (h:l[i]?=some x):(l.take (i+1)).sum=(l.take i).sum+x:=by
 rw[mb,h];simp
theorem Eo {α β:Type}{f:α->List β}{l:List α}{i:Nat}{x:α} (h:l[i]?=some x):((l.take (i+1)).map f).flatten=((l.take i).map f).flatten++f x:=by
 rw[mb,h];simp
theorem En {α β:Type}{f:α->List β}{l:List α}{i:Nat}{x:α} (h:l[i]?=some x):((l.take i).map f).flatten.length+(f x).length<=(l.map f).flatten.length:=by
 have h2:l=l.take i++x::l.drop (i+1):=by
  obtain⟨hi,rfl⟩:=bt.1 h;rw[List.getElem_cons_drop,uG]
 have h3:=congrArg (fun l=>(l.map f).flatten.length) h2;simp only[kh,fc,List.flatten_append,pd,jR]at h3;omega
theorem IH {α β:Type}{f:α->List β}{g:α->Nat} (h:∀x,(f x).length<=g x) (l:List α):(l.map f).flatten.length<=aS g l:=by
 unfold aS
 induction l with
 |nil=>simp
 |cons x l ih=>have:=h x;simp only[fc,pd,jR,im,dH];omega
def nh (rs:List au):List aa:=(rs.map au.bV).flatten
theorem zx (h:aA):fR h=(h.Rows.map nh).flatten:=rfl
theorem Zmm (rs:List au):(nh rs).length<=aS au.al rs:=IH (fun r=>dA _ _) rs
theorem Yj (h:aA):(fR h).length<=aS (aS au.al) h.Rows:=IH Zmm h.Rows
theorem km {α β:Type}{f:α->β}{l:List α}{i:Nat}{x:α} (h:l[i]?=some x):(l.take (i+1)).map f=(l.take i).map f++[f x]:=by
 rw[mb,h];simp
theorem WL {ob:Ob}{sz:Nat}{α:Type}{f:α->T} (o:List α) (p:α) {k:Int} (hk:k=(o.length:Int)):(T.l ob sz ((o++[p]).map f)).aM [0+k.toNat]=some (f p):=by
 subst hk;simp[T.aM,T.bA]
theorem Zde {sz:Nat}{α:Type}{f:α->T} (o:List α) (p:α) {k:Int} (hk:k=(o.length:Int)):(T.l .y sz ((o++[p]).map f)).eO [0+k.toNat]=true:=by
 subst hk;simp[T.eO,Ob.own]
theorem Zdf {ob:Ob}{sz:Nat}{α:Type}{f:α->T} (o:List α) (p q:α) {k:Int}{x:T} (hk:k=(o.length:Int)) (hx:x=f q):(T.l ob sz ((o++[p]).map f)).put [0+k.toNat] x=T.l ob sz ((o++[q]).map f):=by
 subst hk hx;simp[T.put,T.bA,T.dP]
theorem B4 {α β:Type}{f:β->α->β}{b:β}{l:List α}{i:Nat}{x:α} (h:l[i]?=some x):(l.take (i+1)).foldl f b=f ((l.take i).foldl f b) x:=by
 rw[mb,h];simp
theorem Jp (x:af):lZ [] x=[x]:=rfl
theorem EN (o:List af) (p x:af):lZ (o++[p]) x=if x.Lo<=p.Hi+1 then o++[⟨p.Lo,max p.Hi x.Hi⟩] else o++[p]++[x]:=by
 simp[lZ]
def dz (x:af):Prop:=-1<=x.Hi/\x.Hi<=9999
theorem Ziv {o:List af}{x:af} (ho:∀y∈o,dz y) (hx:dz x):∀y∈lZ o x,dz y:=by
 rcases List.eq_nil_or_concat o with rfl|⟨o,p,rfl⟩
 ·simpa[Jp]using hx
 ·rw[List.concat_eq_append]at ho⊢;rw[EN];have hp:=ho p (by simp);split
  ·intro y hy;rcases kF.1 hy with h|h
   ·exact ho y (by simp[h])
   ·simp only[rU]at h;subst h;unfold dz at*;simp only;omega
  ·intro y hy;rcases kF.1 hy with h|h
   ·exact ho y h
   ·simp only[rU]at h;subst h;exact hx
theorem XK (o:List af) (x:af):(lZ o x).length<=o.length+1:=by
 rcases List.eq_nil_or_concat o with rfl|⟨o,p,rfl⟩
 ·simp[Jp]
 ·rw[List.concat_eq_append,EN];split<;>simp
theorem IL (l:List aa):bO (l.map (aa.el .n))=l.map (aa.el .n):=by rw[lD,aa.ef]
section
variable {id i:Nat}{o:aY}{d:Option Nat}{op:jr}{os:List aY}{fs cz:Fs}{l l1 l2 l3:LS}{K:LS->Prop}{s:Nat}{b want:Bool}{kl:List Nat}
theorem Z7t {r c n sz:Nat}{k kk:Wr.K}{es:List T} (h1:(fs.hd (pk r)).ev l=some (some kk,l)) (h2:kk.ok k 1=true) (h3:(fs.hd (gC r c)).ev l=some (some (.l .y sz es),l)) (hn:n=es.length) (h4:(fs.hd (sC r c .u)).ev l=some ((),l1)):
  (fs.hd (zQ true r k c n)).ev l=some (.l .y sz es,l1):=by
 match fs,h1,h3,h4 with
 |none,h1,h3,h4=>
  simp only[Fs.hd]at h1 h3 h4⊢;simp only[zQ,Bind.bind,ch,h1,h2,h3,if_pos hn,h4];rfl
 |some ((r',w')::fs),h1,h3,h4=>
  simp only[Fs.hd]at h1 h3 h4⊢;simp only[zQ,Bind.bind,fj,ch,h1,h2,h3,if_pos hn,h4];rfl
 |some [],h1,_,_=>cases h1
theorem zVF {sz:Nat}{agg:Bool}{zero:List T}{tk:Bool}{dd x:Nat}{y:aL}{r:Nat}{k:Wr.K}{c z n:Nat}{es bQ iu:List T}{o2 o3:Ob}{v:AV} (g1:(fs.hd (Pg.rd x)).ev l=some (.w r k [c] z 0 n,l)) (g2:(fs.hd (zQ true r k c n)).ev l=some (.l .y sz es,l1))
  (h2:(fs.hd (raw ((id*1000+i+1)*8) y)).ev l1=some (v,l1)) (h3:(fs.hd (lX v)).ev l1=some (.l o2 sz bQ,l1)) (h5:(fs.hd (gJ ((id*1000+i+1)*8) tk y)).ev l1=some ([.l o3 sz iu],l3)) (hlen:es.length+bQ.length<cQ) (gq:mR bQ=false) (rz:es.length+iu.length<cQ)
  (h4:(fs.hd ((gd dd (.own ⟨(id*1000+i+1)*8,(id*1000+i+1)*8,(id*1000+i+1)*8⟩ (.l .y sz (es++iu)))).bind fun _=>forget kl)).ev l3=some ((),l2)) (hf:fs.fC fun f=>f=cz) (h:cc id (i+1) os cz l2 K):
  cc id i (⟨some dd,.oB (.dk sz agg zero tk (.t x) y),none,kl⟩::os) fs l K:=by
 refine zo ?_ hf h
 match fs,g1,g2,h2,h3,h4,h5 with
 |none,g1,g2,h2,h3,h4,h5=>
  simp only[Fs.hd]at g1 g2 h2 h3 h4 h5⊢;rw[ch]at h4;simp only[aY.exec,aY.go,exec,xr,Bind.bind,ch,g1,g2,h2,h3,hlen,and_self,if_true,gq,cX,if_false,h5,rz];exact h4
 |some ((r',w')::fs),g1,g2,h2,h3,h4,h5=>
  simp only[Fs.hd]at g1 g2 h2 h3 h4 h5⊢;rw[fj,ch]at h4;simp only[aY.exec,aY.go,exec,xr,Bind.bind,fj,ch,g1,g2,h2,h3,hlen,and_self,if_true,gq,cX,if_false,h5,rz];exact h4
 |some [],g1,_,_,_,_,_=>cases g1
inductive pV (fs:Fs):List Cell->LS->List T->LS->Prop
 |nil (l:LS):pV fs [] l [] l
 |x {cs:List Cell}{l l':LS}{t:T}{ts:List T}:pV fs cs l ts l'->pV fs (.x t::cs) l (t::ts) l'
 |w {cs:List Cell}{l l1 l':LS}{r:Nat}{k:Wr.K}{p:List Nat}{z n sz:Nat}{c:RC}{es ts:List T}{t1:T} (h2:(fs.hd (kc r k p)).ev l=some (c,l)) (hn:c.t.aM p=some (.l .y sz es)) (hlen:es.length=n) (hp:c.t.put p .u=t1)
   (hw:(fs.hd (Pg.wr r ({c with t:=t1}:RC).av)).ev l=some ((),l1)):pV fs cs l1 ts l'->pV fs (.w r k p z 0 n::cs) l (.l .y sz es::ts) l'
theorem Zrd {r:Nat}{k:Wr.K}{p:List Nat}{n sz:Nat}{c:RC}{es:List T}{t1:T} (h2:(fs.hd (kc r k p)).ev l=some (c,l)) (hn:c.t.aM p=some (.l .y sz es)) (hlen:es.length=n) (hp:c.t.put p .u=t1)
  (hw:(fs.hd (Pg.wr r ({c with t:=t1}:RC).av)).ev l=some ((),l1)):(fs.hd (jX true r k p 0 n)).ev l=some (.l .y sz es,l1):=by
 have hs:sub es 0 n=es:=by rw[<-hlen];simp[sub]
 subst hp
 match fs,h2,hw with
 |none,h2,hw=>
  simp only[Fs.hd]at h2 hw⊢;simp only[jX,Bind.bind,ch,h2,hn,if_true,hw,hs];rfl
 |some ((r',w')::fs),h2,hw=>
  simp only[Fs.hd]at h2 hw⊢;simp only[jX,Bind.bind,fj,ch,h2,hn,if_true,hw,hs];rfl
 |some [],h2,_=>cases h2
theorem og {α β:Type}{p:Pg α}{q:α->Pg β}{x:α}{y:Option (β×LS)} (h1:(fs.hd p).ev l=some (x,l1)) (h2:(fs.hd (q x)).ev l1=y):(fs.hd (p.bind q)).ev l=y:=by
 match fs,h1,h2 with
 |none,h1,h2=>
  simp only[Fs.hd]at h1 h2⊢;simp only[ch,h1,h2]
 |some ((r',w')::fs),h1,h2=>
  simp only[Fs.hd]at h1 h2⊢;simp only[fj,ch,h1,h2]
 |some [],h1,_=>cases h1
theorem OJ (nD:fs≠some []):∀{cs:List Cell}{l l':LS}{ts:List T},pV fs cs l ts l'->(fs.hd (mU true cs)).ev l=some (ts,l')
 |_,_,_,_,.nil l=>by
  match fs,nD with
  |none,_=>rfl
  |some ((r',w')::fs),_=>rfl
  |some [],nD=>exact absurd rfl nD
 |_,_,_,_,.x (t:=t) (ts:=ts) (l':=l') (cs:=cs) h=>by
  have h1:=OJ nD h;refine og h1 ?_
  match fs,nD with
  |none,_=>rfl
  |some ((r',w')::fs),_=>rfl
  |some [],nD=>exact absurd rfl nD
 |_,_,_,_,.w h2 hn hlen hp hw h=>by
  have h1:=OJ nD h;refine og (Zrd h2 hn hlen hp hw) (og h1 ?_)
  match fs,nD with
  |none,_=>rfl
  |some ((r',w')::fs),_=>rfl
  |some [],nD=>exact absurd rfl nD
theorem Wi {e v:Nat}{cells:List Cell}{ts:List T} (h0:(fs.hd (Pg.rd v)).ev l=some (.st cells,l)) (hc:cells.any Cell.lY=false) (h:pV fs cells l ts l1):(fs.hd (gJ e true (.t v))).ev l=some (ts,l1):=by
 have nD:fs≠some []:=fun e=>by subst e;cases h0
 refine og (p:=raw e (.t v)) h0 ?_;show(fs.hd (if cells.any Cell.lY=true then _ else mU true cells)).ev l=_;rw[if_neg (by rw[hc];simp)];exact OJ nD h
theorem Vl {cs:List T}{j:Nat}{t:T}{p:List Nat}{x:Option T} (h:cs[j]?=some t) (h2:t.aM p=x):(T.a cs).aM (j::p)=x:=by
 simp only[T.aM,T.bA,h,jl,h2]
theorem Y1 {cs cA:List T}{j:Nat}{t t' x:T}{p:List Nat} (h:cs[j]?=some t) (h2:t.put p x=t') (h3:cs.set j t'=cA):(T.a cs).put (j::p) x=.a cA:=by
 simp only[T.put,T.bA,h,T.dP,h2,h3]
theorem Zp4 {α:Type}{l:List α}{i:Nat}{x:α} (h:l[i]?=some x):l.set i x=l:=by
 refine uB fun j=>?_;by_cases hj:i=j
 ·subst hj;rw[il (bt.1 h).1,h]
 ·rw[jQ hj]
end
section
variable {id i:Nat}{o:aY}{d:Option Nat}{op:jr}{os:List aY}{fs cz:Fs}{l l1 l2 l3:LS}{K:LS->Prop}{s:Nat}{b want:Bool}{kl:List Nat}
theorem ydB {x:aL}{lI:List (Nat×aB)}{g r:Nat}{k kk:Wr.K}{cs0:List T}{F:aB}{args:List (fN×aL)}{hs:List Hand}{gH:List Arg}{q:Out} (h2:F gH=some q) (h3:jV hs q=true) (hK:cc id (i+1) os none l2 K)
  (h0:(raw ((id*1000+i+1)*8) x).ev l=some (.fb g r k,l):=by exact rfl) (hr:(oW r k []).ev l=some (⟨true,kk,.a cs0⟩,l):=by exact rfl) (hc:lI.find? (fun c=>c.1==g)=some (g,F):=by exact rfl) (aF:r<1000:=by decide)
  (h1:(oz ((id*1000+i+1)*8) (args++[(.P,.t r)]) []).ev l=some (hs,l1):=by exact rfl) (ha:hs.map Hand.arg=gH:=by(simp only[List.map,iw];exact rfl))
  (h4:((qk ((id*1000+i+1)*8) d hs q).bind fun _=>forget kl).ev l1=some ((),l2):=by exact rfl):cc id i (⟨d,.tK x lI args,none,kl⟩::os) none l K:=by
 refine zo (fs:=none) (cz:=none) ?_ rfl hK;simp only[Fs.hd];rw[ch]at h4;cases h5:(qk ((id*1000+i+1)*8) d hs q).ev l1 with
 |none=>rw[h5]at h4;cases h4
 |some y=>
  rw[h5]at h4;simp only[aY.exec,aY.go,exec,Bind.bind,ch,h0,hr,hc,if_pos aF];rw[VP h1 (ha▸h2) h3 h5];exact h4
end
theorem nm (x:Int):(iT x).closed=true:=rfl
theorem oh (x:UInt8):(iB x).closed=true:=rfl
theorem oj (l:List Int):(ints .y l).closed=true:=cm nm l
theorem bm.cl (x:bm):cP (x.cs .y)=true:=by
 simp only[bm.cs,cP,T.closed,cm nm,cm oh,cm oj,gX,lB]
theorem bm.cle (x:bm):(bm.el .y x).closed=true:=bm.cl x
theorem bm.nt (l:List bm):(bm.ls .y l).closed=true:=cm bm.cle l
theorem af.cl (x:af):cP (x.cs .y)=true:=by
 simp only[af.cs,cP,T.closed,cm nm,cm oh,cm oj,gX,lB]
theorem af.cle (x:af):(af.el .y x).closed=true:=af.cl x
theorem af.nt (l:List af):(af.ls .y l).closed=true:=cm af.cle l
theorem bT.cl (x:bT):cP (x.cs .y)=true:=by
 simp only[bT.cs,cP,T.closed,cm nm,cm oh,cm oj,gX,lB]
theorem bT.cle (x:bT):(bT.el .y x).closed=true:=bT.cl x
theorem bT.nt (l:List bT):(bT.ls .y l).closed=true:=cm bT.cle l
theorem aa.cl (x:aa):cP (x.cs .y)=true:=by
 simp only[aa.cs,cP,T.closed,cm nm,cm oh,cm oj,gX,lB,cm af.cle]
theorem aa.cle (x:aa):(aa.el .y x).closed=true:=aa.cl x
theorem aa.nt (l:List aa):(aa.ls .y l).closed=true:=cm aa.cle l
theorem cZ.cl (x:cZ):cP (x.cs .y)=true:=by
 simp only[cZ.cs,cP,T.closed,cm nm,cm oh,cm oj,gX,lB,cm af.cle]
theorem cZ.cle (x:cZ):(cZ.el .y x).closed=true:=cZ.cl x
theorem cZ.nt (l:List cZ):(cZ.ls .y l).closed=true:=cm cZ.cle l
theorem cr.cl (x:cr):cP (x.cs .y)=true:=by
 simp only[cr.cs,cP,T.closed,cm nm,cm oh,cm oj,gX,lB,cm bT.cle,cm af.cle]
theorem cr.cle (x:cr):(cr.el .y x).closed=true:=cr.cl x
theorem cr.nt (l:List cr):(cr.ls .y l).closed=true:=cm cr.cle l
theorem aD.cl (x:aD):cP (x.cs .y)=true:=by
 simp only[aD.cs,cP,T.closed,cm nm,cm oh,cm oj,gX,lB,cm af.cle]
theorem aD.cle (x:aD):(aD.el .y x).closed=true:=aD.cl x
theorem aD.nt (l:List aD):(aD.ls .y l).closed=true:=cm aD.cle l
theorem au.cl (x:au):cP (x.cs .y)=true:=by
 simp only[au.cs,cP,T.closed,cm nm,cm oh,cm oj,gX,lB,cm aa.cle]
theorem au.cle (x:au):(au.el .y x).closed=true:=au.cl x
theorem au.nt (l:List au):(au.ls .y l).closed=true:=cm au.cle l
theorem aK.cl (x:aK):cP (x.cs .y)=true:=by
 simp only[aK.cs,cP,T.closed,cm nm,cm oh,cm oj,gX,lB]
theorem aK.cle (x:aK):(aK.el .y x).closed=true:=aK.cl x
theorem aK.nt (l:List aK):(aK.ls .y l).closed=true:=cm aK.cle l
theorem bR.cl (x:bR):cP (x.cs .y)=true:=by
 simp only[bR.cs,cP,T.closed,cm nm,cm oh,cm oj,gX,lB]
theorem bR.cle (x:bR):(bR.el .y x).closed=true:=bR.cl x
theorem bR.nt (l:List bR):(bR.ls .y l).closed=true:=cm bR.cle l
theorem aC.cl (x:aC):cP (x.cs .y)=true:=by
 simp only[aC.cs,cP,T.closed,cm nm,cm oh,cm oj,gX,lB,cm af.cle]
theorem aC.cle (x:aC):(aC.el .y x).closed=true:=aC.cl x
theorem aC.nt (l:List aC):(aC.ls .y l).closed=true:=cm aC.cle l
theorem aA.cl (x:aA):cP (x.cs .y)=true:=by
 simp only[aA.cs,cP,T.closed,cm nm,cm oh,cm oj,gX,lB,cm aa.cle,cm aC.cle,cm au.nt,cm aD.cle,cm aK.cle]
theorem aA.cle (x:aA):(aA.el .y x).closed=true:=aA.cl x
theorem aA.nt (l:List aA):(aA.ls .y l).closed=true:=cm aA.cle l
theorem cu.cl (x:cu):cP (x.cs .y)=true:=by
 simp only[cu.cs,cP,T.closed,cm nm,cm oh,cm oj,gX,lB]
theorem cu.cle (x:cu):(cu.el .y x).closed=true:=cu.cl x
theorem cu.nt (l:List cu):(cu.ls .y l).closed=true:=cm cu.cle l
theorem da.cl (x:da):cP (x.cs .y)=true:=by
 simp only[da.cs,cP,T.closed,cm nm,cm oh,cm oj,gX,lB,cm cr.cle,cm aa.cle,cm aC.cle,cm cu.cle,cm au.nt,cm aD.cle,cm aK.cle]
theorem da.cle (x:da):(da.el .y x).closed=true:=da.cl x
theorem da.nt (l:List da):(da.ls .y l).closed=true:=cm da.cle l
theorem cY.cl (x:cY):cP (x.cs .y)=true:=by
 simp only[cY.cs,cP,T.closed,cm nm,cm oh,cm oj,gX,lB]
theorem cY.cle (x:cY):(cY.el .y x).closed=true:=cY.cl x
theorem cY.nt (l:List cY):(cY.ls .y l).closed=true:=cm cY.cle l
theorem wW {hs:List Hand}{cs:List T} (hc:cP cs=true) (ha:apart hs=true):jV hs ⟨[.st cs],[]⟩=true:=by
 simp only[jV,ha,nV,s6,RV.closed,hc,RV.lO,gX,Bool.or_true]
end Go.Wr

