/-
  What is proved: lemmas for the laws. No condition.
-/
import Derived.Test.YtbghjecopkbhlaaGreatPb
set_option linter.unusedVariables false
set_option linter.unusedSimpArgs false
namespace Go.Wr
def aa.zero:aa:=⟨0,0,[],⟨0,0,0,0,[],[],[]⟩⟩
structure ky (t:aK):Prop where
 ix:t.At=0\/t.At=1\/t.At=2
 len:t.Left.length=3
 left:∀x∈t.Left,0<=x/\x<=1000
structure yO where
 gp:Nat
 lK:Nat
 since:Int
 oY:aK
def rowOf (h:aA) (x:yO):List aa:=match h.Rows[x.gp]? with
 |some rs=>(match rs[x.lK]? with|some r=>r.bV|none=>[])
 |none=>[]
structure ly (h:aA):Prop where
 ni:h.bp.length=3
 rows:h.Rows.length=3
 two:∀rs∈h.Rows,rs.length=2
 turns:h.cI.length=2
 oY:∀t∈h.cI,ky t
 since:0<=h.fT/\h.fT<=1000
 oA:∀rs∈h.Rows,∀r∈rs,∀e∈r.bV,e.ok=true
 root:∀e∈h.aJ,e.ok=true
 ord:h.aJ.Pairwise fun a b=>eK a b=true
 weights:h.aT.dX.length=3/\∀x∈h.aT.dX,1<=x/\x<=4
 LV:1<=h.aT.kx/\h.aT.kx<=60
 LW:1<=h.aT.iV/\h.aT.iV<=10
structure Eb (h:aA) (x:yO):Prop where
 gp:x.gp<3
 lK:x.lK<2
 since:0<=x.since/\x.since<=1000
 oY:ky x.oY
 row:rowOf h x≠[]
structure o7 (h:aA):Prop where
 rf:h.aT.ok=true
 ni:h.bp.length=3
 rows:h.Rows.length=3
 turns:h.cI.length=2
 since:0<=h.fT/\h.fT<=1000
 clock:0<=h.kR/\h.kR<=100000
 sU:∀(a:Nat) s,h.bp[a]?=some s->s.ok h.aT.fm=true
 two:∀rs∈h.Rows,rs.length=2
 row:∀(a:Nat) rs,h.Rows[a]?=some rs->∀r∈rs,r.bV.length<=24/\∀e∈r.bV,∀n,In n e.aH->100*(a:Int)+1<=n/\n<=100*(a:Int)+60
 oY:∀t∈h.cI,t.ok=true
 ord:h.aJ.Pairwise fun a b=>eK a b=true
 oA:kf (cD h)
 taken:∀n,In n ((cD h).flatMap aa.aH)<->In n (fH h.bp 0)
 uh:∀(a:Nat) s,h.bp[a]?=some s->s.dM=(et ((fx h).flatMap aa.aH) a 60:Int)
 CX:∀(i:Nat) o,h.bz[i]?=some o->o.BI=(nR (h.bz.take i) o.bg.Key o.bg.eo:Int)
theorem Zr {s:List af} (hs:dv s) {lo hi:Int}:mc s lo hi=true<->∀n,In n s->lo<=n/\n<=hi:=by
 simp only[mc,Y8,eJ,decide_eq_true_eq];constructor
 ·rintro⟨_,h⟩ n ⟨x,hx,h1⟩;have:=h x hx;omega
 ·intro h;refine⟨(tD s).2 hs,fun x hx=>?_⟩;have h1:=hs.span hx;unfold fo at h1;exact⟨(h x.Lo ⟨x,hx,by omega,by omega⟩).1,(h x.Hi ⟨x,hx,by omega,by omega⟩).2⟩
structure rS (s:aD) (p:Int):Prop where
 dI:1<=p/\p<=8
 aam:0<=s.o6/\s.o6<=1000
 granted:0<=s.jO/\s.jO<=60
 set:dv s.bK
 taken:∀n,In n s.bK->1<=n/\n<=s.jO
 uh:0<=s.dM/\s.dM<=gi s.bK
 afh:s.jO<=s.dM+p
 last:0<=s.yK/\s.yK<=1000000
theorem uS {s:aD}{p:Int}:s.ok p=true<->rS s p:=by
 simp only[aD.ok,Y8,bq,decide_eq_true_eq];constructor
 ·rintro⟨⟨⟨⟨⟨⟨h1,h2⟩,h3⟩,h4⟩,h5⟩,h6⟩,h7⟩;have hs:dv s.bK:=by
   simp only[mc,Y8]at h4;exact(tD _).1 h4.1
  exact⟨h1,h2,h3,hs,(Zr hs).1 h4,h5,h6,h7⟩
 ·rintro⟨h1,h2,h3,hs,h4,h5,h6,h7⟩;exact⟨⟨⟨⟨⟨⟨h1,h2⟩,h3⟩,(Zr hs).2 h4⟩,h5⟩,h6⟩,h7⟩
theorem Ir (s:List af) (a:Int) (m:Nat):et s a m<=m:=by
 unfold et;exact eQ List.countP_le_length (by rw[List.length_range];exact Nat.le_refl _)
theorem Vy {s:List af} (hs:dv s) {a:Int} (h:∀n,In n s->100*a+1<=n/\n<=100*a+60):(et s a 60:Int)=gi s:=by
 rw[Ol hs];have h1:=Xh hs a;rw[(Zr hs).2 h]at h1;simpa using h1
theorem Z43 {s:List af} (hs:dv s) (h:∀n,In n s->1<=n/\n<=60):(et s 0 60:Int)=gi s:=Vy hs (a:=0) (by simpa using h)
theorem rS.size {s:aD}{p:Int} (h:rS s p):(et s.bK 0 60:Int)=gi s.bK:=Z43 h.set fun n hn=>by
 have:=h.taken n hn;have:=h.granted;omega
theorem rS.qD {s:aD}{p:Int} (h:rS s p):gi s.bK<=60:=by
 rw[<-h.size];have:=Ir s.bK 0 60;omega
end Go.Wr

