/- A part of the proof. -/
import Derived.Test.YtgepceljhelekaaGreatPAAb
set_option maxRecDepth 100000
set_option maxHeartbeats 64000000
set_option linter.all false
noncomputable section
namespace Go.Eng
open Go
structure DS where
 A:ag
 H:Hp
 did:List Did
structure DR where
 ran:Bool
 av:AV
 sub:PT aX
 H':Hp
def DR.wr(r:DR)(s:DS):List Nat:=fk r.sub s.H.nx r.H'.log
def yX(A:ag)(d:Option Tmp)(v:AV):ag:=match d with|none=>A|some d=>A.put d v
structure XL(E:Env)(rec:Rec)(ops:Array Oper)(j:Nat)(o:Oper)(m:Nat)(s s':DS)(r:DR):Prop where
 slot:∀d,o.dst=some d->d<s.A.nt
 act:s'.A=yX s.A o.dst r.av
 yes:r.ran=true->(∀y n:R (ag×Hp),cJ s.A.tm (gOf ops.toList o.guard) y n=y)/\r.sub=bu s.H.t s.H.nx s.A.tm o (bk m s.did) /\
  Un E rec s.A.tm ⟨r.sub,s.H.nx,[]⟩ (bf E.P o)=.ok [(r.av,r.H')]/\iH (bk m s.did) (r.wr s)=true /\
  s'.H=⟨eM (cx o) s.H r.H' (bk m s.did) (r.wr s),r.H'.nx,r.wr s++s.H.log⟩/\s'.did=note (cx o) j r.sub s.H r.H' s.did (r.wr s)
 no:r.ran=false->(∀y n:R (ag×Hp),cJ s.A.tm (gOf ops.toList o.guard) y n=n)/\r.av=aQ/\r.sub=.leaf/\r.H'=⟨.leaf,s.H.nx,[]⟩/\s'.H=s.H/\s'.did=s.did
def Lx{tm:PT AV}{g:Option (Option Tmp×Bool)}{yes no:R (ag×Hp)}{outs:List (ag×Hp)}(h:cJ tm g yes no=.ok outs):
  ((∀y n:R (ag×Hp),cJ tm g y n=y)/\yes=.ok outs)\/((∀y n:R (ag×Hp),cJ tm g y n=n)/\no=.ok outs):=by
 cases g with
 |none=>exact .inl ⟨λ_ _=>rfl,h⟩
 |some p=>
  obtain⟨t,w⟩:=p;cases t with
  |none=>exact .inr ⟨λ_ _=>rfl,h⟩
  |some t=>
   cases hv:tm.get t with
   |none=>
    have e:∀y n:R (ag×Hp),cJ tm (some (some t,w)) y n=n:=λy n=>by simp[cJ,aG,hv]
    exact .inr ⟨e,by rw[e]at h;exact h⟩
   |some v=>
    have e:∀y n:R (ag×Hp),cJ tm (some (some t,w)) y n=AV.rec (motive:=λ_=>R (ag×Hp)) (λc=>acE c (λb=>ifE b (ifE w y n) (ifE w n y)) (λ_ _=>n) (λ_=>.bad "guard")) (λ_=>n) (λ_=>n) (.bad "guard") v:=
     λy n=>by simp[cJ,aG,hv]
    rw[e]at h;cases v with
    |one c=>
     cases c with
     |b b=>cases b<;>cases w<;>first|exact .inl ⟨λy n=>e y n,h⟩|exact .inr ⟨λy n=>e y n,h⟩
     |i k n=>exact .inr ⟨λy n=>e y n,h⟩
     |o q=>cases h
    |agg l=>exact .inr ⟨λy n=>e y n,h⟩
    |tup l=>exact .inr ⟨λy n=>e y n,h⟩
    |any=>cases h
def Cg{a:ag}{dst:Option Tmp}{v:AV}{h:Hp}{k:ag->Hp->R (ag×Hp)}{outs:List (ag×Hp)}(hk:jA a dst v h k=.ok outs):(∀d,dst=some d->d<a.nt)/\k (yX a dst v) h=.ok outs:=by
 cases dst with
 |none=>exact⟨λd hd=>(by cases hd),hk⟩
 |some d=>
  have X3:ifE (Nat.blt d a.nt) (k (a.put d v) h) (.bad "slot")=.ok outs:=hk
  rw[cW]at X3;split at X3
  ·rename_i hd
   exact⟨λd' V'=>by cases V';exact bA hd,X3⟩
  cases X3
def IM{E:Env}{rec:Rec}{ops:Array Oper}:∀(l:List Oper)(j:Nat)(ms:List Nat)(did:List Did)(A:ag)(H:Hp)(outs:List (ag×Hp)),eG E rec (jH E.P ops.toList l) j ms did A H=.ok outs ->
  ∃(S:Nat->DS)(T:Nat->DR),S 0=⟨A,H,did⟩/\(∀k o,l[k]?=some o->XL E rec ops (j+k) o (ms.getD k 0) (S k) (S (k+1)) (T k))/\outs=[((S l.length).A,(S l.length).H)]
 |[],j,ms,did,A,H,outs,h=>by
  cases h
  exact⟨λ_=>⟨A,H,did⟩,λ_=>⟨false,aQ,.leaf,H⟩,rfl,λk o h=>by simp at h,rfl⟩
 |o::l,j,[],did,A,H,outs,h=>by cases h
 |o::l,j,m::ms,did,A,H,outs,h=>by
  have h':cJ A.tm (gOf ops.toList o.guard)
    (Bb (cx o) j A o.dst H (bu H.t H.nx A.tm o (bk m did)) (bk m did) did (eG E rec (jH E.P ops.toList l) (Nat.add j 1) ms) (Un E rec A.tm ⟨bu H.t H.nx A.tm o (bk m did),H.nx,[]⟩ (bf E.P o)))
    (jA A o.dst aQ H (eG E rec (jH E.P ops.toList l) (Nat.add j 1) ms did))=.ok outs:=h
  have e1:∀k,Nat.add j 1+k=j+(k+1):=λk=>by show j+1+k=_;omega
  have key:∀(s':DS)(r:DR),XL E rec ops j o m ⟨A,H,did⟩ s' r->eG E rec (jH E.P ops.toList l) (Nat.add j 1) ms s'.did s'.A s'.H=.ok outs ->
    ∃(S:Nat->DS)(T:Nat->DR),S 0=⟨A,H,did⟩/\(∀k o',(o::l)[k]?=some o'->XL E rec ops (j+k) o' ((m::ms).getD k 0) (S k) (S (k+1)) (T k))/\outs=[((S (o::l).length).A,(S (o::l).length).H)]:=by
   intro s' r hl hr;obtain⟨S,T,h0,h1,h2⟩:=IM l (Nat.add j 1) ms s'.did s'.A s'.H outs hr;refine⟨λk=>match k with|0=>⟨A,H,did⟩|k+1=>S k,λk=>match k with|0=>r|k+1=>T k,rfl,λk o' ho=>?_,h2⟩;cases k with
   |zero=>
    simp at ho
    subst ho;have:S 0=s':=by rw[h0]
    simpa [this]using hl
   |succ k=>have:=h1 k o' (by simpa using ho);rw[e1]at this;simpa using this
  rcases Lx h' with⟨hw,hy⟩|⟨hw,hn⟩
  ·cases hx:Un E rec A.tm ⟨bu H.t H.nx A.tm o (bk m did),H.nx,[]⟩ (bf E.P o)with
   |bad s=>rw[hx]at hy;cases hy
   |ok xs=>
    rw[hx]at hy;cases xs with
    |nil=>cases hy
    |cons x xs=>
     cases xs with
     |cons _ _=>cases hy
     |nil=>
      have hy':ifE (iH (bk m did) (fk (bu H.t H.nx A.tm o (bk m did)) H.nx x.2.log))
       (jA A o.dst x.1 ⟨eM (cx o) H x.2 (bk m did) (fk (bu H.t H.nx A.tm o (bk m did)) H.nx x.2.log),x.2.nx,fk (bu H.t H.nx A.tm o (bk m did)) H.nx x.2.log++H.log⟩
        (eG E rec (jH E.P ops.toList l) (Nat.add j 1) ms (note (cx o) j (bu H.t H.nx A.tm o (bk m did)) H x.2 did (fk (bu H.t H.nx A.tm o (bk m did)) H.nx x.2.log))))
       (.bad "draw - two operations that may change places touch one object")=.ok outs:=hy
      rw[cW]at hy';split at hy'
      ·rename_i hf
       obtain⟨hs,hk⟩:=Cg hy';refine key ⟨yX A o.dst x.1,_,_⟩ ⟨true,x.1,bu H.t H.nx A.tm o (bk m did),x.2⟩ ⟨hs,rfl,λ_=>⟨hw,rfl,?_,hf,rfl,rfl⟩,λh=>(by cases h)⟩ hk;exact hx
      cases hy'
  obtain⟨hs,hk⟩:=Cg hn;exact key ⟨yX A o.dst aQ,H,did⟩ ⟨false,aQ,.leaf,⟨.leaf,H.nx,[]⟩⟩ ⟨hs,rfl,λh=>(by cases h),λ_=>⟨hw,rfl,rfl,rfl,rfl,rfl⟩⟩ hk
structure HZ(E:Env)(rec:Rec)(ops:Array Oper)(S:Nat->DS)(T:Nat->DR):Prop where
 first:(S 0).did=[]
 link:∀k o,ops[k]?=some o->XL E rec ops k o ((gR [] 0 ops.toList).getD k 0) (S k) (S (k+1)) (T k)
 stat:iu ops=true
def dst(ops:Array Oper)(k:Nat):Option Tmp:=match ops[k]? with|some o=>o.dst|none=>none
def mask(ops:Array Oper)(k:Nat):Nat:=(gR [] 0 ops.toList).getD k 0
def eX(S:Nat->DS)(T:Nat->DR)(k id:Nat):Prop:=id∈(T k).wr (S k)\/((S k).H.nx<=id/\id<(T k).H'.nx)
structure Fact(S:Nat->DS)(T:Nat->DR)(k:Nat):Prop where
 dom:∀id o,(T k).sub.get id=some o->∃o',(T k).H'.get id=some o'
 old:∀id o',(T k).H'.get id=some o'->(∃o,(T k).sub.get id=some o)\/((S k).H.nx<=id/\id<(T k).H'.nx)
 log:∀id,id<(S k).H.nx->id∉(T k).wr (S k)->(T k).H'.get id=(T k).sub.get id
open Classical in
def ovH(S:Nat->DS)(T:Nat->DR)(D:Nat->Prop):Nat->Nat->Option aX
 |0,id=>(S 0).H.get id
 |k+1,id=>if D k/\eX S T k id then(T k).H'.get id else ovH S T D k id
open Classical in
def ovT(ops:Array Oper)(S:Nat->DS)(T:Nat->DR)(D:Nat->Prop):Nat->ag
 |0=>(S 0).A
 |k+1=>if D k then yX (ovT ops S T D k) (dst ops k) (T k).av else ovT ops S T D k
section
variable{S:Nat->DS}{T:Nat->DR}
def zB{D:Nat->Prop}{k id:Nat}(h:D k)(h':eX S T k id):ovH S T D (k+1) id=(T k).H'.get id:=by unfold ovH;exact ad ⟨h,h'⟩
def tf{D:Nat->Prop}{k id:Nat}(h:D k->¬eX S T k id):ovH S T D (k+1) id=ovH S T D k id:=by
 conv=>lhs;unfold ovH
 exact ab λhh=>h hh.1 hh.2
def nM{ops:Array Oper}{D:Nat->Prop}{k:Nat}(h:D k):ovT ops S T D (k+1)=yX (ovT ops S T D k) (dst ops k) (T k).av:=by
 conv=>lhs;unfold ovT
 exact ad h
def tg{ops:Array Oper}{D:Nat->Prop}{k:Nat}(h:¬D k):ovT ops S T D (k+1)=ovT ops S T D k:=by
 conv=>lhs;unfold ovT
 exact ab h
def oW{D D':Nat->Prop}{id:Nat}:∀{n:Nat},(∀i,i<n->eX S T i id->(D i↔D' i))->ovH S T D n id=ovH S T D' n id
 |0,_=>rfl
 |n+1,h=>by
  have ih:=oW (D:=D) (D':=D') (id:=id) (n:=n) λi hi=>h i aa;by_cases ht:eX S T n id
  ·have:=h n aa ht;by_cases hd:D n
   ·rw[zB hd ht,zB (this.1 hd) ht]
   rw[tf λh=>absurd h hd,tf λh=>absurd (this.2 h) hd,ih]
  rw[tf λ_=>ht,tf λ_=>ht,ih]
def zA{D:Nat->Prop}{id k:Nat}:∀{n:Nat},k<=n->(∀i,k<=i->i<n->D i->¬eX S T i id)->ovH S T D n id=ovH S T D k id
 |0,hk,_=>by have:k=0:=aa
             subst this;rfl
 |n+1,hk,h=>by
  by_cases X9:k=n+1
  ·subst X9;rfl
  rw[tf λhd=>h n aa aa hd];exact zA aa λi h1 h2=>h i h1 aa
def Zk{D:Nat->Prop}{id j:Nat}:∀{n:Nat},j<n->(eX S T j id->∀i,j<i->i<n->D i->¬eX S T i id)->(eX S T j id->ovH S T (λi=>D i\/i=j) n id=(T j).H'.get id)/\(¬eX S T j id->ovH S T (λi=>D i\/i=j) n id=ovH S T D n id):=by
 intro n hj h;refine⟨λht=>?_,λht=>?_⟩
 ·rw[zA (k:=j+1) aa λi h1 h2 hd=>?_]
  ·exact zB (.inr rfl) ht
  rcases hd with hd|rfl
  ·exact h ht i aa h2 hd
  omega
 refine oW λi hi J7=>?_;refine⟨λhd=>hd.elim (λh=>h) λhe=>?_,.inl⟩;subst he;exact absurd J7 ht
variable{ops:Array Oper}
def Zx(A:ag)(d:Option Tmp)(v:AV):(yX A d v).nt=A.nt:=by cases d<;>rfl
def Wi(A:ag)(d:Option Tmp)(v:AV):(yX A d v).dfr=A.dfr:=by cases d<;>rfl
def pb{A:ag}{d:Option Tmp}{v:AV}(hd:∀x,d=some x->x<x+1)(t:Nat):(yX A d v).tm.get t=if d=some t then some v else A.tm.get t:=by
 cases d with
 |none=>simp[yX]
 |some x=>
  show(A.tm.set x v).get t=_;rw[PT.sV _ _ _ _ (hd x rfl)];by_cases h:t=x
  ·subst h;simp
  rw[ab h,ab (by simpa usingλe=>h e.symm)]
def Hc{D:Nat->Prop}:∀n,(ovT ops S T D n).nt=(S 0).A.nt
 |0=>rfl
 |n+1=>by
  by_cases h:D n
  ·rw[nM h,Zx,Hc n]
  rw[tg h,Hc n]
def GZ{D:Nat->Prop}:∀n,(ovT ops S T D n).dfr=(S 0).A.dfr
 |0=>rfl
 |n+1=>by
  by_cases h:D n
  ·rw[nM h,Wi,GZ n]
  rw[tg h,GZ n]
section
variable(B0:∀k x,dst ops k=some x->x<x+1)
include B0
theorem oX{D D':Nat->Prop}{t:Nat}:∀{n:Nat},(∀i,i<n->dst ops i=some t->(D i↔D' i))->(ovT ops S T D n).tm.get t=(ovT ops S T D' n).tm.get t
 |0,_=>rfl
 |n+1,h=>by
  have ih:=oX (D:=D) (D':=D') (t:=t) (n:=n) λi hi=>h i aa;by_cases ht:dst ops n=some t
  ·have:=h n aa ht;by_cases hd:D n
   ·rw[nM hd,nM (this.1 hd),pb (B0 n),pb (B0 n),ad ht,ad ht]
   rw[tg hd,tg λh=>hd (this.2 h),ih]
  have e:∀(D:Nat->Prop),(ovT ops S T D (n+1)).tm.get t=(ovT ops S T D n).tm.get t:=λD=>by
   by_cases hd:D n
   ·rw[nM hd,pb (B0 n),ab ht]
   rw[tg hd]
  rw[e,e,ih]
theorem zC{D:Nat->Prop}{t k:Nat}:∀{n:Nat},k<=n->(∀i,k<=i->i<n->D i->dst ops i≠some t)->(ovT ops S T D n).tm.get t=(ovT ops S T D k).tm.get t
 |0,hk,_=>by have:k=0:=aa
             subst this;rfl
 |n+1,hk,h=>by
  by_cases X9:k=n+1
  ·subst X9;rfl
  have ih:=zC (D:=D) (t:=t) (k:=k) (n:=n) aa λi h1 h2=>h i h1 aa;by_cases hd:D n
  ·rw[nM hd,pb (B0 n),ab (h n aa aa hd),ih]
  rw[tg hd,ih]
theorem Zl{D:Nat->Prop}{j:Nat}{n:Nat}(hj:j<n)(h:∀t,dst ops j=some t->∀i,j<i->i<n->D i->dst ops i≠some t)(t:Nat):
  (ovT ops S T (λi=>D i\/i=j) n).tm.get t=(yX (ovT ops S T D n) (dst ops j) (T j).av).tm.get t:=by
 rw[pb (B0 j)];by_cases ht:dst ops j=some t
 ·rw[ad ht,zC B0 (k:=j+1) aa λi h1 h2 hd=>?_]
  ·rw[nM (.inr rfl),pb (B0 j),ad ht]
  rcases hd with hd|rfl
  ·exact h t ht i aa h2 hd
  omega
 rw[ab ht];refine oX B0 λi hi J7=>⟨λhd=>hd.elim (λh=>h) λhe=>?_,.inl⟩;subst he;exact absurd J7 ht
end
end
section
variable{E:Env}{rec:Rec}{ops:Array Oper}{S:Nat->DS}{T:Nat->DR}(hc:HZ E rec ops S T)(I0:RecM rec)
theorem jl{k:Nat}(hk:k<ops.size):∃o,ops[k]?=some o:=⟨ops[k],by simp[hk]⟩
theorem Ud{k:Nat}{o:Oper}(ho:ops[k]?=some o):dst ops k=o.dst:=by unfold dst;rw[ho]
theorem rh{k x:Nat}(h:dst ops k=some x):∃o,ops[k]?=some o/\o.dst=some x:=by
 unfold dst at h;split at h
 ·rename_i o ho;exact⟨o,ho,h⟩
 cases h
def AZ(S:Nat->DS)(T:Nat->DR)(i:Nat):Did:=⟨i,(T i).sub,(S i).H.nx,(T i).H'.nx,(T i).wr (S i)⟩
theorem og{i id:Nat}:de (AZ S T i) id=true↔eX S T i id:=pS
theorem jK{i id:Nat}(h:id∈(T i).wr (S i)):id<(S i).H.nx/\∃o,(T i).sub.get id=some o:=(mP.1 h).2
include hc
theorem pB{k:Nat}{o:Oper}(ho:ops[k]?=some o)(hr:(T k).ran=false):(T k).sub=.leaf/\(T k).H'=⟨.leaf,(S k).H.nx,[]⟩/\(S (k+1)).H=(S k).H/\(S (k+1)).did=(S k).did:=
 let ⟨_,_,h1,h2,h3,h4⟩:=(hc.link k o ho).no hr
 ⟨h1,h2,h3,h4⟩
theorem rZ{k:Nat}{o:Oper}(ho:ops[k]?=some o)(hr:(T k).ran=false)(id:Nat):¬eX S T k id:=by
 obtain⟨h1,h2,_,_⟩:=pB hc ho hr;rintro(h|h)
 ·obtain⟨_,o',h'⟩:=jK h;rw[h1]at h';cases h'
 rw[h2]at h;exact absurd h (by simp)
include I0
theorem tc{k:Nat}(hk:k<ops.size):(S k).H.nx<=(T k).H'.nx/\(S (k+1)).H.nx=(T k).H'.nx:=by
 obtain⟨o,ho⟩:=jl hk;cases hr:(T k).ran with
 |false=>obtain⟨h1,h2,h3,_⟩:=pB hc ho hr;rw[h2,h3];exact⟨ai _,rfl⟩
 |true=>obtain⟨_,h2,h3,_,h5,_⟩:=(hc.link k o ho).yes hr;refine⟨?_,by rw[h5]⟩;have hn:NM ⟨(T k).sub,(S k).H.nx,[]⟩ ((bf E.P o).run (S k).A.tm ⟨(T k).sub,(S k).H.nx,[]⟩):=Hx o;exact(DT I0 hn _ h3).2 _ (List.mem_singleton.2 rfl)
theorem nJ{i:Nat}:∀{k:Nat},i<=k->k<=ops.size->(S i).H.nx<=(S k).H.nx
 |0,h,_=>by have:i=0:=aa
            subst this;exact ai _
 |k+1,h,hk=>by
  by_cases hik:i=k+1
  ·subst hik;exact ai _
  have h1:=nJ (i:=i) (k:=k) aa aa;have h2:=tc hc I0 (k:=k) aa;omega
theorem DE{i k:Nat}(h:i<k)(hk:k<=ops.size):(T i).H'.nx<=(S k).H.nx:=by rw[<-(tc hc I0 (k:=i) aa).2];exact nJ hc I0 aa hk
theorem wQ{i id:Nat}(hi:i<ops.size)(h:eX S T i id):id<(T i).H'.nx:=by
 rcases h with h|h
 ·exact ax (jK h).1 (tc hc I0 hi).1
 exact h.2
omit I0 in
theorem Ox:∀{k:Nat},k<=ops.size->∀u∈(S k).did,∃i,i<k/\(T i).ran=true/\u=AZ S T i
 |0,_,u,hu=>by rw[hc.first]at hu;cases hu
 |k+1,hk,u,hu=>by
  obtain⟨o,ho⟩:=jl (ops:=ops) (k:=k) aa;have ih:=λhu=>Ox (k:=k) aa u hu;have ih':u∈(S k).did->∃i,i<k+1/\(T i).ran=true/\u=AZ S T i:=λhu=>by obtain⟨i,h1,h2⟩:=ih hu;exact⟨i,aa,h2⟩
  cases hr:(T k).ran with
  |false=>rw[(pB hc ho hr).2.2.2]at hu;exact ih' hu
  |true=>
   obtain⟨_,_,_,_,_,h6⟩:=(hc.link k o ho).yes hr;rw[h6]at hu;unfold note at hu;rw[cW]at hu;split at hu
   ·exact ih' hu
   rcases List.mem_cons.1 hu with rfl|hu
   ·exact⟨k,aa,hr,rfl⟩
   exact ih' hu
omit I0 in
theorem Gk{i:Nat}{o:Oper}(ho:ops[i]?=some o)(hr:(T i).ran=true)(hn:cx o≠0\/(S i).H.nx≠(T i).H'.nx):∀{k:Nat},i<k->k<=ops.size->AZ S T i∈(S k).did
 |0,h,_=>aa
 |k+1,h,hk=>by
  by_cases hik:i=k
  ·subst hik;obtain⟨_,_,_,_,_,h6⟩:=(hc.link i o ho).yes hr;rw[h6];unfold note;rw[cW,ab]
   ·exact aT ..
   rw[er,aV];rintro⟨h1,h2⟩;have m7:=aO h1;have s_:=aO h2;exact hn.elim (λh=>h m7) λh=>h s_
  have ih:=Gk ho hr hn (k:=k) aa aa;obtain⟨o',D4⟩:=jl (ops:=ops) (k:=k) aa;cases T3:(T k).ran with
  |false=>rw[(pB hc D4 T3).2.2.2];exact ih
  |true=>
   obtain⟨_,_,_,_,_,h6⟩:=(hc.link k o' D4).yes T3;rw[h6];unfold note;rw[cW];split
   ·exact ih
   exact aR _ ih
variable(Z0:(S ops.size).H.nx<=(S ops.size).H.nx)
include Z0
theorem jV{k:Nat}(hk:k<=ops.size){u:Did}(hu:u∈(S k).did):u.c0<=u.c1/\∀id,de u id=true->id<(S k).H.nx/\id<id+1:=by obtain⟨i,hi,_,rfl⟩:=Ox hc hk u hu;refine⟨(tc hc I0 (k:=i) aa).1,λid ht=>?_⟩;have h1:=wQ hc I0 (i:=i) aa (og.1 ht);have h2:=DE hc I0 hi hk;omega
theorem kZ{k:Nat}(hk:k<ops.size){o:Oper}(ho:ops[k]?=some o){id:Nat}{x:aX}(h:(T k).sub.get id=some x):
  (T k).ran=true/\cx o≠0/\(S k).H.get id=some x/\∀u∈bk (mask ops k) (S k).did,de u id=false:=by
 cases hr:(T k).ran with
 |false=>rw[(pB hc ho hr).1]at h;cases h
 |true=>
  obtain⟨_,h2,_⟩:=(hc.link k o ho).yes hr;have s_:(T k).sub=bu (S k).H.t (S k).H.nx (S k).A.tm o (bk (mask ops k) (S k).did):=h2;rw[s_]at h;refine⟨rfl,?_⟩;unfold bu at h;split at h
  ·cases h
  ·rename_i hl
   rw[mJ]at h
   ·split at h
    ·rename_i hm
     rw[xP,aV]at hm;refine⟨by rw[hl];decide,h,λu hu=>?_⟩;have:=hm.2.2;simp only[tG,xb,HU]at this;exact this u hu
    cases h
   intro i hi;rw[xP,aV]at hi;have:i<(S k).H.nx:=bA hi.2.1;omega
  rename_i K9 P6
  have D0:∀i,i∈(bk (mask ops k) (S k).did).flatMap ia->∃u∈bk (mask ops k) (S k).did,de u i=true:=λi hi=>by obtain⟨u,hu,hi⟩:=List.mem_flatMap.1 hi;exact⟨u,hu,(uD (jV hc I0 Z0 aa (dJ.1 hu).1).1).1 hi⟩
  rw[uw]at h
  ·split at h
   ·cases h
   rename_i hm
   refine⟨λh0=>K9 h0,h,λu hu=>?_⟩;cases htu:de u id with
   |false=>rfl
   |true=>exact absurd (List.mem_flatMap.2 ⟨u,hu,(uD (jV hc I0 Z0 aa (dJ.1 hu).1).1).2 htu⟩) hm
  intro i hi;obtain⟨u,hu,ht⟩:=D0 i hi;exact((jV hc I0 Z0 (k:=k) aa (dJ.1 hu).1).2 i ht).2
theorem JH{k:Nat}(hk:k<ops.size)(hf:Fact S T k)(T_:∀id,(S k).H.nx<=id->(S k).H.get id=none)(id:Nat):
  (eX S T k id->(S (k+1)).H.get id=(T k).H'.get id)/\(¬eX S T k id->(S (k+1)).H.get id=(S k).H.get id):=by
 obtain⟨o,ho⟩:=jl hk;cases hr:(T k).ran with
 |false=>refine⟨λh=>absurd h (rZ hc ho hr id),λ_=>?_⟩;rw[(pB hc ho hr).2.2.1]
 |true=>
  have hle:=(tc hc I0 hk).1;obtain⟨_,h2,_,h4,h5,_⟩:=(hc.link k o ho).yes hr;have w9:∀i,i∈dK (S k).H.nx (Nat.sub (T k).H'.nx (S k).H.nx)↔(S k).H.nx<=i/\i<(T k).H'.nx:=λi=>by
   rw[pG];have e:(S k).H.nx+Nat.sub (T k).H'.nx (S k).H.nx=(T k).H'.nx:=by show(S k).H.nx+((T k).H'.nx-(S k).H.nx)=_;omega
   rw[e]
  have e:(S (k+1)).H.get id=(eM (cx o) (S k).H (T k).H' (bk (mask ops k) (S k).did) ((T k).wr (S k))).get id:=by rw[h5];rfl
  rw[e];have hwr:∀i∈(T k).wr (S k),i<i+1:=λi hi=>by have:=(jK hi).1;omega
  have u6:∀i∈dK (S k).H.nx (Nat.sub (T k).H'.nx (S k).H.nx),i<i+1:=λi hi=>by have:=(w9 i).1 hi;omega
  cases hl:cx o with
  |zero=>
   show(eX S T k id->(dh (S k).H.t (T k).H'.t (dK (S k).H.nx (Nat.sub (T k).H'.nx (S k).H.nx))).get id=_)/\(_->(dh (S k).H.t (T k).H'.t (dK (S k).H.nx (Nat.sub (T k).H'.nx (S k).H.nx))).get id=_);rw[mJ u6];have w_:id∉(T k).wr (S k):=λh=>by obtain⟨_,x,hx⟩:=jK h;exact(kZ hc I0 Z0 hk ho hx).2.1 hl
   refine⟨λh=>?_,λh=>?_⟩
   ·rw[ad ((w9 id).2 (h.resolve_left w_))];rfl
   rw[ab λhh=>h (.inr ((w9 id).1 hh))];rfl
  |succ l=>
   cases l with
   |zero=>
    show(eX S T k id->(dh (S k).H.t (T k).H'.t ((T k).wr (S k)++dK (S k).H.nx (Nat.sub (T k).H'.nx (S k).H.nx))).get id=_)/\(_->(dh (S k).H.t (T k).H'.t ((T k).wr (S k)++dK (S k).H.nx (Nat.sub (T k).H'.nx (S k).H.nx))).get id=_);rw[mJ λi hi=>(List.mem_append.1 hi).elim (hwr i) (u6 i)];refine⟨λh=>?_,λh=>?_⟩
    ·rw[ad (List.mem_append.2 (h.imp_right (w9 id).2))];rfl
    rw[ab λhh=>h ((List.mem_append.1 hh).imp_right (w9 id).1)];rfl
   |succ l=>
    show(eX S T k id->(dh (T k).H'.t (S k).H.t ((bk (mask ops k) (S k).did).flatMap ia)).get id=_)/\(_->(dh (T k).H'.t (S k).H.t ((bk (mask ops k) (S k).did).flatMap ia)).get id=_);have D0:∀i,i∈(bk (mask ops k) (S k).did).flatMap ia->∃u∈bk (mask ops k) (S k).did,de u i=true:=λi hi=>by obtain⟨u,hu,hi⟩:=List.mem_flatMap.1 hi;exact⟨u,hu,(uD (jV hc I0 Z0 aa (dJ.1 hu).1).1).1 hi⟩
    rw[mJ λi hi=>by obtain⟨u,hu,ht⟩:=D0 i hi;exact((jV hc I0 Z0 (k:=k) aa (dJ.1 hu).1).2 i ht).2]
    refine⟨λh=>?_,λh=>?_⟩
    ·rw[ab λhh=>?_]
     ·rfl
     obtain⟨u,hu,ht⟩:=D0 id hh;rcases h with h|h
     ·obtain⟨_,x,hx⟩:=jK h;have:=(kZ hc I0 Z0 hk ho hx).2.2.2 u hu;rw[ht]at this;cases this
     have:=((jV hc I0 Z0 (k:=k) aa (dJ.1 hu).1).2 id ht).1;omega
    by_cases hm:id∈(bk (mask ops k) (S k).did).flatMap ia
    ·rw[ad hm];rfl
    rw[ab hm];show(T k).H'.get id=_;by_cases hid:id<(S k).H.nx
    ·rw[hf.log id hid λhh=>h (.inl hh)];have s_:(T k).sub=bu (S k).H.t (S k).H.nx (S k).A.tm o (bk (mask ops k) (S k).did):=h2;have e2:(T k).sub=rf (S k).H.t ((bk (mask ops k) (S k).did).flatMap ia):=by rw[s_];unfold bu;rw[hl];rfl
     rw[e2,uw λi hi=>by obtain⟨u,hu,ht⟩:=D0 i hi;exact((jV hc I0 Z0 (k:=k) aa (dJ.1 hu).1).2 i ht).2]
     rw[ab hm];rfl
    rw[T_ id aa];cases hg:(T k).H'.get id with
    |none=>rfl
    |some x=>
     rcases hf.old id x hg with⟨y,hy⟩|hh
     ·have:=(kZ hc I0 Z0 hk ho hy).2.2.1;rw[T_ id aa]at this;cases this
     exact absurd (.inr hh) h
theorem law{h0:∀id,(S 0).H.nx<=id->(S 0).H.get id=none}:∀{k:Nat},k<=ops.size->(∀i,i<k->Fact S T i) ->
  (∀id,(S k).H.nx<=id->(S k).H.get id=none)/\∀id,(S k).H.get id=ovH S T (λ_=>True) k id
 |0,_,_=>⟨h0,λ_=>rfl⟩
 |k+1,hk,hf=>by
  obtain⟨hw,hl⟩:=law (h0:=h0) (k:=k) aa λi hi=>hf i aa;have hs:=JH hc I0 Z0 (k:=k) aa (hf k aa) hw;have hn:=tc hc I0 (k:=k) aa;refine⟨λid hid=>?_,λid=>?_⟩
  ·rw[(hs id).2 λht=>?_]
   ·exact hw id aa
   have:=wQ hc I0 aa ht;omega
  by_cases ht:eX S T k id
  ·rw[(hs id).1 ht,zB trivial ht]
  rw[(hs id).2 ht,hl,tf λ_=>ht]
variable{D:Nat->Prop}
omit hc I0 Z0 in
theorem sN(he:∀i o,ops[i]?=some o->D i->∀e∈o.after.toList,jq e=true->D e.on):∀(k i:Nat),i<k->i<ops.size->D i->∀b,Nat.testBit (mask ops i) b=true->D b
 |0,i,h,_,_,_,_=>aa
 |k+1,i,h,hi,hd,b,hb=>by
  obtain⟨o,ho⟩:=jl hi;have E8:Nat.testBit ((gR [] 0 ops.toList).getD (0+i) 0) b=true:=by rw[Nat.zero_add];exact hb
  obtain⟨e,L3,hu,B0,hor⟩:=uB ops.toList [] 0 rfl i o (by simpa using ho) b E8;have hde:=he i o ho hd e L3 hu;rcases hor with rfl|hor
  ·exact hde
  exact sN he k e.on aa aa hde b hor
omit hc I0 Z0 in
theorem Kz(he:∀i o,ops[i]?=some o->D i->∀e∈o.after.toList,jq e=true->D e.on){j:Nat}{o:Oper}(ho:ops[j]?=some o)(hj:∀e∈o.after.toList,jq e=true->D e.on)(b:Nat)(hb:Nat.testBit (mask ops j) b=true):D b:=by
 have B0:j<ops.size:=getElem?_lt' ho;have E8:Nat.testBit ((gR [] 0 ops.toList).getD (0+j) 0) b=true:=by rw[Nat.zero_add];exact hb
 obtain⟨e,L3,hu,hl,hor⟩:=uB ops.toList [] 0 rfl j o (by simpa using ho) b E8;have hde:=hj e L3 hu;rcases hor with rfl|hor
 ·exact hde
 exact sN he (e.on+1) e.on aa aa hde b hor
where getElem?_lt' {j:Nat} {o:Oper} (h:ops[j]?=some o):j<ops.size:=(Array.getElem?_eq_some_iff.1 h).1
omit I0 Z0 in
theorem AA{i j:Nat}(hij:i<j){x y:Oper}(hx:ops[i]?=some x)(hy:ops[j]?=some y)(hb:Nat.testBit (mask ops j) i=false):DJ ops x y=false:=by have hs:=hc.stat;unfold iu at hs;rw[aV]at hs;have:=wN (pre:=[]) hs.1 j y (by simpa using hy) i x (by simpa using hij) (by simpa using hx);exact this.resolve_left λh=>by rw[show(gR [] 0 ops.toList).getD j 0=mask ops j from rfl,hb]at h;cases h
variable(S1:∀i,i<ops.size->D i->∀b,Nat.testBit (mask ops i) b=true->D b){j:Nat}(hj:j<ops.size)(Q5:¬D j)
include S1 hj Q5
theorem aaO(id:Nat)(ht:eX S T j id)(i:Nat)(hji:j<i)(hi:i<ops.size)(hd:D i):¬eX S T i id:=by
 intro J7;obtain⟨o,ho⟩:=jl hj;obtain⟨oi,hoi⟩:=jl hi;have hbit:Nat.testBit (mask ops i) j=false:=by
  cases h:Nat.testBit (mask ops i) j with
  |false=>rfl
  |true=>exact absurd (S1 i hi hd j h) Q5
 have hran:(T j).ran=true:=by
  cases h:(T j).ran with
  |false=>exact absurd ht (rZ hc ho h id)
  |true=>rfl
 have hnote:cx o≠0\/(S j).H.nx≠(T j).H'.nx:=by
  rcases ht with ht|ht
  ·obtain⟨_,x,hx⟩:=jK ht;exact .inl (kZ hc I0 Z0 hj ho hx).2.1
  exact .inr aa
 have D0:AZ S T j∈bk (mask ops i) (S i).did:=dJ.2 ⟨Gk hc ho hran hnote hji aa,hbit⟩;rcases J7 with J7|J7
 ·obtain⟨_,x,hx⟩:=jK J7;have:=(kZ hc I0 Z0 hi hoi hx).2.2.2 _ D0;rw[og.2 ht]at this;cases this
 have h1:=wQ hc I0 hj ht;have h2:=DE hc I0 hji (k:=i) aa;omega
omit I0 Z0 hj in
theorem aaP(t:Nat)(ht:dst ops j=some t)(i:Nat)(hji:j<i)(hi:i<ops.size)(hd:D i):dst ops i≠some t:=by
 intro J7;obtain⟨o,ho,hot⟩:=rh ht;obtain⟨oi,hoi,hoit⟩:=rh J7;have hbit:Nat.testBit (mask ops i) j=false:=by
  cases h:Nat.testBit (mask ops i) j with
  |false=>rfl
  |true=>exact absurd (S1 i hi hd j h) Q5
 exact((uu (AA hc hji ho hoi hbit)).1 t hot).2 hoit
variable(hp:∀b,Nat.testBit (mask ops j) b=true->D b)
include hp
theorem XO{h0:∀id,(S 0).H.nx<=id->(S 0).H.get id=none}(hf:∀i,i<j->Fact S T i)(id:Nat)(x:aX)(h:(T j).sub.get id=some x):ovH S T D ops.size id=some x:=by
 obtain⟨o,ho⟩:=jl hj;obtain⟨hran,G4,hg,U8⟩:=kZ hc I0 Z0 hj ho h;obtain⟨T_,hlaw⟩:=law hc I0 Z0 (h0:=h0) (k:=j) aa hf;have hid:id<(S j).H.nx:=by
  rcases cL id (S j).H.nx with hh|hh
  ·exact hh
  rw[T_ id hh]at hg;cases hg
 have e:ovH S T D ops.size id=ovH S T (λi=>i<j) ops.size id:=by
  refine oW λi hi J7=>⟨λhd=>?_,λhij=>?_⟩
  ·rcases cL i j with hh|hh
   ·exact hh
   exfalso;have Q0:i≠j:=λe=>Q5 (e▸hd);have hji:j<i:=aa;obtain⟨oi,hoi⟩:=jl hi;have hbit:Nat.testBit (mask ops i) j=false:=by
    cases h:Nat.testBit (mask ops i) j with
    |false=>rfl
    |true=>exact absurd (S1 i hi hd j h) Q5
   have hrani:(T i).ran=true:=by
    cases h:(T i).ran with
    |false=>exact absurd J7 (rZ hc hoi h id)
    |true=>rfl
   have D0:AZ S T j∈bk (mask ops i) (S i).did:=dJ.2 ⟨Gk hc ho hran (.inl G4) hji aa,hbit⟩;rcases J7 with J7|J7
   ·obtain⟨_,_,_,h4,_⟩:=(hc.link i oi hoi).yes hrani;have:=vK h4 _ D0 id J7;have h':(AZ S T j).U2.get id=some x:=h;rw[h']at this;cases this
   have h2:=nJ hc I0 (i:=j) (k:=i) aa aa;omega
  obtain⟨oi,hoi⟩:=jl hi;have hrani:(T i).ran=true:=by
   cases h:(T i).ran with
   |false=>exact absurd J7 (rZ hc hoi h id)
   |true=>rfl
  cases hb:Nat.testBit (mask ops j) i with
  |true=>exact hp i hb
  |false=>
   exfalso;have hnote:cx oi≠0\/(S i).H.nx≠(T i).H'.nx:=by
    rcases J7 with ht|ht
    ·obtain⟨_,x,hx⟩:=jK ht;exact .inl (kZ hc I0 Z0 hi hoi hx).2.1
    exact .inr aa
   have:=U8 _ (dJ.2 ⟨Gk hc hoi hrani hnote hij aa,hb⟩);rw[og.2 J7]at this;cases this
 rw[e,zA (k:=j) aa λi h1 _ h2=>absurd h2 aa,<-hg,hlaw];exact oW λi hi _=>⟨λ_=>trivial,λ_=>hi⟩
end
section
variable{E:Env}{rec:Rec}{ops:Array Oper}{S:Nat->DS}{T:Nat->DR}(hc:HZ E rec ops S T)
include hc
theorem FT:∀{k:Nat},k<=ops.size->(S k).A=ovT ops S T (λ_=>True) k
 |0,_=>rfl
 |k+1,hk=>by obtain⟨o,ho⟩:=jl (ops:=ops) (k:=k) aa;rw[nM trivial,(hc.link k o ho).act,FT (k:=k) aa,Ud ho]
theorem aaR{k x:Nat}(h:dst ops k=some x):x<(S 0).A.nt:=by obtain⟨o,ho,hx⟩:=rh h;have B0:k<ops.size:=(Array.getElem?_eq_some_iff.1 ho).1;have:=(hc.link k o ho).slot x hx;rw[FT hc (k:=k) aa,Hc]at this;exact this
theorem XP(z0:(S 0).A.nt<=1048576){D:Nat->Prop}(S1:∀i,i<ops.size->D i->∀b,Nat.testBit (mask ops i) b=true->D b){j:Nat}(hj:j<ops.size)(Q5:¬D j)(hp:∀b,Nat.testBit (mask ops j) b=true->D b)
  {o:Oper} (ho:ops[j]?=some o) {t:Nat} (ht:t∈slotsOf ops o):(ovT ops S T D ops.size).tm.get t=(S j).A.tm.get t:=by
 have B0:∀k x,dst ops k=some x->x<x+1:=λk x h=>ba _;have e:(ovT ops S T D ops.size).tm.get t=(ovT ops S T (λi=>i<j) ops.size).tm.get t:=by
  refine oX B0 λi hi J7=>⟨λhd=>?_,λhij=>?_⟩
  ·rcases cL i j with hh|hh
   ·exact hh
   exfalso;have Q0:i≠j:=λe=>Q5 (e▸hd);have hji:j<i:=aa;obtain⟨oi,hoi,hoit⟩:=rh J7;have hbit:Nat.testBit (mask ops i) j=false:=by
    cases h:Nat.testBit (mask ops i) j with
    |false=>rfl
    |true=>exact absurd (S1 i hi hd j h) Q5
   exact(uu (AA hc hji ho hoi hbit)).2 t hoit ht
  obtain⟨oi,hoi,hoit⟩:=rh J7;cases hb:Nat.testBit (mask ops j) i with
  |true=>exact hp i hb
  |false=>exact absurd ht ((uu (AA hc hij hoi ho hb)).1 t hoit).1
 rw[e,zC B0 (k:=j) aa λi h1 _ h2=>absurd h2 aa,FT hc (k:=j) aa];exact oX B0 λi hi _=>⟨λ_=>trivial,λ_=>hi⟩
omit hc in
theorem Uo{tm tm':PT AV}{x:Operand}(h:∀t,x=.tmp t->tm.get t=tm'.get t):ev tm x=ev tm' x:=by
 cases x with
 |tmp t=>show aG (tm.get t) aQ (λv=>v)=aG (tm'.get t) aQ (λv=>v);rw[h t rfl]
 |_=>rfl
omit hc in
theorem Lw{tm tm':PT AV}{o:Oper}(h:∀t∈slotsOf ops o,tm.get t=tm'.get t)(y n:R (ag×Hp)):cJ tm (gOf ops.toList o.guard) y n=cJ tm' (gOf ops.toList o.guard) y n:=by
 cases hg:o.guard with
 |none=>rfl
 |some p=>
  obtain⟨q,w⟩:=p;unfold gOf;simp only[oo];cases hq:ops[q]? with
  |none=>rfl
  |some oq=>
   cases hd:oq.dst with
   |none=>simp only[hd];rfl
   |some t=>
    have ht:t∈slotsOf ops o:=by unfold slotsOf;refine du _ ?_;rw[hg];unfold Eo;simp[hq,hd]
    simp only[hd];unfold cJ;simp only[ET];rw[h t ht]
end
def TmR.ext{β:Pl}{tm tm':PT AV}{nt:Nat}{tmps:Array Value}(h:TmR β tm nt tmps)(he:∀t,tm'.get t=tm.get t):TmR β tm' nt tmps:=
 ⟨h.1,h.2.1,λt=>by rw[he];exact h.2.2 t⟩
def ji.has{β:Pl}{w:World}{id:Nat}{o:aX}(h:ji β w id o):∃g p,β id g=some p:=by
 cases o with
 |arr cells e lo gen=>obtain⟨p,hp,_⟩:=h.2.1 lo (ai _) h.1;exact⟨lo,p,hp⟩
 |oth x=>obtain⟨p,hp,_⟩:=h;exact⟨0,p,hp⟩
 |ro x=>obtain⟨p,hp,_⟩:=h;exact⟨0,p,hp⟩
structure St(ops:Array Oper)(S:Nat->DS)(T:Nat->DR)(m:Nat)(β0:Pl)(w0:World)(D:Nat->Prop)(β:Pl)(a:Act)(w:World):Prop where
 tm:TmR β (ovT ops S T D ops.size).tm (S 0).A.nt a.tmps
 df:qF β (S 0).A.dfr a.defers
 obj:∀id o,ovH S T D ops.size id=some o->ji β w id o
 sep:∀id id' o o' g g' p p',ovH S T D ops.size id=some o->ovH S T D ops.size id'=some o'->fm o g->fm o' g'->β id g=some p->β id' g'=some p'->p.b=p'.b->id=id'\/(o.oU=true/\o'.oU=true)
 fresh:∀j,j<ops.size->¬D j->∀id g,(S j).H.nx<=id->id<(T j).H'.nx->β id g=none
 free:∀id g,(S ops.size).H.nx<=id->id<m->β id g=none
 sub:Sub β0 β
 loc:∀id g p,β id g=some p->β0 id g=some p\/((S 0).H.nx<=id/\id<(S ops.size).H.nx)\/∃o,(S 0).H.get id=some o
 size:w0.heap.size<=w.heap.size
 os:w.os=w0.os
 tape:w.tape=w0.tape
 output:w.output=w0.output
 frame:∀b,b<w0.heap.size->(∀id o g p,(S 0).H.get id=some o->Yv o g->β0 id g=some p->p.b≠b)->w.heap[b]?=w0.heap[b]?
 prov:∀id o g p,ovH S T D ops.size id=some o->fm o g->β id g=some p->w0.heap.size<=p.b\/∃o0 g0 p0,(S 0).H.get id=some o0/\fm o0 g0/\β0 id g0=some p0/\p0.b=p.b/\o0.oU=o.oU
 dom:∀id o,(S 0).H.get id=some o->∃o',ovH S T D ops.size id=some o'
 old:∀id o,ovH S T D ops.size id=some o->(∃o,(S 0).H.get id=some o)\/((S 0).H.nx<=id/\id<(S ops.size).H.nx)
 far:∀b,b<w0.heap.size->(∀id o g p,(∃i,i<ops.size/\D i/\id∈(T i).wr (S i))->(S 0).H.get id=some o->Yv o g->β0 id g=some p->p.b≠b)->w.heap[b]?=w0.heap[b]?
def St.congr{ops:Array Oper}{S:Nat->DS}{T:Nat->DR}{m:Nat}{β0:Pl}{w0:World}{D D':Nat->Prop}{β:Pl}{a:Act}{w:World}(h:St ops S T m β0 w0 D β a w)(B0:∀k x,dst ops k=some x->x<x+1)
  (hd:∀i,i<ops.size->(D i↔D' i)):St ops S T m β0 w0 D' β a w:=by
 have e:∀id,ovH S T D' ops.size id=ovH S T D ops.size id:=λid=>oW λi hi _=>(hd i hi).symm;have e':∀t,(ovT ops S T D' ops.size).tm.get t=(ovT ops S T D ops.size).tm.get t:=λt=>oX B0 λi hi _=>(hd i hi).symm
 exact{ tm:=h.tm.ext e',df:=h.df,obj:=λid o ho=>h.obj id o (by rw[<-e];exact ho),sep:=λid id' o o' g g' p p' h1 h2=>h.sep id id' o o' g g' p p' (by rw[<-e];exact h1) (by rw[<-e];exact h2),
        fresh:=λj hj hn=>h.fresh j hj λhh=>hn ((hd j hj).1 hh),free:=h.free,sub:=h.sub,loc:=h.loc,size:=h.size,os:=h.os,tape:=h.tape,output:=h.output,frame:=h.frame,
        prov:=λid o g p h1=>h.prov id o g p (by rw[<-e];exact h1),dom:=λid o ho=>by rw[e];exact h.dom id o ho,old:=λid o ho=>h.old id o (by rw[<-e];exact ho),
        far:=λb hb hn=>h.far b hb λid o g p⟨i,h1,h2,h3⟩=>hn id o g p ⟨i,h1,(hd i h1).1 h2,h3⟩ }
section
variable{E:Env}{rec:Rec}{ops:Array Oper}{S:Nat->DS}{T:Nat->DR}(hc:HZ E rec ops S T)(I0:RecM rec)(Z0:(S ops.size).H.nx<=(S ops.size).H.nx)
variable{m:Nat}{β0:Pl}{w0:World}{D:Nat->Prop}{β:Pl}{a:Act}{w:World}
theorem St.rel(h:St ops S T m β0 w0 D β a w){j:Nat}(hj:j<ops.size)(Q5:¬D j)(S3:∀id x,(T j).sub.get id=some x->ovH S T D ops.size id=some x)(T_:∀id x,(T j).sub.get id=some x->id<(S j).H.nx):
  Rel (T j).H'.nx β ⟨(T j).sub,(S j).H.nx,[]⟩ w where
 obj:=λid o ho=>h.obj id o (S3 id o ho)
 sep:=λid id' o o' g g' p p' h1 h2=>h.sep id id' o o' g g' p p' (S3 id o h1) (S3 id' o' h2)
 wf:=λid hid=>by
  cases hg:(T j).sub.get id with
  |none=>exact hg
  |some x=>exact absurd (T_ id x hg) (by have:(S j).H.nx<=id:=hid;omega)
 free:=λid g h1 h2=>h.fresh j hj Q5 id g h1 h2
theorem Fact.of{j:Nat}{β β':Pl}{w w':World}(hx:Ext β ⟨(T j).sub,(S j).H.nx,[]⟩ w β' (T j).H' w'):Fact S T j where
 dom:=λid o ho=>hx.dom id o ho
 old:=λid o ho=>hx.old id o ho
 log:=λid hid hn=>by
  obtain⟨l,hl,hg⟩:=hx.log;have W9:(T j).H'.log=l:=by rw[hl];simp
  by_cases hm:id∈l
  ·cases hs:(T j).sub.get id with
   |some x=>exact absurd (mP.2 ⟨by rw[W9];exact hm,hid,x,hs⟩) hn
   |none=>
    cases Q2:(T j).H'.get id with
    |none=>rfl
    |some y=>
     rcases hx.old id y Q2 with⟨z,hz⟩|hz
     ·have:(T j).sub.get id=some z:=hz;rw[hs]at this;cases this
     have:(S j).H.nx<=id:=hz.1;omega
  exact hg id hid hm
include hc I0
theorem St.step(z0:(S 0).A.nt<=1048576)(h:St ops S T m β0 w0 D β a w){j:Nat}(hj:j<ops.size)(Q5:¬D j)(S3:∀id x,(T j).sub.get id=some x->ovH S T D ops.size id=some x)(T_:∀id x,(T j).sub.get id=some x->id<(S j).H.nx)
  (hcoH:∀id,eX S T j id->∀i,j<i->i<ops.size->D i->¬eX S T i id) (hcoT:∀t,dst ops j=some t->∀i,j<i->i<ops.size->D i->dst ops i≠some t)
  {v:Value} {w':World} (ho:Out (T j).H'.nx β ⟨(T j).sub,(S j).H.nx,[]⟩ w [((T j).av,(T j).H')] v w'):Fact S T j/\∃β',St ops S T m β0 w0 (λi=>D i\/i=j) β' (a.put (dst ops j) v) w':=by
 obtain⟨x,hx,β',hv,i',z5⟩:=ho;rw[List.mem_singleton]at hx;subst hx;have hx:Ext β ⟨(T j).sub,(S j).H.nx,[]⟩ w β' (T j).H' w':=z5;have hf:Fact S T j:=Fact.of hx;refine⟨hf,β',?_⟩;have B0:∀k x,dst ops k=some x->x<x+1:=λk x h=>ba _;have hadd:=λid=>Zk (S:=S) (T:=T) (D:=D) (id:=id) hj (hcoH id);have h0j:(S 0).H.nx<=(S j).H.nx:=nJ hc I0 (Nat.zero_le _) aa;have hjn:(T j).H'.nx<=(S ops.size).H.nx:=DE hc I0 hj (ai _);have split_:∀id o,ovH S T (λi=>D i\/i=j) ops.size id=some o ->
   ((T j).H'.get id=some o/\((∃y,(T j).sub.get id=some y)\/((S j).H.nx<=id/\id<(T j).H'.nx)))\/(ovH S T D ops.size id=some o/\(T j).sub.get id=none/\¬eX S T j id):=by
  intro id o hg;by_cases ht:eX S T j id
  ·rw[(hadd id).1 ht]at hg;refine .inl ⟨hg,?_⟩;rcases ht with ht|ht
   ·exact .inl (jK ht).2
   exact .inr ht
  rw[(hadd id).2 ht]at hg;cases hs:(T j).sub.get id with
  |none=>exact .inr ⟨hg,rfl,ht⟩
  |some y=>
   have:=S3 id y hs;rw[hg]at this;cases this
   refine .inl ⟨?_,.inl ⟨_,rfl⟩⟩;rw[hf.log id (T_ id _ hs) λhh=>ht (.inl hh)];exact hs
 have c9:∀id,(T j).sub.get id=none->¬eX S T j id->∀g,β' id g=β id g:=by
  intro id hs ht g;cases hb:β' id g with
  |some p=>
   rcases hx.loc id g p hb with h1|h1|⟨o,h1⟩
   ·exact h1.symm
   ·exact absurd (.inr h1) ht
   have:(T j).sub.get id=some o:=h1;rw[hs]at this;cases this
  |none=>
   cases E8:β id g with
   |none=>rfl
   |some p=>rw[hx.sub id g p E8]at hb;cases hb
 have hkeep:∀id o g p,ovH S T D ops.size id=some o->(T j).sub.get id=none->fm o g->β id g=some p->w'.heap[p.b]?=w.heap[p.b]?:=by
  intro id o g p hg hs hgk hp;refine hx.frame p.b ((h.obj id o hg).lt hgk hp) λid' o' g' p' h1 h2 h3 h4=>?_;have m7:(T j).sub.get id'=some o':=h1;rcases h.sep id' id o' o g' g p' p (S3 id' o' m7) hg h2.1 hgk h3 hp h4 with this|⟨this,_⟩
  ·subst this;rw[hs]at m7;cases m7
  rw[h2.2]at this;cases this
 have hafter:∀id o g p,((T j).H'.get id=some o/\((∃y,(T j).sub.get id=some y)\/((S j).H.nx<=id/\id<(T j).H'.nx)))->fm o g->β' id g=some p ->
   w.heap.size<=p.b\/∃o0 g0 p0,ovH S T D ops.size id=some o0/\fm o0 g0/\β id g0=some p0/\p0.b=p.b/\o0.oU=o.oU:=by
  intro id o g p hg hgk hp;rcases hx.prov id o g p hg.1 hgk hp with h1|⟨o0,g0,p0,h1,h2,h3,h4⟩
  ·exact .inl h1
  exact .inr ⟨o0,g0,p0,S3 id o0 h1,h2,h3,h4⟩
 have hobj:∀id o,ovH S T (λi=>D i\/i=j) ops.size id=some o->ji β' w' id o:=by
  intro id o hg;rcases split_ id o hg with hl|⟨Q2,hs,ht⟩
  ·exact i'.obj id o hl.1
  exact ji.mono hx.sub (h.obj id o Q2) (c9 id hs ht) λg p hgk hp=>hkeep id o g p Q2 hs hgk hp
 have y9:∀id,(∀g,β id g=none)->(T j).sub.get id=none:=by
  intro id hn;cases hs:(T j).sub.get id with
  |none=>rfl
  |some y=>obtain⟨g,p,hp⟩:=(h.obj id y (S3 id y hs)).has;rw[hn g]at hp;cases hp
 refine{ tm:=?_,df:=?_,obj:=hobj,sep:=?_,fresh:=?_,free:=?_,sub:=λid g p hp=>hx.sub _ _ _ (h.sub _ _ _ hp),loc:=?_,size:=aS h.size hx.size,os:=hx.os.trans h.os,tape:=hx.tape.trans h.tape,
         output:=hx.output.trans h.output,frame:=?_,prov:=?_,dom:=?_,old:=?_,far:=?_ }
 ·
  have h1:=h.tm.mono hx.sub;have h2:TmR β' (yX (ovT ops S T D ops.size) (dst ops j) (T j).av).tm (S 0).A.nt (a.put (dst ops j) v).tmps:=by
   cases hd:dst ops j with
   |none=>exact h1
   |some d=>exact h1.put (aaR hc hd) hv
  exact h2.ext λt=>Zl B0 hj hcoT t
 ·have h1:=qF.mono hx.sub h.df;cases dst ops j with
  |none=>exact h1
  |some d=>exact h1
 ·
  intro id id' o o' g g' p p' h1 h2 h3 h4 h5 h6 h7;rcases split_ id o h1 with hl|⟨U',O5,ht1⟩
  ·rcases split_ id' o' h2 with W9|⟨hg2,L1,ht2⟩
   ·exact i'.sep id id' o o' g g' p p' hl.1 W9.1 h3 h4 h5 h6 h7
   rw[c9 id' L1 ht2]at h6;rcases hafter id o g p hl h3 h5 with h8|⟨o0,g0,p0,a1,a2,a3,a4,a5⟩
   ·have:=(h.obj id' o' hg2).lt h4 h6;omega
   rw[<-a5];exact h.sep id id' o0 o' g0 g' p0 p' a1 hg2 a2 h4 a3 h6 (a4.trans h7)
  rw[c9 id O5 ht1]at h5;rcases split_ id' o' h2 with W9|⟨hg2,L1,ht2⟩
  ·rcases hafter id' o' g' p' W9 h4 h6 with h8|⟨o0,g0,p0,a1,a2,a3,a4,a5⟩
   ·have:=(h.obj id o U').lt h3 h5;omega
   rw[<-a5];exact h.sep id id' o o0 g g0 p p0 U' a1 h3 a2 h5 a3 (h7.trans a4.symm)
  rw[c9 id' L1 ht2]at h6;exact h.sep id id' o o' g g' p p' U' hg2 h3 h4 h5 h6 h7
 ·
  intro k hk hn id g h1 h2;have hnk:¬D k:=λhh=>hn (.inl hh);have hkj:k≠j:=λhh=>hn (.inr hh);have hb:∀g,β id g=none:=λg=>h.fresh k hk hnk id g h1 h2;have hnt':¬eX S T j id:=by
   rintro(ht|ht)
   ·obtain⟨_,y,hy⟩:=jK ht;rw[y9 id hb]at hy;cases hy
   rcases cL k j with hh|hh
   ·have:=DE hc I0 hh (k:=j) aa;omega
   have hjk:j<k:=aa;have:=DE hc I0 hjk (k:=k) aa;omega
  rw[c9 id (y9 id hb) hnt'];exact hb g
 ·
  intro id g h1 h2;have hb:∀g,β id g=none:=λg=>h.free id g h1 h2;have hnt':¬eX S T j id:=λht=>by have:=wQ hc I0 hj ht;omega
  rw[c9 id (y9 id hb) hnt'];exact hb g
 ·intro id g p hp;rcases hx.loc id g p hp with h1|h1|⟨o,h1⟩
  ·exact h.loc id g p h1
  ·exact .inr (.inl ⟨aS h0j h1.1,ax h1.2 hjn⟩)
  rcases h.old id o (S3 id o h1)with h2|h2
  ·exact .inr (.inr h2)
  exact .inr (.inl h2)
 ·intro b hb hn;rw[hx.frame b (ax hb h.size) ?_,h.frame b hb hn];intro id o g p h1 h2 h3 h4;rcases h.prov id o g p (S3 id o h1) h2.1 h3 with h5|⟨o0,g0,p0,a1,a2,a3,a4,a5⟩
  ·omega
  exact hn id o0 g0 p0 a1 ⟨a2,a5.trans h2.2⟩ a3 (a4.trans h4)
 ·intro id o g p h1 h2 h3;rcases split_ id o h1 with hl|⟨U',O5,ht1⟩
  ·rcases hafter id o g p hl h2 h3 with h8|⟨o0,g0,p0,a1,a2,a3,a4,a5⟩
   ·have:=h.size;exact .inl aa
   rcases h.prov id o0 g0 p0 a1 a2 a3 with h5|⟨o1,g1,p1,b1,b2,b3,b4,b5⟩
   ·exact .inl aa
   exact .inr ⟨o1,g1,p1,b1,b2,b3,b4.trans a4,b5.trans a5⟩
  rw[c9 id O5 ht1]at h3;exact h.prov id o g p U' h2 h3
 ·intro id o h1;by_cases ht:eX S T j id
  ·rw[(hadd id).1 ht];rcases ht with ht|ht
   ·obtain⟨_,y,hy⟩:=jK ht;exact hf.dom id y hy
   obtain⟨o',D4⟩:=h.dom id o h1;obtain⟨g,p,hp⟩:=(h.obj id o' D4).has;rw[h.fresh j hj Q5 id g ht.1 ht.2]at hp;cases hp
  rw[(hadd id).2 ht];exact h.dom id o h1
 ·intro id o h1;rcases split_ id o h1 with⟨_,⟨y,hy⟩|hl⟩|⟨U',_,_⟩
  ·exact h.old id y (S3 id y hy)
  ·exact .inr ⟨aS h0j hl.1,ax hl.2 hjn⟩
  exact h.old id o U'
 intro b hb hn;rw[hx.far (T j).H'.log (by simp) b (ax hb h.size) ?_,h.far b hb λid o g p⟨i,h1,h2,h3⟩=>hn id o g p ⟨i,h1,.inl h2,h3⟩];intro id o g p hid h1 h2 h3 h4;have m7:(T j).sub.get id=some o:=h1;rcases h.prov id o g p (S3 id o m7) h2.1 h3 with h5|⟨o0,g0,p0,a1,a2,a3,a4,a5⟩
 ·omega
 exact hn id o0 g0 p0 ⟨j,hj,.inr rfl,mP.2 ⟨hid,T_ id o m7,o,m7⟩⟩ a1 ⟨a2,a5.trans h2.2⟩ a3 (a4.trans h4)
end
def Nr{F:Fence}{n:Nat}{P:Program}{o:Oper}{a:Act}{X:Prop}{r:Result Next}(hF:∀k,F.room k)(w0:World)(h:o.uponIn F n P a (λ_ _=>X) (λ_ _ _=>False) r):X:=by
 cases r with
 |halt x w'=>cases x<;>exact False.elim h
 |ok x w'=>
  cases x with
  |value v=>exact h
  |skip=>exact h
  |defer d=>exact h
  |enter f args=>
   obtain⟨e,w'',fr,hr,_⟩:=h.2.2 [] (hF _);cases e with
   |returned v=>exact hr
   |panicked c=>exact False.elim hr
   |outgrown=>obtain⟨_,_,hr⟩:=hr;exact False.elim hr
  |row row args=>obtain⟨v,w'',hr,_⟩:=h.2 (Frame.enter P 0 #[] .normal) [] (hF _);exact hr
  |round l f tmps assign body=>
   obtain⟨e,w'',hr,_⟩:=h.2.2 (Frame.enter P 0 #[] .normal) [] (hF _);cases e with
   |returned v=>exact hr
   |panicked c=>exact False.elim hr
   |outgrown=>obtain⟨_,_,hr⟩:=hr;exact False.elim hr
  |_=>exact False.elim h
section
variable{E:Env}(hE:uU E){N:Nat}{rec:Rec}(N0:FP E.P N rec)(I0:RecM rec)
variable{ops:Array Oper}{S:Nat->DS}{T:Nat->DR}(hc:HZ E rec ops S T)(Z0:(S ops.size).H.nx<=(S ops.size).H.nx)(z0:(S 0).A.nt<=1048576)(h0:∀id,(S 0).H.nx<=id->(S 0).H.get id=none)
variable{m:Nat}{β0:Pl}{w0:World}
include hE N0 I0 hc Z0 z0 h0
theorem take{D:Nat->Prop}(S1:∀i,i<ops.size->D i->∀b,Nat.testBit (mask ops i) b=true->D b){j:Nat}(hj:j<ops.size)(Q5:¬D j)(hp:∀b,Nat.testBit (mask ops j) b=true->D b)(hf:∀i,i<j->Fact S T i)
  {β:Pl} {a:Act} {w:World} (h:St ops S T m β0 w0 D β a w) {rB:Option Nat} {Q:Exit->Act->World->Prop} {K:Act->World->Prop}
  (hK:∀v w',Fact S T j->(∃β',St ops S T m β0 w0 (λi=>D i\/i=j) β' (a.put (dst ops j) v) w')->K (a.put (dst ops j) v) w'):wpOpIn (fen rB) 0 E.P ops Q j K a w:=by
 obtain⟨o,ho⟩:=jl hj;obtain⟨hwfj,_⟩:=law hc I0 Z0 (h0:=h0) (k:=j) aa hf;have S3:=XO hc I0 Z0 S1 hj Q5 hp (h0:=h0) hf;have T_:∀id x,(T j).sub.get id=some x->id<(S j).H.nx:=λid x hx=>by
  have:=(kZ hc I0 Z0 hj ho hx).2.2.1;rcases cL id (S j).H.nx with hh|hh
  ·exact hh
  rw[hwfj id hh]at this;cases this
 have hR:=h.rel hj Q5 S3 T_;have hstep:=λ{v w'}ho=>St.step (v:=v) (w':=w') hc I0 z0 h hj Q5 S3 T_ (aaO hc I0 Z0 S1 hj Q5) (aaP hc S1 Q5) ho;have hm1:(T j).H'.nx<=(T j).H'.nx:=ai _;have hslots:∀t∈slotsOf ops o,(ovT ops S T D ops.size).tm.get t=(S j).A.tm.get t:=λt ht=>XP hc z0 S1 hj Q5 hp ho ht;have hA:kL β ⟨(ovT ops S T D ops.size).tm,(S 0).A.nt,(S 0).A.dfr⟩ a:=⟨h.tm,h.df⟩;have hwk:=Lw hslots;unfold wpOpIn;rw[ho];simp only
 have hd:=Ud ho;cases hr:(T j).ran with
 |true=>
  obtain⟨h1,_,h3,_⟩:=(hc.link j o ho).yes hr;have hw:Region.wanted o (yielded ops a.tmps)=true:=by
   have hk:=hwk (.ok []) (.bad "")
   rw[h1]at hk;rcases CB h.tm hk with⟨hw,_⟩|⟨_,hb⟩
   ·exact hw
   cases hb
  rw[ad hw];have hcong:(bf E.P o).run (ovT ops S T D ops.size).tm ⟨(T j).sub,(S j).H.nx,[]⟩=(bf E.P o).run (S j).A.tm ⟨(T j).sub,(S j).H.nx,[]⟩:=by refine No o λx hx=>Uo λt ht=>hslots t ?_;unfold slotsOf;subst ht;exact dC _ (List.mem_filterMap.2 ⟨.tmp t,hx,rfl⟩)
  have h3':mF E rec ⟨(T j).sub,(S j).H.nx,[]⟩ ((bf E.P o).run (ovT ops S T D ops.size).tm ⟨(T j).sub,(S j).H.nx,[]⟩)=.ok [((T j).av,(T j).H')]:=by rw[hcong];exact h3
  refine PD (A:=⟨(ovT ops S T D ops.size).tm,(S 0).A.nt,(S 0).A.dfr⟩) hE N0 I0 hm1 hR hA h3' (λx hx=>by rw[List.mem_singleton.1 hx];exact ai _) λv w' Z3=>?_;rw[<-hd];have:=hstep Z3;exact hK v w' this.1 this.2
 |false=>
  obtain⟨h1,h2,h3,h4,_⟩:=(hc.link j o ho).no hr;have hw:Region.wanted o (yielded ops a.tmps)=false:=by
   have hk:=hwk (.bad "") (.ok [])
   rw[h1]at hk;rcases CB h.tm hk with⟨_,hb⟩|⟨hw,_⟩
   ·cases hb
   exact hw
  rw[ab (by rw[hw];exact zA8)];refine⟨λ_ _=>trivial,?_⟩;rw[<-hd];have Z3:Out (T j).H'.nx β ⟨(T j).sub,(S j).H.nx,[]⟩ w [((T j).av,(T j).H')] undef w:=by
   refine⟨_,List.mem_singleton.2 rfl,β,?_,?_,?_⟩
   ·show AR β (T j).av undef;rw[h2];exact qy β
   ·show Rel _ β (T j).H' w;rw[h3]at hR;have e:(T j).H'=⟨.leaf,(S j).H.nx,[]⟩:=h4;rw[e];rw[e]at hR;exact hR
   show Ext β _ w β (T j).H' w;rw[h3,h4];exact Ext.refl _ _ _
  have:=hstep Z3;exact hK undef w this.1 this.2
theorem facts(m9:∃a,St ops S T m β0 w0 (λ_=>False) β0 a w0):∀k,k<=ops.size->(∀i,i<k->Fact S T i)/\∃β a w,St ops S T m β0 w0 (λi=>i<k) β a w
 |0,_=>by obtain⟨a,h⟩:=m9;have B0:∀k x,dst ops k=some x->x<x+1:=λk x h=>ba _;exact⟨λi hi=>aa,β0,a,w0,h.congr B0 λi _=>⟨False.elim,λh=>aa⟩⟩
 |k+1,hk=>by
  have B0:∀k x,dst ops k=some x->x<x+1:=λk x h=>ba _;obtain⟨hf,β,a,w,h⟩:=facts m9 k aa;have hs:=hc.stat;unfold iu at hs;rw[aV]at hs;have R_:∀i o,ops[i]?=some o->∀e∈o.after.toList,jq e=true->e.on<i:=λi o ho e he hu=>by have:=mE hs.2 i o (by simpa using ho) e he hu;omega
  obtain⟨ok,E0⟩:=jl (ops:=ops) (k:=k) aa;have S1:∀i,i<ops.size->i<k->∀b,Nat.testBit (mask ops i) b=true->b<k:=λi hi hik=>sN (D:=λi=>i<k) (λi o ho hd e he hu=>wY (R_ i o ho e he hu) hd) (i+1) i aa hi hik;have hp:∀b,Nat.testBit (mask ops k) b=true->b<k:=Kz (D:=λi=>i<k) (λi o ho hd e he hu=>wY (R_ i o ho e he hu) hd) E0 λe he hu=>R_ k ok E0 e he hu;have hwp:=take hE N0 I0 hc Z0 z0 h0 (D:=λi=>i<k) S1 (j:=k) aa aa hp hf h (rB:=none) (Q:=λ_ _ _=>False)
   (K:=λ_ _=>Fact S T k/\∃β a w,St ops S T m β0 w0 (λi=>i<k+1) β a w) λv w' h1⟨β',h2⟩=>⟨h1,β',_,_,h2.congr B0 λi _=>aa⟩
  have hX:Fact S T k/\∃β a w,St ops S T m β0 w0 (λi=>i<k+1) β a w:=by
   unfold wpOpIn at hwp;rw[E0]at hwp;simp only at hwp
   split at hwp
   ·exact Nr (λk d hd=>by simp[fen]at hd) w0 hwp.2
   exact hwp.2
  refine⟨λi hi=>?_,hX.2⟩;rcases cL i k with hh|hh
  ·exact hf i hh
  have:i=k:=aa;subst this;exact hX.1
theorem Qv(hf:∀i,i<ops.size->Fact S T i){rB:Option Nat}{Q:Exit->Act->World->Prop}(hQ:∀β a w,St ops S T m β0 w0 (λ_=>True) β a w->Q .normal a w):
  ∀(fuel:Nat)(listed:Array Bool)(β:Pl)(a:Act)(w:World),listed.size=ops.size->(∀i o,ops[i]?=some o->listed.getD i false=true->∀e∈o.after.toList,jq e=true->listed.getD e.on false=true) ->
   ((List.range ops.size).filter λi=>!listed.getD i false).length<=fuel->St ops S T m β0 w0 (λi=>listed.getD i false=true) β a w->wpAnyIn (fen rB) 0 E.P .any ops Q fuel listed a w:=by
 have B0:∀k x,dst ops k=some x->x<x+1:=λk x h=>ba _;have hbinds:∀e,Region.binds .any e=jq e:=λe=>by unfold Region.binds jq;cases e.ground<;>rfl
 have hs:=hc.stat;unfold iu at hs;rw[aV]at hs;have R_:∀i o,ops[i]?=some o->∀e∈o.after.toList,jq e=true->e.on<i:=λi o ho e he hu=>by have:=mE hs.2 i o (by simpa using ho) e he hu;omega
 have V2:∀(listed:Array Bool),listed.size=ops.size->Region.ready .any ops listed=[]->∀k i,i<k->i<ops.size->listed.getD i false=true:=by
  intro listed B2 hr k;induction k with
  |zero=>intro i hi;omega
  |succ k ih=>
   intro i hi hio;cases hl:listed.getD i false with
   |true=>rfl
   |false=>
    exfalso;obtain⟨o,ho⟩:=jl hio;have hlt':i<listed.size:=aa;have:i∈Region.ready .any ops listed:=mem_ready.2 ⟨by simp[hlt']at hl |-;exact hl,o,ho,λe he hb=>by rw[hbinds]at hb;have:=R_ i o ho e (by simpa using he) hb;exact ih e.on aa aa⟩
    rw[hr]at this;cases this
 intro fuel;induction fuel with
 |zero=>
  intro listed β a w B2 S1 hn h;have I6:(List.range ops.size).filter (λi=>!listed.getD i false)=[]:=List.eq_nil_of_length_eq_zero aa;have hD:∀i,i<ops.size->listed.getD i false=true:=λi hi=>by
   cases hl:listed.getD i false with
   |true=>rfl
   |false=>have:i∈(List.range ops.size).filter (λi=>!listed.getD i false):=List.mem_filter.2 ⟨List.mem_range.2 hi,by rw[hl];rfl⟩;rw[I6]at this;cases this
  refine⟨?_,hQ β a w (h.congr B0 λi hi=>⟨λ_=>trivial,λ_=>hD i hi⟩)⟩;cases hr:Region.ready .any ops listed with
  |nil=>rfl
  |cons i l=>
   have hi:i∈Region.ready .any ops listed:=by rw[hr];exact aT ..
   obtain⟨h1,o,ho,_⟩:=mem_ready.1 hi;have hio:i<ops.size:=(Array.getElem?_eq_some_iff.1 ho).1;have:=hD i hio;have hlt':i<listed.size:=aa;simp[hlt']at h1 this;rw[h1]at this;cases this
 |succ fuel ih=>
  intro listed β a w B2 S1 hn h;refine⟨λhr=>hQ β a w (h.congr B0 λi hi=>⟨λ_=>trivial,λ_=>V2 listed B2 hr (i+1) i aa hi⟩),λi hi=>?_⟩;obtain⟨h1,o,ho,he⟩:=mem_ready.1 hi;have hio:i<ops.size:=(Array.getElem?_eq_some_iff.1 ho).1;have hlt':i<listed.size:=aa;have hni:¬listed.getD i false=true:=by simp[hlt']at h1 |-;exact h1
  have hedge:∀e∈o.after.toList,jq e=true->listed.getD e.on false=true:=λe he' hu=>he e (by simpa using he') (by rw[hbinds];exact hu);have hclm:∀k,k<ops.size->listed.getD k false=true->∀b,Nat.testBit (mask ops k) b=true->listed.getD b false=true:=λk hk hd=>sN (D:=λi=>listed.getD i false=true) S1 (k+1) k aa hk hd;have hpm:=Kz (D:=λi=>listed.getD i false=true) S1 ho hedge;refine take hE N0 I0 hc Z0 z0 h0 (D:=λi=>listed.getD i false=true) hclm hio hni hpm (λk hk=>hf k aa) h λv w' _⟨β',h2⟩=>?_;have Y3:∀k,k<ops.size->((listed.setIfInBounds i true).getD k false=true↔(listed.getD k false=true\/k=i)):=λk hk=>by
   by_cases hki:k=i
   ·subst hki;simp[hlt']
   rw[getD_set_ne false (λhh=>hki hh.symm)];simp[hki]
  refine ih (listed.setIfInBounds i true) β' _ w' (by simp[B2]) (λk ok E0 hk e he' hu=>?_) ?_ (h2.congr B0 λk hk=>(Y3 k hk).symm)
  ·have hko:k<ops.size:=(Array.getElem?_eq_some_iff.1 E0).1;rcases(Y3 k hko).1 hk with hk|rfl
   ·exact getD_set_true (S1 k ok E0 hk e he' hu)
   rw[ho]at E0;cases E0
   exact getD_set_true (hedge e he' hu)
  
  have hlen:((List.range ops.size).filter λk=>!(listed.setIfInBounds i true).getD k false).length<((List.range ops.size).filter λk=>!listed.getD k false).length:=by
   have V1:(List.range ops.size).filter (λk=>!(listed.setIfInBounds i true).getD k false)=((List.range ops.size).filter λk=>!listed.getD k false).filter λk=>!Nat.beq k i:=by rw[List.filter_filter];refine List.filter_congr λk hk=>?_;have X3:=List.mem_range.1 hk;have:=Y3 k X3;cases h1:(listed.setIfInBounds i true).getD k false<;>cases h2:listed.getD k false<;>cases h3:Nat.beq k i<;>simp_all
   rw[V1];refine List.length_filter_lt_length_iff_exists.2 ⟨i,List.mem_filter.2 ⟨List.mem_range.2 hio,by simpa using hni⟩,by simp⟩
  omega
end
def IU{E:Env}(hE:uU E):SA E:=by
 intro N rec N0 I0 m β H w A a id ops rB outs hm hR hA hstat h hb;obtain⟨l,hl,hk⟩:=R.gi h;obtain⟨S,T,hs0,hlink,M5⟩:=IM ops.toList 0 _ _ _ _ _ hl;have B2:ops.toList.length=ops.size:=by simp
 rw[B2]at M5;have hc:HZ E rec ops S T:=⟨by rw[hs0],λk o ho=>by have:=hlink k o (by simpa using ho);rw[Nat.zero_add]at this;exact this,hstat⟩
 subst M5;obtain⟨o',D4,u_⟩:=hk _ (List.mem_singleton.2 rfl);cases D4
 have hx:=u_ _ (List.mem_singleton.2 rfl);have hnxm:(S ops.size).H.nx<=m:=hb _ hx;have Z0:(S ops.size).H.nx<=(S ops.size).H.nx:=ai _;have eA:(S 0).A=A:=by rw[hs0]
 have eH:(S 0).H=H:=by rw[hs0]
 have z0:(S 0).A.nt<=1048576:=by rw[eA];exact hA.tm.2.1
 have h0:∀id,(S 0).H.nx<=id->(S 0).H.get id=none:=by rw[eH];exact hR.wf
 have B0:∀k x,dst ops k=some x->x<x+1:=λk x h=>ba _;have l7:Rel m β H { w with drawn:=w.drawn+1 }:=hR.drew _;have hov:∀id,ovH S T (λ_=>False) ops.size id=H.get id:=λid=>by rw[zA (k:=0) aa λi _ _ h=>h.elim,<-eH];rfl
 have hovT:∀t,(ovT ops S T (λ_=>False) ops.size).tm.get t=A.tm.get t:=λt=>by rw[zC B0 (k:=0) aa λi _ _ h=>h.elim,<-eA];rfl
 have m9:St ops S T m β { w with drawn:=w.drawn+1 } (λ_=>False) β a { w with drawn:=w.drawn+1 }:=by
  refine{ tm:=?_,df:=by rw[eA];exact hA.df,obj:=λid o ho=>l7.obj id o (by rw[<-hov];exact ho),sep:=λid id' o o' g g' p p' h1 h2=>l7.sep id id' o o' g g' p p' (by rw[<-hov];exact h1) (by rw[<-hov];exact h2),
          fresh:=λj hj _ id g h1 h2=>?_,free:=λid g h1 h2=>?_,sub:=λ_ _ _ h=>h,loc:=λ_ _ _ h=>.inl h,size:=ai _,os:=rfl,tape:=rfl,output:=rfl,frame:=λ_ _ _=>rfl,
          prov:=λid o g p h1 h2 h3=>?_,dom:=λid o ho=>⟨o,by rw[hov,<-eH];exact ho⟩,old:=λid o ho=>.inl ⟨o,by rw[eH,<-hov];exact ho⟩,far:=λ_ _ _=>rfl }
  ·rw[eA];exact hA.tm.ext hovT
  ·have h3:=nJ hc I0 (i:=0) (k:=j) aa aa;have h4:=DE hc I0 hj (ai _);rw[eH]at h3;exact l7.free id g aa aa
  ·have h3:=nJ hc I0 (i:=0) (k:=ops.size) aa (ai _);rw[eH]at h3;exact l7.free id g aa h2
  rw[hov]at h1;exact .inr ⟨o,g,p,by rw[eH];exact h1,h2,h3,rfl,rfl⟩
 have hf:=(facts hE N0 I0 hc Z0 z0 h0 ⟨a,m9⟩ ops.size (ai _)).1;refine wpIn_region_any hE.mixed ?_;refine Qv hE N0 I0 hc Z0 z0 h0 hf (m:=m) (β0:=β) (w0:={ w with drawn:=w.drawn+1 }) (λβ' a' w' R3=>?_) ops.size _ β a _ (by simp) (λi o ho hl=>?_) ?_ (m9.congr B0 λi hi=>⟨False.elim,λhh=>?_⟩)
 ·obtain⟨T_,hlaw⟩:=law hc I0 Z0 (h0:=h0) (k:=ops.size) (ai _) hf;have e:∀id,ovH S T (λ_=>True) ops.size id=(S ops.size).H.get id:=λid=>(hlaw id).symm;have M8:=FT hc (k:=ops.size) (ai _);refine⟨_,hx,trivial,β',⟨?_,?_⟩,⟨λid o ho=>R3.obj id o (by rw[e];exact ho),λid id' o o' g g' p p' h1 h2=>R3.sep id id' o o' g g' p p' (by rw[e];exact h1) (by rw[e];exact h2),T_,R3.free⟩,?_⟩
  ·show TmR β' (S ops.size).A.tm (S ops.size).A.nt a'.tmps;rw[M8,Hc];exact R3.tm
  ·show qF β' (S ops.size).A.dfr a'.defers;rw[M8,GZ];exact R3.df
  have I':=nJ hc I0 (i:=0) (k:=ops.size) aa (ai _);rw[<-eH];have hlog:∀k,k<=ops.size->∃l,(S k).H.log=l++(S 0).H.log/\(∀id,id<(S 0).H.nx->id∉l->(S k).H.get id=(S 0).H.get id)/\∀i,i<k->∀id,id∈(T i).wr (S i)->id∈l:=by
   intro k;induction k with
   |zero=>intro _;exact⟨[],rfl,λ_ _ _=>rfl,λi hi=>aa⟩
   |succ k ih=>
    intro hk;obtain⟨l,K9,P6,hl3⟩:=ih aa;obtain⟨o,ho⟩:=jl (ops:=ops) (k:=k) aa;have hls:=JH hc I0 Z0 (k:=k) aa (hf k aa) (law hc I0 Z0 (h0:=h0) (k:=k) aa λi hi=>hf i aa).1;have O':=nJ hc I0 (i:=0) (k:=k) aa aa;cases hr:(T k).ran with
    |false=>
     rw[(pB hc ho hr).2.2.1];refine⟨l,K9,P6,λi hi id hid=>?_⟩;by_cases e:i=k
     ·subst e;exact absurd (.inl hid) (rZ hc ho hr id)
     exact hl3 i aa id hid
    |true=>
     obtain⟨_,_,_,_,h5,_⟩:=(hc.link k o ho).yes hr;refine⟨(T k).wr (S k)++l,by rw[h5,bL,<-K9],λid hid hn=>?_,λi hi id hid=>?_⟩
     ·rw[(hls id).2 ?_]
      ·exact P6 id hid λhh=>hn (du _ hh)
      rintro(ht|ht)
      ·exact hn (dC _ ht)
      omega
     by_cases e:i=k
     ·subst e;exact dC _ hid
     exact du _ (hl3 i aa id hid)
  refine{ sub:=R3.sub,loc:=R3.loc,size:=R3.size,os:=R3.os,tape:=R3.tape,output:=R3.output,frame:=R3.frame,prov:=λid o g p h1 h2 h3=>R3.prov id o g p (by rw[e];exact h1) h2 h3,nx:=I',log:=?_,far:=?_,
          dom:=λid o ho=>by obtain⟨o',D4⟩:=R3.dom id o ho;exact⟨o',by rw[<-e];exact D4⟩,old:=λid o ho=>R3.old id o (by rw[e];exact ho) }
  ·obtain⟨l0,e0,f0,g0⟩:=hlog ops.size (ai _);exact⟨l0,e0,f0⟩
  intro l hl b hb hn;obtain⟨l0,e0,f0,g0⟩:=hlog ops.size (ai _);have e:l=l0:=by have W9:(S ops.size).H.log=l++(S 0).H.log:=hl;rw[e0]at W9;exact(xQ W9).symm
  subst e;exact R3.far b hb λid o g p⟨i,h1,_,h3⟩=>hn id o g p (g0 i h1 id h3)
 ·exfalso;have hio:i<ops.size:=(Array.getElem?_eq_some_iff.1 ho).1;simp[hio]at hl
 ·exact aS (List.length_filter_le _ _) (by simp)
 simp[hi]at hh
def aaT:List UInt8->List UInt8->Bool:=
 λl=>List.rec (motive:=λ_=>List UInt8->Bool) (λm=>List.rec (motive:=λ_=>Bool) true (λ_ _ _=>false) m)
  (λx _ ih m=>List.rec (motive:=λ_=>Bool) false (λy m' _=>both (bEq x y) (ih m')) m) l
def aaC{a b:UInt8}(h:bEq a b=true):a=b:=UInt8.toNat_inj.1 (aO h)
def OD:∀{l m:List UInt8},aaT l m=true->l=m
 |[],[],_=>rfl
 |[],_::_,h=>by cases h
 |_::_,[],h=>by cases h
 |x::l,y::m,h=>by have h':both (bEq x y) (aaT l m)=true:=h;rw[er,aV]at h';rw[aaC h'.1,OD h'.2]
def Gs:List (Nat×Nat×Nat×Nat)->List (Nat×Nat×Nat×Nat)->Bool
 |[],[]=>true
 |(a,b,c,d)::l,(a',b',c',d')::m=>Nat.beq a a'&&(Nat.beq b b'&&(Nat.beq c c'&&(Nat.beq d d'&&Gs l m)))
 |_,_=>false
def DQ:∀{l m:List (Nat×Nat×Nat×Nat)},Gs l m=true->l=m
 |[],[],_=>rfl
 |[],_::_,h=>by cases h
 |_::_,[],h=>by cases h
 |(a,b,c,d)::l,(a',b',c',d')::m,h=>by unfold Gs at h;simp only[aV]at h;obtain⟨h1,h2,h3,h4,h5⟩:=h;rw[aO h1,aO h2,aO h3,aO h4,DQ h5]
def Ja:AO->AO->Bool
 |.str s,.str t=>aaT s t
 |.nilP,.nilP=>true
 |.nilS,.nilS=>true
 |.nilM,.nilM=>true
 |.wv,.wv=>true
 |.ptr a b c d,.ptr a' b' c' d'=>Nat.beq a a'&&(Nat.beq b b'&&(Nat.beq c c'&&Nat.beq d d'))
 |.sl a b c d e,.sl a' b' c' d' e'=>Nat.beq a a'&&(Nat.beq b b'&&(Nat.beq c c'&&(Nat.beq d d'&&Nat.beq e e')))
 |.mp a,.mp a'=>Nat.beq a a'
 |.clo f l,.clo f' l'=>Nat.beq f f'&&Gs l l'
 |_,_=>false
def Yt{x y:AO}(h:Ja x y=true):x=y:=by
 cases x<;>cases y<;>first|rfl|(simp only[Ja]at h;cases h;done)|skip
 ·simp only[Ja]at h;rw[OD h]
 ·simp only[Ja,aV]at h;obtain⟨h1,h2,h3,h4⟩:=h;rw[aO h1,aO h2,aO h3,aO h4]
 ·simp only[Ja,aV]at h;obtain⟨h1,h2,h3,h4,h5⟩:=h;rw[aO h1,aO h2,aO h3,aO h4,aO h5]
 ·simp only[Ja]at h;rw[aO h]
 simp only[Ja,aV]at h;rw[aO h.1,DQ h.2]
def QV:AC->AC->Bool
 |.b x,.b y=>bif x then y else !y
 |.i k n,.i k' n'=>sameKind k k'&&iEq n n'
 |.o x,.o y=>Ja x y
 |_,_=>false
def Oz{x y:AC}(h:QV x y=true):x=y:=by
 cases x with
 |b x=>cases y with
  |b y=>cases x<;>cases y<;>first|rfl|(simp only[QV]at h;cases h)
  |i _ _=>cases h
  |o _=>cases h
 |i k n=>cases y with|i k' n'=>simp only[QV,aV]at h;have h2:=h.2;rw[pv]at h2;rw[kY h.1,eq_of_beq h2]|b _=>cases h|o _=>cases h
 |o x=>cases y with|o y=>simp only[QV]at h;rw[Yt h]|b _=>cases h|i _ _=>cases h
def DP:List AC->List AC->Bool
 |[],[]=>true
 |x::l,y::m=>QV x y&&DP l m
 |_,_=>false
def vD:∀{l m:List AC},DP l m=true->l=m
 |[],[],_=>rfl
 |[],_::_,h=>by cases h
 |_::_,[],h=>by cases h
 |x::l,y::m,h=>by simp only[DP,aV]at h;rw[Oz h.1,vD h.2]
def OG:List (Bool×List AC)->List (Bool×List AC)->Bool
 |[],[]=>true
 |(a,l)::x,(b,m)::y=>(bif a then b else !b)&&(DP l m&&OG x y)
 |_,_=>false
def Jd:∀{l m:List (Bool×List AC)},OG l m=true->l=m
 |[],[],_=>rfl
 |[],_::_,h=>by cases h
 |_::_,[],h=>by cases h
 |(a,l)::x,(b,m)::y,h=>by
  simp only[OG,aV]at h;have:a=b:=by have h1:=h.1;cases a<;>cases b<;>first|rfl|cases h1
  rw[this,vD h.2.1,Jd h.2.2]
def Jb:AV->AV->Bool
 |.one x,.one y=>QV x y
 |.agg l,.agg m=>DP l m
 |.tup l,.tup m=>OG l m
 |_,.any=>true
 |_,_=>false
def OB{x y:AV}(h:Jb x y=true):x=y\/y=.any:=by
 cases x<;>cases y<;>first|exact .inr rfl|(simp only[Jb]at h;cases h;done)|skip
 ·simp only[Jb]at h;exact .inl (by rw[Oz h])
 ·simp only[Jb]at h;exact .inl (by rw[vD h])
 simp only[Jb]at h;exact .inl (by rw[Jd h])
def OC(x y:AV):Bool:=match y with|.any=>false|_=>Jb x y
def Jc{x y:AV}(h:OC x y=true):x=y:=by
 unfold OC at h;split at h
 ·cases h
 rename_i hn
 exact(OB h).resolve_right hn
def Yu:List cC->List cC->Bool
 |[],[]=>true
 |x::l,y::m=>OC x.key y.key&&(OC x.val y.val&&(Nat.beq x.born y.born&&Yu l m))
 |_,_=>false
def OE:∀{l m:List cC},Yu l m=true->l=m
 |[],[],_=>rfl
 |[],_::_,h=>by cases h
 |_::_,[],h=>by cases h
 |⟨a,b,c⟩::l,⟨a',b',c'⟩::m,h=>by simp only[Yu,aV]at h;obtain⟨h1,h2,h3,h4⟩:=h;rw[Jc h1,Jc h2,aO h3,OE h4]
def Be:aX->aX->Bool
 |.arr c e lo gen,.arr c' e' lo' gen'=>DP c c'&&(Nat.beq e e'&&(Nat.ble lo lo'&&(Nat.ble lo' gen'&&Nat.beq gen gen')))
 |.oth (.map es k),.oth (.map es' k')=>Yu es es'&&Nat.beq k k'
 |.oth (.dfr b),.oth (.dfr b')=>bif b then b' else !b'
 |_,_=>false
def FR(x y:aX):Prop:=x=y\/∃c e lo lo' gen,x=.arr c e lo gen/\y=.arr c e lo' gen/\lo<=lo'/\lo'<=gen
def Uj{x y:aX}(h:Be x y=true):FR x y:=by
 cases x with
 |arr c e lo gen=>cases y with|arr c' e' lo' gen'=>simp only[Be,aV]at h;obtain⟨h1,h2,h3,h4,h5⟩:=h;rw[vD h1,aO h2,aO h5];exact .inr ⟨_,_,_,_,_,rfl,rfl,bA h3,bA h4⟩|oth _=>cases h|ro _=>cases h
 |ro _=>cases y<;>cases h
 |oth x=>cases y with
  |arr _ _ _ _=>cases x<;>cases h
  |ro _=>cases x<;>cases h
  |oth y=>
   cases x<;>cases y<;>first|(simp only[Be]at h;cases h;done)|skip
   ·simp only[Be,aV]at h;rw[OE h.1,aO h.2];exact .inl rfl
   simp only[Be]at h;rename_i a b
   cases a<;>cases b<;>first|exact .inl rfl|cases h
def FR.ro{x y:aX}(h:FR x y):x.oU=y.oU:=by rcases h with rfl|⟨c,e,lo,lo',gen,rfl,rfl,h1,h2⟩<;>rfl
def FR.gen{x y:aX}(h:FR x y){g:Nat}(hg:fm y g):fm x g:=by
 rcases h with rfl|⟨c,e,lo,lo',gen,rfl,rfl,h1,h2⟩
 ·exact hg
 have Q2:lo'<=g/\g<=gen:=hg;exact⟨aa,Q2.2⟩
def FR.obj{x y:aX}(h:FR x y){β:Pl}{w:World}{id:Nat}(ho:ji β w id x):ji β w id y:=by
 rcases h with rfl|⟨c,e,lo,lo',gen,rfl,rfl,h1,h2⟩
 ·exact ho
 obtain⟨a1,a2,a3,a4⟩:=ho;exact⟨h2,λg b1 b2=>a2 g aa b2,λg g' p p' b1 b2 b3=>a3 g g' p p' aa b2 b3,a4⟩
def mkT{α:Type}(l:List (Nat×α)):PT α:=List.rec (motive:=λ_=>PT α) .leaf (λx _ ih=>ih.set x.1 x.2) l
def small{α:Type}(n:Nat):List (Nat×α)->Bool
 |[]=>true
 |x::l=>Nat.blt x.1 n&&small n l
def Gy{α:Type}{n:Nat}(hn:n<=2^40):∀{l:List (Nat×α)},small n l=true->∀{k:Nat}{a:α},(mkT l).get k=some a->k<n/\(k,a)∈l
 |[],_,k,a,h=>by cases h
 |x::l,hs,k,a,h=>by
  simp only[small,aV]at hs;have hx:x.1<n:=bA hs.1;have h':((mkT l).set x.1 x.2).get k=some a:=h;rw[PT.sV _ _ _ _ aa]at h';split at h'
  ·rename_i hk
   cases h'
   subst hk;exact⟨hx,aT ..⟩
  obtain⟨h1,h2⟩:=Gy hn hs.2 h';exact⟨h1,aR _ h2⟩
def wM(tm:PT AV)(t:Nat):AV:=aG (tm.get t) aQ λv=>v
def TW(tm tm':PT AV)(n:Nat):Bool:=Nat.rec (motive:=λ_=>Bool) true (λk ih=>both (Jb (wM tm k) (wM tm' k)) ih) n
def Ou{tm tm':PT AV}:∀{n:Nat},TW tm tm' n=true->∀k,k<n->wM tm k=wM tm' k\/wM tm' k=.any
 |0,_,k,h=>aa
 |n+1,h,k,hk=>by
  have h':both (Jb (wM tm n) (wM tm' n)) (TW tm tm' n)=true:=h;rw[er,aV]at h';by_cases e:k=n
  ·subst e;exact OB h'.1
  exact Ou h'.2 k aa
def TV(t:PT aX)(l:List (Nat×aX)):Bool:=List.rec (motive:=λ_=>Bool) true (λx _ ih=>both (aG (t.get x.1) false λo=>Be o x.2) ih) l
def Ot{t:PT aX}:∀{l:List (Nat×aX)},TV t l=true->∀x∈l,∃o,t.get x.1=some o/\FR o x.2
 |[],_,x,h=>by cases h
 |y::l,h,x,hx=>by
  have h':both (aG (t.get y.1) false λo=>Be o y.2) (TV t l)=true:=h;rw[er,aV]at h';rcases List.mem_cons.1 hx with rfl|hx
  ·cases hg:t.get x.1 with
   |none=>rw[hg]at h';cases h'.1
   |some o=>rw[hg]at h';exact⟨o,rfl,Uj h'.1⟩
  exact Ot h'.2 x hx
def spine:Code->List Code
 |.seq a b=>a::spine b
 |c=>[c]
def mK:List Code->Code
 |[]=>.skip
 |[c]=>c
 |c::l=>.seq c (mK l)
def WW:∀(c:Code),spine c≠[]
 |.seq a b=>by simp[spine]
 |.skip|.region ..|.cond ..|.block ..|.loop ..|.rangeFunc ..|.exit ..|.scope ..|.label ..|.goto ..|.ret|.refuse ..=>by simp[spine]
def vS:∀(c:Code),mK (spine c)=c
 |.seq a b=>by
  have h:=vS b;have hn:=WW b;show mK (a::spine b)=_;cases hs:spine b with
  |nil=>exact absurd hs hn
  |cons x l=>rw[hs]at h;show Code.seq a (mK (x::l))=_;rw[h]
 |.skip|.region ..|.cond ..|.block ..|.loop ..|.rangeFunc ..|.exit ..|.scope ..|.label ..|.goto ..|.ret|.refuse ..=>rfl
def mz(P:Program)(f:FuncId):List Code:=
 match P.funcs[f]? with
 |some fn=>match fn.body with|some c=>spine c|none=>[]
 |none=>[]
def nZ(P:Program)(f:FuncId):Nat:=match P.funcs[f]? with|some fn=>fn.ntmps|none=>0
def Wx(P:Program)(f:FuncId):List ResultVar:=match P.funcs[f]? with|some fn=>fn.results.toList|none=>[]
def Hn(E:Env)(rec:Rec)(l:List Code):ag->Hp->R (au×ag×Hp):=
 List.rec (motive:=λ_=>ag->Hp->R (au×ag×Hp)) (λa h=>.ok [(.normal,a,h)])
  (λc _ ih a h=>((codeF E c).run rec none a h).bind λx=>exE x.1 (ih x.2.1 x.2.2) (λ_=>.bad "piece - exit") (.bad "piece - return")) l
def aaz{α:Type}(p:α->Bool)(r:R α):Bool:=R.rec (motive:=λ_=>Bool) (λl=>List.rec (motive:=λ_=>Bool) true (λx _ ih=>both (p x) ih) l) (λ_=>false) r
def Od{α:Type}{p:α->Bool}{r:R α}(h:aaz p r=true):∃l,r=.ok l/\∀x∈l,p x=true:=by
 cases r with
 |bad s=>cases h
 |ok l=>
  refine⟨l,rfl,?_⟩;have h':List.rec (motive:=λ_=>Bool) true (λx _ ih=>both (p x) ih) l=true:=h;clear h;induction l with
  |nil=>intro x hx;cases hx
  |cons y l ih=>
   have h2:both (p y) (List.rec (motive:=λ_=>Bool) true (λx _ ih=>both (p x) ih) l)=true:=h';rw[er,aV]at h2;intro x hx;rcases List.mem_cons.1 hx with rfl|hx
   ·exact h2.1
   exact ih h2.2 x hx
structure Mark where
 slots:List (Nat×AV)
 objs:List (Nat×aX)
 nx:Nat
def Mark.hp(k:Mark):Hp:=⟨mkT k.objs,k.nx,[]⟩
def Mark.act(k:Mark)(nt:Nat):ag:=⟨mkT k.slots,nt,[]⟩
def Mark.fits(k:Mark)(nt:Nat):Bool:=Nat.ble nt 1048576&&(small nt k.slots&&(small k.nx k.objs&&Nat.ble k.nx 1099511627776))
def RH{α:Type}(l:List α):Bool:=List.rec (motive:=λ_=>Bool) true (λ_ _ _=>false) l
def Gi(k:Mark)(nt:Nat)(x:au×ag×Hp):Bool:=
 exE x.1 (both (Nat.beq x.2.1.nt nt) (both (Nat.ble x.2.2.nx k.nx) (both (TW x.2.1.tm (mkT k.slots) nt) (both (TV x.2.2.t k.objs) (RH x.2.1.dfr))))) (λ_=>false) false
def piece(E:Env)(n:Nat)(f:FuncId)(i d:Nat)(k k':Mark):Bool:=
 both (k'.fits (nZ E.P f)) (aaz (Gi k' (nZ E.P f)) (Hn E (eval E n) (((mz E.P f).drop i).take d) (k.act (nZ E.P f)) k.hp))
def EC(E:Env)(n:Nat)(f:FuncId)(i:Nat)(k:Mark):Bool:=
 aaz (λx:AV×Hp=>both (gj x.1 false λb=>b) (Nat.ble x.2.nx 1099511627776)) (((codeF E (mK ((mz E.P f).drop i))).run (eval E n) none (k.act (nZ E.P f)) k.hp).bind (aK E (Wx E.P f)))
def Grown(w w':World):Prop:=w'.os=w.os/\w'.tape=w.tape/\w'.output=w.output/\w.heap.size<=w'.heap.size/\∀b,b<w.heap.size->w'.heap[b]?=w.heap[b]?
structure At(E:Env)(f:FuncId)(k:Mark)(w0:World)(a:Act)(w:World):Prop where
 grown:Grown w0 w
 here:∃β,kL β (k.act (nZ E.P f)) a/\Rel (2^40) β k.hp w/\∀id o g p,k.hp.get id=some o->fm o g->β id g=some p->w0.heap.size<=p.b
def Js{β β':Pl}{H H':Hp}{w0 w w':World}(h:Grown w0 w)(hp:∀id o g p,H.get id=some o->fm o g->β id g=some p->w0.heap.size<=p.b)(hx:Ext β H w β' H' w'):Grown w0 w':=by obtain⟨h1,h2,h3,h4,h5⟩:=h;refine⟨hx.os.trans h1,hx.tape.trans h2,hx.output.trans h3,aS h4 hx.size,λb hb=>?_⟩;rw[hx.frame b aa λid o g p a b' c d=>?_,h5 b hb];have:=hp id o g p a b'.1 c;omega
def At.next{E:Env}{f:FuncId}{k k':Mark}{w0 w w':World}{a':Act}{β β':Pl}(hg:Grown w0 w)(hp:∀id o g p,k.hp.get id=some o->fm o g->β id g=some p->w0.heap.size<=p.b)
  (I4:k'.fits (nZ E.P f)=true) {x:au×ag×Hp} (c_:Gi k' (nZ E.P f) x=true) (hA:kL β' x.2.1 a') (hR:Rel (2^40) β' x.2.2 w') (hx:Ext β k.hp w β' x.2.2 w'):x.1=.normal/\At E f k' w0 a' w':=by
 obtain⟨e,A,H⟩:=x;unfold Gi at c_;cases e with
 |exit i=>cases c_
 |ret=>cases c_
 |normal=>
  refine⟨rfl,Js hg hp hx,β',?_⟩;have hchk':both (Nat.beq A.nt (nZ E.P f)) (both (Nat.ble H.nx k'.nx) (both (TW A.tm (mkT k'.slots) (nZ E.P f)) (both (TV H.t k'.objs) (RH A.dfr))))=true:=c_;simp only[er,aV]at hchk';obtain⟨h0,h1,h2,h3,h4⟩:=hchk';have z0:A.nt=nZ E.P f:=aO h0;simp only[Mark.fits,aV]at I4;obtain⟨f1,f2,f3,f4⟩:=I4;have f1':nZ E.P f<=1048576:=bA f1;have f4':k'.nx<=1099511627776:=bA f4;have S0:H.nx<=k'.nx:=bA h1;have D3:∀id o,k'.hp.get id=some o->(∃o1,H.get id=some o1/\FR o1 o)/\id<k'.nx:=λid o ho=>by obtain⟨g1,g2⟩:=Gy (n:=k'.nx) aa f3 (k:=id) (a:=o) ho;exact⟨Ot h3 _ g2,g1⟩
  refine⟨⟨⟨?_,f1',λt=>?_⟩,?_⟩,⟨λid o ho=>?_,λid id' o o' g g' p p' a b c d=>?_,λid hid=>?_,λid g a b=>hR.free id g (aS S0 a) b⟩,
   λid o g p a b c=>?_⟩
  ·have:=hA.tm.1;rw[this];exact z0
  ·have hAt:=hA.tm.2.2 t;show AR β' (wM (mkT k'.slots) t) _;rcases cL t (nZ E.P f)with ht|ht
   ·rcases Ou h2 t ht with e|e
    ·rw[<-e];exact hAt
    rw[e];trivial
   have B2:a'.tmps.size=nZ E.P f:=by have:=hA.tm.1;rw[this];exact z0
   have hu:a'.tmps.getD t undef=undef:=by simp only[uS];rw[Array.getElem?_eq_none aa];rfl
   rw[hu];unfold wM;cases Q2:(mkT k'.slots).get t with
   |none=>exact qy β'
   |some v=>have:=(Gy (n:=nZ E.P f) aa f2 Q2).1;omega
  ·have hd:A.dfr=[]:=by
    have h4':RH A.dfr=true:=h4;cases hdd:A.dfr with
    |nil=>rfl
    |cons _ _=>rw[hdd]at h4';cases h4'
   have:=hA.df;have e:(⟨mkT k'.slots,nZ E.P f,[]⟩:ag).dfr=A.dfr:=hd.symm;show qF β' (⟨mkT k'.slots,nZ E.P f,[]⟩:ag).dfr a'.defers;rw[e];exact this
  ·obtain⟨⟨o1,g1,g2⟩,_⟩:=D3 id o ho;exact g2.obj (hR.obj id o1 g1)
  ·obtain⟨⟨o1,g1,g2⟩,_⟩:=D3 id o a;obtain⟨⟨o2,g3,g4⟩,_⟩:=D3 id' o' b;rw[<-g2.ro,<-g4.ro];exact hR.sep id id' o1 o2 g g' p p' g1 g3 (g2.gen c) (g4.gen d)
  ·cases Q2:k'.hp.get id with
   |none=>rfl
   |some o=>have:=(D3 id o Q2).2;have U4:k'.nx<=id:=hid;omega
  obtain⟨⟨o1,g1,g2⟩,_⟩:=D3 id o a;rcases hx.prov id o1 g p g1 (g2.gen b) c with h|⟨o0,g0,p0,a1,a2,a3,a4⟩
  ·have:=hg.2.2.2.1;omega
  have:=hp id o0 g0 p0 a1 a2 a3;omega
section
variable{E:Env}(hE:uU E)
include hE
omit hE in
theorem Fv{rec:Rec}(N0:RecM rec):∀(l:List Code)(a:ag)(h:Hp),RG h.nx nE (Hn E rec l a h)
 |[],a,h=>RG.one (ai _)
 |c::l,a,h=>RG.bind (nx:=nE) (vC N0 c none a h) λx hx=>rz ((Fv N0 l _ _).le hx) (λ_=>RG.bad) RG.bad
omit hE in
theorem JB(c:Code){l:List Code}(h:l≠[]):mK (c::l)=.seq c (mK l):=by
 cases l with
 |nil=>exact absurd rfl h
 |cons x l=>rfl
theorem WG{n:Nat}{Q:Exit->Act->World->Prop}{t:List Code}(ht:t≠[]):∀(l:List Code){β:Pl}{H:Hp}{w:World}{A:ag}{a:Act}{outs:List (au×ag×Hp)},Rel (2^40) β H w->kL β A a ->
  Hn E (eval E n) l A H=.ok outs->(∀x∈outs,nE x<=2^40)->(∀x∈outs,x.1=.normal)->(∀a' w',gZ (2^40) β H w outs .normal a' w'->(mK t).wpIn (fen none) 0 E.P Q a' w')->(mK (l++t)).wpIn (fen none) 0 E.P Q a w
 |[],β,H,w,A,a,outs,hR,hA,h,hb,hn,hQ=>by
  cases h
  exact hQ a w ⟨_,List.mem_singleton.2 rfl,trivial,β,hA,hR,Ext.refl _ _ _⟩
 |c::l,β,H,w,A,a,outs,hR,hA,h,hb,hn,hQ=>by
  have h':((codeF E c).run (eval E n) none A H).bind (λx=>exE x.1 (Hn E (eval E n) l x.2.1 x.2.2) (λ_=>.bad "piece - exit") (.bad "piece - return"))=.ok outs:=h
  obtain⟨zs,hz,hk⟩:=R.gi h';have Q0:l++t≠[]:=by simp[ht]
  show(mK (c::(l++t))).wpIn (fen none) 0 E.P Q a w;rw[JB c Q0];have hbz:∀z∈zs,nE z<=2^40:=λz hz=>by obtain⟨o,ho,hs⟩:=hk z hz;exact RG.rR (k:=nE z) (nx:=nE) (rz (Fv (pq E n) l _ _) (λ_=>RG.bad) RG.bad) ho hs hb
  refine wpIn_seq (Go.wpIn_mono (vB hE (IU hE) (vG hE (IU hE) n) (pq E n) c (r:=none) (rB:=none) (ai _) hR hA rfl hz hbz).1 λe a1 w1 hp=>?_);obtain⟨z,hzm,N8,β1,X8,l7,I1⟩:=hp;obtain⟨o,ho,hs⟩:=hk z hzm;rcases sR ho with⟨U6,h1⟩|⟨i,U6,h1⟩|⟨U6,h1⟩
  ·rw[N8.normal U6];exact WG ht l l7 X8 h1 (λq hq=>hb q (hs q hq)) (λq hq=>hn q (hs q hq)) λa' w' u7=>hQ a' w' (u7.ext I1 hs)
  ·cases h1
  cases h1
def NW(w0:World)(e:Ending)(w:World):Prop:=e=.returned (.bool true)/\Grown w0 w
def Good(E:Env)(f:FuncId)(fn:Func)(w0:World)(i:Nat)(k:Mark):Prop:=
 ∀a w,At E f k w0 a w->(mK ((mz E.P f).drop i)).wpIn (fen none) 0 E.P (bodyPostM Fence.wide 0 E.P fn (NW w0)) a w
theorem BZ{n:Nat}{f:FuncId}{fn:Func}{w0:World}{i d:Nat}{k k':Mark}(h:piece E n f i d k k'=true)(hl:i+d<(mz E.P f).length)(hg:Good E f fn w0 (i+d) k'):Good E f fn w0 i k:=by
 intro a w J0;unfold piece at h;rw[er,aV]at h;obtain⟨I4,h⟩:=h;obtain⟨outs,hr,c_⟩:=Od h;obtain⟨W0,β,hA,hR,hp⟩:=J0;have hfit4:k'.nx<=1099511627776:=by simp only[Mark.fits,aV]at I4;exact bA I4.2.2.2
 have hnorm:∀x∈outs,x.1=.normal/\nE x<=k'.nx:=λx hx=>by
  have hc:=c_ x hx;unfold Gi at hc;cases O0:x.1 with
  |exit i=>rw[O0]at hc;cases hc
  |ret=>rw[O0]at hc;cases hc
  |normal=>rw[O0]at hc;have o_:both (Nat.beq x.2.1.nt (nZ E.P f)) (both (Nat.ble x.2.2.nx k'.nx) (both (TW x.2.1.tm (mkT k'.slots) (nZ E.P f)) (both (TV x.2.2.t k'.objs) (RH x.2.1.dfr))))=true:=hc;simp only[er,aV]at o_;exact⟨rfl,bA o_.2.1⟩
 have hsplit:(mz E.P f).drop i=((mz E.P f).drop i).take d++(mz E.P f).drop (i+d):=by rw[<-js,sF]
 rw[hsplit];have Q0:(mz E.P f).drop (i+d)≠[]:=by
  intro e;have:=congrArg List.length e;simp at this
  omega
 refine WG hE Q0 _ hR hA hr (λx hx=>aS (hnorm x hx).2 hfit4) (λx hx=>(hnorm x hx).1) λa' w' M_=>?_;obtain⟨x,hx,_,β',hA',i',I1⟩:=M_;exact hg a' w' (At.next W0 hp I4 (c_ x hx) hA' i' I1).2
theorem YL{n:Nat}{f:FuncId}{fn:Func}(hf:E.P.funcs[f]?=some fn){w0:World}{i:Nat}{k:Mark}(h:EC E n f i k=true):Good E f fn w0 i k:=by
 intro a w J0;obtain⟨outs,hr,c_⟩:=Od h;obtain⟨W0,β,hA,hR,hp⟩:=J0;have V5:Wx E.P f=fn.results.toList:=by unfold Wx;rw[hf]
 rw[V5]at hr;obtain⟨zs,hz,hk⟩:=R.gi hr;have V2:∀x∈outs,x.1=.one (.b true)/\nV x<=2^40:=λx hx=>by
  have hc:=c_ x hx;rw[er,aV]at hc;refine⟨?_,bA hc.2⟩;have h1:=hc.1;obtain⟨v,H⟩:=x;cases v with
  |one c=>cases c with
   |b b=>cases b with|true=>rfl|false=>cases h1
   |i _ _=>cases h1
   |o _=>cases h1
  |agg _=>cases h1
  |tup _=>cases h1
  |any=>cases h1
 have hbz:∀z∈zs,nE z<=2^40:=λz hz=>by obtain⟨o,ho,hs⟩:=hk z hz;exact RG.rR (um (ai _)) ho hs λx hx=>(V2 x hx).2
 refine Go.wpIn_mono (vB hE (IU hE) (vG hE (IU hE) n) (pq E n) _ (r:=none) (rB:=none) (ai _) hR hA rfl hz hbz).1 λe a1 w1 M_=>?_;obtain⟨z,hzm,N8,β1,X8,l7,I1⟩:=M_;obtain⟨o,ho,hs⟩:=hk z hzm;have I':∀e w',oC (2^40) β k.hp w outs e w'->NW w0 e w':=by rintro e w' ⟨v,rfl,x,hx,β2,hv,_,V6⟩;rw[(V2 x hx).1]at hv;have I5:v=.bool true:=hv;subst I5;exact⟨rfl,Js W0 hp V6⟩
 exact AN (E:=E) (ai _) N8 X8 l7 I1 (hbz z hzm) ho hs I'
omit hE in
theorem CU{f:FuncId}{fn:Func}(hf:E.P.funcs[f]?=some fn)(hb0:fn.body.isSome=true)(hnt0:Nat.ble fn.ntmps 1048576=true){w0:World}(h:Good E f fn w0 0 ⟨[],[],0⟩):Calls E.P f #[] w0 (NW w0):=by
 obtain⟨c,hb⟩:=Option.isSome_iff_exists.1 hb0;have z0:fn.ntmps<=1048576:=bA hnt0;have Q_:mz E.P f=spine c:=by unfold mz;rw[hf];simp only[hb]
 have hn:nZ E.P f=fn.ntmps:=by unfold nZ;rw[hf]
 refine(callsIn_wide (n:=0)).1 (callsIn_of_wp_marks hf hb trivial ?_);have h0:=h { tmps:=#[]++Array.replicate (fn.ntmps-(#[]:Array Value).size) undef,defers:=[] } w0 ⟨⟨rfl,rfl,rfl,ai _,λ_ _=>rfl⟩,λ_ _=>none,⟨?_,trivial⟩,⟨λid o ho=>(by cases ho),λid _ o _ _ _ _ _ ho=>(by cases ho),λ_ _=>rfl,λ_ _ _ _=>rfl⟩,λid o _ _ ho=>(by cases ho)⟩
 ·rw[List.drop_zero,Q_,vS]at h0;exact h0
 have:=Of (β:=λ_ _=>none) (nt:=fn.ntmps) z0 (args:=[]) (vs:=[]) trivial (Nat.zero_le _);show TmR _ (mkT []) (nZ E.P f) _;rw[hn];exact this
end
end Go.Eng
end
