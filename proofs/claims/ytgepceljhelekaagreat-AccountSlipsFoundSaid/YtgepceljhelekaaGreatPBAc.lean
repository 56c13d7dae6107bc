/- A part of the proof. -/
import Derived.Test.YtgepceljhelekaaGreatPBAb
set_option maxRecDepth 100000
set_option maxHeartbeats 64000000
set_option linter.all false
noncomputable section
namespace Go.Eng
open Go
structure DS where
 A:ag
 H:Hp
 did:List Did
structure DR where
 ran:Bool
 av:AV
 sub:PT aX
 H':Hp
def DR.wr(r:DR)(s:DS):List Nat:=eF r.sub s.H.nx r.H'.log
def yb(A:ag)(d:Option Tmp)(v:AV):ag:=match d with|none=>A|some d=>A.put d v
structure VV(E:Env)(rec:Rec)(ops:Array Oper)(j:Nat)(o:Oper)(m:Nat)(s s':DS)(r:DR):Prop where
 slot:∀d,o.dst=some d->d<s.A.nt
 act:s'.A=yb s.A o.dst r.av
 yes:r.ran=true->(∀y n:R (ag×Hp),cy s.A.tm (gOf ops.toList o.guard) y n=y)/\r.sub=bk s.H.t s.H.nx s.A.tm o (bf m s.did) /\
  Ti E rec s.A.tm ⟨r.sub,s.H.nx,[]⟩ (aQ E.P o)=.ok [(r.av,r.H')]/\gq (bf m s.did) (r.wr s)=true /\
  s'.H=⟨dU (bS o) s.H r.H' (bf m s.did) (r.wr s),r.H'.nx,r.wr s++s.H.log⟩/\s'.did=note (bS o) j r.sub s.H r.H' s.did (r.wr s)
 no:r.ran=false->(∀y n:R (ag×Hp),cy s.A.tm (gOf ops.toList o.guard) y n=n)/\r.av=aP/\r.sub=.leaf/\r.H'=⟨.leaf,s.H.nx,[]⟩/\s'.H=s.H/\s'.did=s.did
def KF{tm:PT AV}{g:Option (Option Tmp×Bool)}{yes no:R (ag×Hp)}{outs:List (ag×Hp)}(h:cy tm g yes no=.ok outs):
  ((∀y n:R (ag×Hp),cy tm g y n=y)/\yes=.ok outs)\/((∀y n:R (ag×Hp),cy tm g y n=n)/\no=.ok outs):=by
 cases g with
 |none=>exact .inl ⟨λ_ _=>rfl,h⟩
 |some p=>
  obtain⟨t,w⟩:=p;cases t with
  |none=>exact .inr ⟨λ_ _=>rfl,h⟩
  |some t=>
   cases hv:tm.get t with
   |none=>
    have e:∀y n:R (ag×Hp),cy tm (some (some t,w)) y n=n:=λy n=>by simp[cy,aB,hv]
    exact .inr ⟨e,by rw[e]at h;exact h⟩
   |some v=>
    have e:∀y n:R (ag×Hp),cy tm (some (some t,w)) y n=AV.rec (motive:=λ_=>R (ag×Hp)) (λc=>acE c (λb=>ifE b (ifE w y n) (ifE w n y)) (λ_ _=>n) (λ_=>.bad "guard")) (λ_=>n) (λ_=>n) (.bad "guard") v:=
     λy n=>by simp[cy,aB,hv]
    rw[e]at h;cases v with
    |one c=>
     cases c with
     |b b=>cases b<;>cases w<;>first|exact .inl ⟨λy n=>e y n,h⟩|exact .inr ⟨λy n=>e y n,h⟩
     |i k n=>exact .inr ⟨λy n=>e y n,h⟩
     |o q=>cases h
    |agg l=>exact .inr ⟨λy n=>e y n,h⟩
    |tup l=>exact .inr ⟨λy n=>e y n,h⟩
    |any=>cases h
def Bo{a:ag}{dst:Option Tmp}{v:AV}{h:Hp}{k:ag->Hp->R (ag×Hp)}{outs:List (ag×Hp)}(hk:iJ a dst v h k=.ok outs):(∀d,dst=some d->d<a.nt)/\k (yb a dst v) h=.ok outs:=by
 cases dst with
 |none=>exact⟨λd hd=>(by cases hd),hk⟩
 |some d=>
  have J4:ifE (Nat.blt d a.nt) (k (a.put d v) h) (.bad "slot")=.ok outs:=hk
  rw[cG]at J4;split at J4
  ·rename_i hd
   exact⟨λd' hd'=>by cases hd';exact aY hd,J4⟩
  cases J4
def HM{E:Env}{rec:Rec}{ops:Array Oper}:∀(l:List Oper)(j:Nat)(ms:List Nat)(did:List Did)(A:ag)(H:Hp)(outs:List (ag×Hp)),dH E rec (iT E.P ops.toList l) j ms did A H=.ok outs ->
  ∃(S:Nat->DS)(T:Nat->DR),S 0=⟨A,H,did⟩/\(∀k o,l[k]?=some o->VV E rec ops (j+k) o (ms.getD k 0) (S k) (S (k+1)) (T k))/\outs=[((S l.length).A,(S l.length).H)]
 |[],j,ms,did,A,H,outs,h=>by
  cases h
  exact⟨λ_=>⟨A,H,did⟩,λ_=>⟨false,aP,.leaf,H⟩,rfl,λk o h=>by simp at h,rfl⟩
 |o::l,j,[],did,A,H,outs,h=>by cases h
 |o::l,j,m::ms,did,A,H,outs,h=>by
  have h':cy A.tm (gOf ops.toList o.guard)
    (Ai (bS o) j A o.dst H (bk H.t H.nx A.tm o (bf m did)) (bf m did) did (dH E rec (iT E.P ops.toList l) (Nat.add j 1) ms) (Ti E rec A.tm ⟨bk H.t H.nx A.tm o (bf m did),H.nx,[]⟩ (aQ E.P o)))
    (iJ A o.dst aP H (dH E rec (iT E.P ops.toList l) (Nat.add j 1) ms did))=.ok outs:=h
  have e1:∀k,Nat.add j 1+k=j+(k+1):=λk=>by show j+1+k=_;omega
  have key:∀(s':DS)(r:DR),VV E rec ops j o m ⟨A,H,did⟩ s' r->dH E rec (iT E.P ops.toList l) (Nat.add j 1) ms s'.did s'.A s'.H=.ok outs ->
    ∃(S:Nat->DS)(T:Nat->DR),S 0=⟨A,H,did⟩/\(∀k o',(o::l)[k]?=some o'->VV E rec ops (j+k) o' ((m::ms).getD k 0) (S k) (S (k+1)) (T k))/\outs=[((S (o::l).length).A,(S (o::l).length).H)]:=by
   intro s' r hl hr;obtain⟨S,T,h0,h1,h2⟩:=HM l (Nat.add j 1) ms s'.did s'.A s'.H outs hr;refine⟨λk=>match k with|0=>⟨A,H,did⟩|k+1=>S k,λk=>match k with|0=>r|k+1=>T k,rfl,λk o' ho=>?_,h2⟩;cases k with
   |zero=>
    simp at ho
    subst ho;have:S 0=s':=by rw[h0]
    simpa [this]using hl
   |succ k=>have:=h1 k o' (by simpa using ho);rw[e1]at this;simpa using this
  rcases KF h' with⟨hw,hy⟩|⟨hw,hn⟩
  ·cases hx:Ti E rec A.tm ⟨bk H.t H.nx A.tm o (bf m did),H.nx,[]⟩ (aQ E.P o)with
   |bad s=>rw[hx]at hy;cases hy
   |ok xs=>
    rw[hx]at hy;cases xs with
    |nil=>cases hy
    |cons x xs=>
     cases xs with
     |cons _ _=>cases hy
     |nil=>
      have hy':ifE (gq (bf m did) (eF (bk H.t H.nx A.tm o (bf m did)) H.nx x.2.log))
       (iJ A o.dst x.1 ⟨dU (bS o) H x.2 (bf m did) (eF (bk H.t H.nx A.tm o (bf m did)) H.nx x.2.log),x.2.nx,eF (bk H.t H.nx A.tm o (bf m did)) H.nx x.2.log++H.log⟩
        (dH E rec (iT E.P ops.toList l) (Nat.add j 1) ms (note (bS o) j (bk H.t H.nx A.tm o (bf m did)) H x.2 did (eF (bk H.t H.nx A.tm o (bf m did)) H.nx x.2.log))))
       (.bad "draw - two operations that may change places touch one object")=.ok outs:=hy
      rw[cG]at hy';split at hy'
      ·rename_i hf
       obtain⟨hs,hk⟩:=Bo hy';refine key ⟨yb A o.dst x.1,_,_⟩ ⟨true,x.1,bk H.t H.nx A.tm o (bf m did),x.2⟩ ⟨hs,rfl,λ_=>⟨hw,rfl,?_,hf,rfl,rfl⟩,λh=>(by cases h)⟩ hk;exact hx
      cases hy'
  obtain⟨hs,hk⟩:=Bo hn;exact key ⟨yb A o.dst aP,H,did⟩ ⟨false,aP,.leaf,⟨.leaf,H.nx,[]⟩⟩ ⟨hs,rfl,λh=>(by cases h),λ_=>⟨hw,rfl,rfl,rfl,rfl,rfl⟩⟩ hk
structure GS(E:Env)(rec:Rec)(ops:Array Oper)(S:Nat->DS)(T:Nat->DR):Prop where
 first:(S 0).did=[]
 link:∀k o,ops[k]?=some o->VV E rec ops k o ((fE [] 0 ops.toList).getD k 0) (S k) (S (k+1)) (T k)
 stat:fY ops=true
def dst(ops:Array Oper)(k:Nat):Option Tmp:=match ops[k]? with|some o=>o.dst|none=>none
def mask(ops:Array Oper)(k:Nat):Nat:=(fE [] 0 ops.toList).getD k 0
def eB(S:Nat->DS)(T:Nat->DR)(k id:Nat):Prop:=id∈(T k).wr (S k)\/((S k).H.nx<=id/\id<(T k).H'.nx)
structure Fact(S:Nat->DS)(T:Nat->DR)(k:Nat):Prop where
 dom:∀id o,(T k).sub.get id=some o->∃o',(T k).H'.get id=some o'
 old:∀id o',(T k).H'.get id=some o'->(∃o,(T k).sub.get id=some o)\/((S k).H.nx<=id/\id<(T k).H'.nx)
 log:∀id,id<(S k).H.nx->id∉(T k).wr (S k)->(T k).H'.get id=(T k).sub.get id
open Classical in
def ovH(S:Nat->DS)(T:Nat->DR)(D:Nat->Prop):Nat->Nat->Option aX
 |0,id=>(S 0).H.get id
 |k+1,id=>if D k/\eB S T k id then(T k).H'.get id else ovH S T D k id
open Classical in
def ovT(ops:Array Oper)(S:Nat->DS)(T:Nat->DR)(D:Nat->Prop):Nat->ag
 |0=>(S 0).A
 |k+1=>if D k then yb (ovT ops S T D k) (dst ops k) (T k).av else ovT ops S T D k
section
variable{S:Nat->DS}{T:Nat->DR}
def yF{D:Nat->Prop}{k id:Nat}(h:D k)(h':eB S T k id):ovH S T D (k+1) id=(T k).H'.get id:=by unfold ovH;exact ad ⟨h,h'⟩
def sv{D:Nat->Prop}{k id:Nat}(h:D k->¬eB S T k id):ovH S T D (k+1) id=ovH S T D k id:=by
 conv=>lhs;unfold ovH
 exact ab λhh=>h hh.1 hh.2
def mr{ops:Array Oper}{D:Nat->Prop}{k:Nat}(h:D k):ovT ops S T D (k+1)=yb (ovT ops S T D k) (dst ops k) (T k).av:=by
 conv=>lhs;unfold ovT
 exact ad h
def sw{ops:Array Oper}{D:Nat->Prop}{k:Nat}(h:¬D k):ovT ops S T D (k+1)=ovT ops S T D k:=by
 conv=>lhs;unfold ovT
 exact ab h
def nT{D D':Nat->Prop}{id:Nat}:∀{n:Nat},(∀i,i<n->eB S T i id->(D i↔D' i))->ovH S T D n id=ovH S T D' n id
 |0,_=>rfl
 |n+1,h=>by
  have ih:=nT (D:=D) (D':=D') (id:=id) (n:=n) λi hi=>h i aa;by_cases ht:eB S T n id
  ·have:=h n aa ht;by_cases hd:D n
   ·rw[yF hd ht,yF (this.1 hd) ht]
   rw[sv λh=>absurd h hd,sv λh=>absurd (this.2 h) hd,ih]
  rw[sv λ_=>ht,sv λ_=>ht,ih]
def yE{D:Nat->Prop}{id k:Nat}:∀{n:Nat},k<=n->(∀i,k<=i->i<n->D i->¬eB S T i id)->ovH S T D n id=ovH S T D k id
 |0,hk,_=>by have:k=0:=aa
             subst this;rfl
 |n+1,hk,h=>by
  by_cases hkn:k=n+1
  ·subst hkn;rfl
  rw[sv λhd=>h n aa aa hd];exact yE aa λi h1 h2=>h i h1 aa
def XH{D:Nat->Prop}{id j:Nat}:∀{n:Nat},j<n->(eB S T j id->∀i,j<i->i<n->D i->¬eB S T i id)->(eB S T j id->ovH S T (λi=>D i\/i=j) n id=(T j).H'.get id)/\(¬eB S T j id->ovH S T (λi=>D i\/i=j) n id=ovH S T D n id):=by
 intro n hj h;refine⟨λht=>?_,λht=>?_⟩
 ·rw[yE (k:=j+1) aa λi h1 h2 hd=>?_]
  ·exact yF (.inr rfl) ht
  rcases hd with hd|rfl
  ·exact h ht i aa h2 hd
  omega
 refine nT λi hi W6=>?_;refine⟨λhd=>hd.elim (λh=>h) λhe=>?_,.inl⟩;subst he;exact absurd W6 ht
variable{ops:Array Oper}
def XW(A:ag)(d:Option Tmp)(v:AV):(yb A d v).nt=A.nt:=by cases d<;>rfl
def US(A:ag)(d:Option Tmp)(v:AV):(yb A d v).dfr=A.dfr:=by cases d<;>rfl
def nX{A:ag}{d:Option Tmp}{v:AV}(hd:∀x,d=some x->x<x+1)(t:Nat):(yb A d v).tm.get t=if d=some t then some v else A.tm.get t:=by
 cases d with
 |none=>simp[yb]
 |some x=>
  show(A.tm.set x v).get t=_;rw[PT.sb _ _ _ _ (hd x rfl)];by_cases h:t=x
  ·subst h;simp
  rw[ab h,ab (by simpa usingλe=>h e.symm)]
def FR{D:Nat->Prop}:∀n,(ovT ops S T D n).nt=(S 0).A.nt
 |0=>rfl
 |n+1=>by
  by_cases h:D n
  ·rw[mr h,XW,FR n]
  rw[sw h,FR n]
def FQ{D:Nat->Prop}:∀n,(ovT ops S T D n).dfr=(S 0).A.dfr
 |0=>rfl
 |n+1=>by
  by_cases h:D n
  ·rw[mr h,US,FQ n]
  rw[sw h,FQ n]
section
variable(D0:∀k x,dst ops k=some x->x<x+1)
include D0
theorem nU{D D':Nat->Prop}{t:Nat}:∀{n:Nat},(∀i,i<n->dst ops i=some t->(D i↔D' i))->(ovT ops S T D n).tm.get t=(ovT ops S T D' n).tm.get t
 |0,_=>rfl
 |n+1,h=>by
  have ih:=nU (D:=D) (D':=D') (t:=t) (n:=n) λi hi=>h i aa;by_cases ht:dst ops n=some t
  ·have:=h n aa ht;by_cases hd:D n
   ·rw[mr hd,mr (this.1 hd),nX (D0 n),nX (D0 n),ad ht,ad ht]
   rw[sw hd,sw λh=>hd (this.2 h),ih]
  have e:∀(D:Nat->Prop),(ovT ops S T D (n+1)).tm.get t=(ovT ops S T D n).tm.get t:=λD=>by
   by_cases hd:D n
   ·rw[mr hd,nX (D0 n),ab ht]
   rw[sw hd]
  rw[e,e,ih]
theorem yG{D:Nat->Prop}{t k:Nat}:∀{n:Nat},k<=n->(∀i,k<=i->i<n->D i->dst ops i≠some t)->(ovT ops S T D n).tm.get t=(ovT ops S T D k).tm.get t
 |0,hk,_=>by have:k=0:=aa
             subst this;rfl
 |n+1,hk,h=>by
  by_cases hkn:k=n+1
  ·subst hkn;rfl
  have ih:=yG (D:=D) (t:=t) (k:=k) (n:=n) aa λi h1 h2=>h i h1 aa;by_cases hd:D n
  ·rw[mr hd,nX (D0 n),ab (h n aa aa hd),ih]
  rw[sw hd,ih]
theorem XI{D:Nat->Prop}{j:Nat}{n:Nat}(hj:j<n)(h:∀t,dst ops j=some t->∀i,j<i->i<n->D i->dst ops i≠some t)(t:Nat):
  (ovT ops S T (λi=>D i\/i=j) n).tm.get t=(yb (ovT ops S T D n) (dst ops j) (T j).av).tm.get t:=by
 rw[nX (D0 j)];by_cases ht:dst ops j=some t
 ·rw[ad ht,yG D0 (k:=j+1) aa λi h1 h2 hd=>?_]
  ·rw[mr (.inr rfl),nX (D0 j),ad ht]
  rcases hd with hd|rfl
  ·exact h t ht i aa h2 hd
  omega
 rw[ab ht];refine nU D0 λi hi W6=>⟨λhd=>hd.elim (λh=>h) λhe=>?_,.inl⟩;subst he;exact absurd W6 ht
end
end
section
variable{E:Env}{rec:Rec}{ops:Array Oper}{S:Nat->DS}{T:Nat->DR}(hc:GS E rec ops S T)(J0:RecM rec)
theorem iq{k:Nat}(hk:k<ops.size):∃o,ops[k]?=some o:=⟨ops[k],by simp[hk]⟩
theorem SY{k:Nat}{o:Oper}(ho:ops[k]?=some o):dst ops k=o.dst:=by unfold dst;rw[ho]
theorem pW{k x:Nat}(h:dst ops k=some x):∃o,ops[k]?=some o/\o.dst=some x:=by
 unfold dst at h;split at h
 ·rename_i o ho;exact⟨o,ho,h⟩
 cases h
def Ag(S:Nat->DS)(T:Nat->DR)(i:Nat):Did:=⟨i,(T i).sub,(S i).H.nx,(T i).H'.nx,(T i).wr (S i)⟩
theorem mP{i id:Nat}:cQ (Ag S T i) id=true↔eB S T i id:=oY
theorem iW{i id:Nat}(h:id∈(T i).wr (S i)):id<(S i).H.nx/\∃o,(T i).sub.get id=some o:=(lJ.1 h).2
include hc
theorem oK{k:Nat}{o:Oper}(ho:ops[k]?=some o)(hr:(T k).ran=false):(T k).sub=.leaf/\(T k).H'=⟨.leaf,(S k).H.nx,[]⟩/\(S (k+1)).H=(S k).H/\(S (k+1)).did=(S k).did:=
 let ⟨_,_,h1,h2,h3,h4⟩:=(hc.link k o ho).no hr
 ⟨h1,h2,h3,h4⟩
theorem rf{k:Nat}{o:Oper}(ho:ops[k]?=some o)(hr:(T k).ran=false)(id:Nat):¬eB S T k id:=by
 obtain⟨h1,h2,_,_⟩:=oK hc ho hr;rintro(h|h)
 ·obtain⟨_,o',h'⟩:=iW h;rw[h1]at h';cases h'
 rw[h2]at h;exact absurd h (by simp)
include J0
theorem ss{k:Nat}(hk:k<ops.size):(S k).H.nx<=(T k).H'.nx/\(S (k+1)).H.nx=(T k).H'.nx:=by
 obtain⟨o,ho⟩:=iq hk;cases hr:(T k).ran with
 |false=>obtain⟨h1,h2,h3,_⟩:=oK hc ho hr;rw[h2,h3];exact⟨ai _,rfl⟩
 |true=>obtain⟨_,h2,h3,_,h5,_⟩:=(hc.link k o ho).yes hr;refine⟨?_,by rw[h5]⟩;have hn:NM ⟨(T k).sub,(S k).H.nx,[]⟩ ((aQ E.P o).run (S k).A.tm ⟨(T k).sub,(S k).H.nx,[]⟩):=Gi o;exact(CL J0 hn _ h3).2 _ (List.mem_singleton.2 rfl)
theorem mo{i:Nat}:∀{k:Nat},i<=k->k<=ops.size->(S i).H.nx<=(S k).H.nx
 |0,h,_=>by have:i=0:=aa
            subst this;exact ai _
 |k+1,h,hk=>by
  by_cases hik:i=k+1
  ·subst hik;exact ai _
  have h1:=mo (i:=i) (k:=k) aa aa;have h2:=ss hc J0 (k:=k) aa;omega
theorem Cx{i k:Nat}(h:i<k)(hk:k<=ops.size):(T i).H'.nx<=(S k).H.nx:=by rw[<-(ss hc J0 (k:=i) aa).2];exact mo hc J0 aa hk
theorem vR{i id:Nat}(hi:i<ops.size)(h:eB S T i id):id<(T i).H'.nx:=by
 rcases h with h|h
 ·exact ay (iW h).1 (ss hc J0 hi).1
 exact h.2
omit J0 in
theorem Nv:∀{k:Nat},k<=ops.size->∀u∈(S k).did,∃i,i<k/\(T i).ran=true/\u=Ag S T i
 |0,_,u,hu=>by rw[hc.first]at hu;cases hu
 |k+1,hk,u,hu=>by
  obtain⟨o,ho⟩:=iq (ops:=ops) (k:=k) aa;have ih:=λhu=>Nv (k:=k) aa u hu;have ih':u∈(S k).did->∃i,i<k+1/\(T i).ran=true/\u=Ag S T i:=λhu=>by obtain⟨i,h1,h2⟩:=ih hu;exact⟨i,aa,h2⟩
  cases hr:(T k).ran with
  |false=>rw[(oK hc ho hr).2.2.2]at hu;exact ih' hu
  |true=>
   obtain⟨_,_,_,_,_,h6⟩:=(hc.link k o ho).yes hr;rw[h6]at hu;unfold note at hu;rw[cG]at hu;split at hu
   ·exact ih' hu
   rcases List.mem_cons.1 hu with rfl|hu
   ·exact⟨k,aa,hr,rfl⟩
   exact ih' hu
omit J0 in
theorem Fa{i:Nat}{o:Oper}(ho:ops[i]?=some o)(hr:(T i).ran=true)(hn:bS o≠0\/(S i).H.nx≠(T i).H'.nx):∀{k:Nat},i<k->k<=ops.size->Ag S T i∈(S k).did
 |0,h,_=>aa
 |k+1,h,hk=>by
  by_cases hik:i=k
  ·subst hik;obtain⟨_,_,_,_,_,h6⟩:=(hc.link i o ho).yes hr;rw[h6];unfold note;rw[cG,ab]
   ·exact bh ..
   rw[dv,aT];rintro⟨h1,h2⟩;have W5:=aN h1;have h2':=aN h2;exact hn.elim (λh=>h W5) λh=>h h2'
  have ih:=Fa ho hr hn (k:=k) aa aa;obtain⟨o',Z3⟩:=iq (ops:=ops) (k:=k) aa;cases T3:(T k).ran with
  |false=>rw[(oK hc Z3 T3).2.2.2];exact ih
  |true=>
   obtain⟨_,_,_,_,_,h6⟩:=(hc.link k o' Z3).yes T3;rw[h6];unfold note;rw[cG];split
   ·exact ih
   exact aU _ ih
variable(R0:(S ops.size).H.nx<=(S ops.size).H.nx)
include R0
theorem jh{k:Nat}(hk:k<=ops.size){u:Did}(hu:u∈(S k).did):u.c0<=u.c1/\∀id,cQ u id=true->id<(S k).H.nx/\id<id+1:=by have _hb:=R0;obtain⟨i,hi,_,rfl⟩:=Nv hc hk u hu;refine⟨(ss hc J0 (k:=i) aa).1,λid ht=>?_⟩;have h1:=vR hc J0 (i:=i) aa (mP.1 ht);have h2:=Cx hc J0 hi hk;have h3:=mo hc J0 hk (ai _);omega
theorem jO{k:Nat}(hk:k<ops.size){o:Oper}(ho:ops[k]?=some o){id:Nat}{x:aX}(h:(T k).sub.get id=some x):
  (T k).ran=true/\bS o≠0/\(S k).H.get id=some x/\∀u∈bf (mask ops k) (S k).did,cQ u id=false:=by
 cases hr:(T k).ran with
 |false=>rw[(oK hc ho hr).1]at h;cases h
 |true=>
  obtain⟨_,h2,_⟩:=(hc.link k o ho).yes hr;have h2':(T k).sub=bk (S k).H.t (S k).H.nx (S k).A.tm o (bf (mask ops k) (S k).did):=h2;rw[h2']at h;refine⟨rfl,?_⟩;have V1:(S k).H.nx<=(S k).H.nx:=ai _;unfold bk at h;split at h
  ·cases h
  ·rename_i hl
   rw[lq]at h
   ·split at h
    ·rename_i hm
     rw[xg,aT]at hm;refine⟨by rw[hl];decide,h,λu hu=>?_⟩;have:=hm.2.2;simp only[wv,yU,zg]at this;exact this u hu
    cases h
   intro i hi;rw[xg,aT]at hi;have:i<(S k).H.nx:=aY hi.2.1;omega
  rename_i hl1 hl2
  have I0:∀i,i∈(bf (mask ops k) (S k).did).flatMap fS->∃u∈bf (mask ops k) (S k).did,cQ u i=true:=λi hi=>by obtain⟨u,hu,hi⟩:=List.mem_flatMap.1 hi;exact⟨u,hu,(tO (jh hc J0 R0 aa (da.1 hu).1).1).1 hi⟩
  rw[tH]at h
  ·split at h
   ·cases h
   rename_i hm
   refine⟨λh0=>hl1 h0,h,λu hu=>?_⟩;cases htu:cQ u id with
   |false=>rfl
   |true=>exact absurd (List.mem_flatMap.2 ⟨u,hu,(tO (jh hc J0 R0 aa (da.1 hu).1).1).2 htu⟩) hm
  intro i hi;obtain⟨u,hu,ht⟩:=I0 i hi;exact((jh hc J0 R0 (k:=k) aa (da.1 hu).1).2 i ht).2
theorem IQ{k:Nat}(hk:k<ops.size)(hf:Fact S T k)(hwf:∀id,(S k).H.nx<=id->(S k).H.get id=none)(id:Nat):
  (eB S T k id->(S (k+1)).H.get id=(T k).H'.get id)/\(¬eB S T k id->(S (k+1)).H.get id=(S k).H.get id):=by
 obtain⟨o,ho⟩:=iq hk;cases hr:(T k).ran with
 |false=>refine⟨λh=>absurd h (rf hc ho hr id),λ_=>?_⟩;rw[(oK hc ho hr).2.2.1]
 |true=>
  have V1:(T k).H'.nx<=(T k).H'.nx:=ai _;have hle:=(ss hc J0 hk).1;obtain⟨_,h2,_,h4,h5,_⟩:=(hc.link k o ho).yes hr;have hrange:∀i,i∈db (S k).H.nx (Nat.sub (T k).H'.nx (S k).H.nx)↔(S k).H.nx<=i/\i<(T k).H'.nx:=λi=>by
   rw[oM];have e:(S k).H.nx+Nat.sub (T k).H'.nx (S k).H.nx=(T k).H'.nx:=by show(S k).H.nx+((T k).H'.nx-(S k).H.nx)=_;omega
   rw[e]
  have e:(S (k+1)).H.get id=(dU (bS o) (S k).H (T k).H' (bf (mask ops k) (S k).did) ((T k).wr (S k))).get id:=by rw[h5];rfl
  rw[e];have hwr:∀i∈(T k).wr (S k),i<i+1:=λi hi=>by have:=(iW hi).1;omega
  have N4:∀i∈db (S k).H.nx (Nat.sub (T k).H'.nx (S k).H.nx),i<i+1:=λi hi=>by have:=(hrange i).1 hi;omega
  cases hl:bS o with
  |zero=>
   show(eB S T k id->(cS (S k).H.t (T k).H'.t (db (S k).H.nx (Nat.sub (T k).H'.nx (S k).H.nx))).get id=_)/\(_->(cS (S k).H.t (T k).H'.t (db (S k).H.nx (Nat.sub (T k).H'.nx (S k).H.nx))).get id=_);rw[lq N4];have hnw:id∉(T k).wr (S k):=λh=>by obtain⟨_,x,hx⟩:=iW h;exact(jO hc J0 R0 hk ho hx).2.1 hl
   refine⟨λh=>?_,λh=>?_⟩
   ·rw[ad ((hrange id).2 (h.resolve_left hnw))];rfl
   rw[ab λhh=>h (.inr ((hrange id).1 hh))];rfl
  |succ l=>
   cases l with
   |zero=>
    show(eB S T k id->(cS (S k).H.t (T k).H'.t ((T k).wr (S k)++db (S k).H.nx (Nat.sub (T k).H'.nx (S k).H.nx))).get id=_)/\(_->(cS (S k).H.t (T k).H'.t ((T k).wr (S k)++db (S k).H.nx (Nat.sub (T k).H'.nx (S k).H.nx))).get id=_);rw[lq λi hi=>(List.mem_append.1 hi).elim (hwr i) (N4 i)];refine⟨λh=>?_,λh=>?_⟩
    ·rw[ad (List.mem_append.2 (h.imp_right (hrange id).2))];rfl
    rw[ab λhh=>h ((List.mem_append.1 hh).imp_right (hrange id).1)];rfl
   |succ l=>
    show(eB S T k id->(cS (T k).H'.t (S k).H.t ((bf (mask ops k) (S k).did).flatMap fS)).get id=_)/\(_->(cS (T k).H'.t (S k).H.t ((bf (mask ops k) (S k).did).flatMap fS)).get id=_);have I0:∀i,i∈(bf (mask ops k) (S k).did).flatMap fS->∃u∈bf (mask ops k) (S k).did,cQ u i=true:=λi hi=>by obtain⟨u,hu,hi⟩:=List.mem_flatMap.1 hi;exact⟨u,hu,(tO (jh hc J0 R0 aa (da.1 hu).1).1).1 hi⟩
    rw[lq λi hi=>by obtain⟨u,hu,ht⟩:=I0 i hi;exact((jh hc J0 R0 (k:=k) aa (da.1 hu).1).2 i ht).2]
    refine⟨λh=>?_,λh=>?_⟩
    ·rw[ab λhh=>?_]
     ·rfl
     obtain⟨u,hu,ht⟩:=I0 id hh;rcases h with h|h
     ·obtain⟨_,x,hx⟩:=iW h;have:=(jO hc J0 R0 hk ho hx).2.2.2 u hu;rw[ht]at this;cases this
     have:=((jh hc J0 R0 (k:=k) aa (da.1 hu).1).2 id ht).1;omega
    by_cases hm:id∈(bf (mask ops k) (S k).did).flatMap fS
    ·rw[ad hm];rfl
    rw[ab hm];show(T k).H'.get id=_;by_cases hid:id<(S k).H.nx
    ·rw[hf.log id hid λhh=>h (.inl hh)];have h2':(T k).sub=bk (S k).H.t (S k).H.nx (S k).A.tm o (bf (mask ops k) (S k).did):=h2;have e2:(T k).sub=pV (S k).H.t ((bf (mask ops k) (S k).did).flatMap fS):=by rw[h2'];unfold bk;rw[hl];rfl
     rw[e2,tH λi hi=>by obtain⟨u,hu,ht⟩:=I0 i hi;exact((jh hc J0 R0 (k:=k) aa (da.1 hu).1).2 i ht).2]
     rw[ab hm];rfl
    rw[hwf id aa];cases hg:(T k).H'.get id with
    |none=>rfl
    |some x=>
     rcases hf.old id x hg with⟨y,hy⟩|hh
     ·have:=(jO hc J0 R0 hk ho hy).2.2.1;rw[hwf id aa]at this;cases this
     exact absurd (.inr hh) h
theorem law{h0:∀id,(S 0).H.nx<=id->(S 0).H.get id=none}:∀{k:Nat},k<=ops.size->(∀i,i<k->Fact S T i) ->
  (∀id,(S k).H.nx<=id->(S k).H.get id=none)/\∀id,(S k).H.get id=ovH S T (λ_=>True) k id
 |0,_,_=>⟨h0,λ_=>rfl⟩
 |k+1,hk,hf=>by
  obtain⟨hw,hl⟩:=law (h0:=h0) (k:=k) aa λi hi=>hf i aa;have hs:=IQ hc J0 R0 (k:=k) aa (hf k aa) hw;have hn:=ss hc J0 (k:=k) aa;refine⟨λid hid=>?_,λid=>?_⟩
  ·rw[(hs id).2 λht=>?_]
   ·exact hw id aa
   have:=vR hc J0 aa ht;omega
  by_cases ht:eB S T k id
  ·rw[(hs id).1 ht,yF trivial ht]
  rw[(hs id).2 ht,hl,sv λ_=>ht]
variable{D:Nat->Prop}
omit hc J0 R0 in
theorem rX(he:∀i o,ops[i]?=some o->D i->∀e∈o.after.toList,iu e=true->D e.on):∀(k i:Nat),i<k->i<ops.size->D i->∀b,Nat.testBit (mask ops i) b=true->D b
 |0,i,h,_,_,_,_=>aa
 |k+1,i,h,hi,hd,b,hb=>by
  obtain⟨o,ho⟩:=iq hi;have hb':Nat.testBit ((fE [] 0 ops.toList).getD (0+i) 0) b=true:=by rw[Nat.zero_add];exact hb
  obtain⟨e,l7,hu,D0,hor⟩:=tL ops.toList [] 0 rfl i o (by simpa using ho) b hb';have hde:=he i o ho hd e l7 hu;rcases hor with rfl|hor
  ·exact hde
  exact rX he k e.on aa aa hde b hor
omit hc J0 R0 in
theorem JH(he:∀i o,ops[i]?=some o->D i->∀e∈o.after.toList,iu e=true->D e.on){j:Nat}{o:Oper}(ho:ops[j]?=some o)(hj:∀e∈o.after.toList,iu e=true->D e.on)(b:Nat)(hb:Nat.testBit (mask ops j) b=true):D b:=by
 have D0:j<ops.size:=getElem?_lt' ho;have hb':Nat.testBit ((fE [] 0 ops.toList).getD (0+j) 0) b=true:=by rw[Nat.zero_add];exact hb
 obtain⟨e,l7,hu,hl,hor⟩:=tL ops.toList [] 0 rfl j o (by simpa using ho) b hb';have hde:=hj e l7 hu;rcases hor with rfl|hor
 ·exact hde
 exact rX he (e.on+1) e.on aa aa hde b hor
where getElem?_lt' {j:Nat} {o:Oper} (h:ops[j]?=some o):j<ops.size:=(Array.getElem?_eq_some_iff.1 h).1
omit J0 R0 in
theorem zB{i j:Nat}(E5:i<j){x y:Oper}(hx:ops[i]?=some x)(hy:ops[j]?=some y)(hb:Nat.testBit (mask ops j) i=false):CB ops x y=false:=by have hs:=hc.stat;unfold fY at hs;rw[aT]at hs;have:=vQ (pre:=[]) hs.1 j y (by simpa using hy) i x (by simpa using E5) (by simpa using hx);exact this.resolve_left λh=>by rw[show(fE [] 0 ops.toList).getD j 0=mask ops j from rfl,hb]at h;cases h
variable(W0:∀i,i<ops.size->D i->∀b,Nat.testBit (mask ops i) b=true->D b){j:Nat}(hj:j<ops.size)(u6:¬D j)
include W0 hj u6
theorem Zp(id:Nat)(ht:eB S T j id)(i:Nat)(hji:j<i)(hi:i<ops.size)(hd:D i):¬eB S T i id:=by
 intro W6;obtain⟨o,ho⟩:=iq hj;obtain⟨oi,hoi⟩:=iq hi;have hbit:Nat.testBit (mask ops i) j=false:=by
  cases h:Nat.testBit (mask ops i) j with
  |false=>rfl
  |true=>exact absurd (W0 i hi hd j h) u6
 have hran:(T j).ran=true:=by
  cases h:(T j).ran with
  |false=>exact absurd ht (rf hc ho h id)
  |true=>rfl
 have hrani:(T i).ran=true:=by
  cases h:(T i).ran with
  |false=>exact absurd W6 (rf hc hoi h id)
  |true=>rfl
 have hnote:bS o≠0\/(S j).H.nx≠(T j).H'.nx:=by
  rcases ht with ht|ht
  ·obtain⟨_,x,hx⟩:=iW ht;exact .inl (jO hc J0 R0 hj ho hx).2.1
  exact .inr aa
 have I0:Ag S T j∈bf (mask ops i) (S i).did:=da.2 ⟨Fa hc ho hran hnote hji aa,hbit⟩;rcases W6 with W6|W6
 ·obtain⟨_,x,hx⟩:=iW W6;have:=(jO hc J0 R0 hi hoi hx).2.2.2 _ I0;rw[mP.2 ht]at this;cases this
 have h1:=vR hc J0 hj ht;have h2:=Cx hc J0 hji (k:=i) aa;omega
omit J0 R0 hj in
theorem Zr(t:Nat)(ht:dst ops j=some t)(i:Nat)(hji:j<i)(hi:i<ops.size)(hd:D i):dst ops i≠some t:=by
 intro W6;obtain⟨o,ho,hot⟩:=pW ht;obtain⟨oi,hoi,hoit⟩:=pW W6;have hbit:Nat.testBit (mask ops i) j=false:=by
  cases h:Nat.testBit (mask ops i) j with
  |false=>rfl
  |true=>exact absurd (W0 i hi hd j h) u6
 exact((tF (zB hc hji ho hoi hbit)).1 t hot).2 hoit
variable(hp:∀b,Nat.testBit (mask ops j) b=true->D b)
include hp
theorem VZ{h0:∀id,(S 0).H.nx<=id->(S 0).H.get id=none}(hf:∀i,i<j->Fact S T i)(id:Nat)(x:aX)(h:(T j).sub.get id=some x):ovH S T D ops.size id=some x:=by
 obtain⟨o,ho⟩:=iq hj;obtain⟨hran,B4,hg,c8⟩:=jO hc J0 R0 hj ho h;obtain⟨hwf,hlaw⟩:=law hc J0 R0 (h0:=h0) (k:=j) aa hf;have hid:id<(S j).H.nx:=by
  rcases cO id (S j).H.nx with hh|hh
  ·exact hh
  rw[hwf id hh]at hg;cases hg
 have e:ovH S T D ops.size id=ovH S T (λi=>i<j) ops.size id:=by
  refine nT λi hi W6=>⟨λhd=>?_,λE5=>?_⟩
  ·rcases cO i j with hh|hh
   ·exact hh
   exfalso;have I1:i≠j:=λe=>u6 (e▸hd);have hji:j<i:=aa;obtain⟨oi,hoi⟩:=iq hi;have hbit:Nat.testBit (mask ops i) j=false:=by
    cases h:Nat.testBit (mask ops i) j with
    |false=>rfl
    |true=>exact absurd (W0 i hi hd j h) u6
   have hrani:(T i).ran=true:=by
    cases h:(T i).ran with
    |false=>exact absurd W6 (rf hc hoi h id)
    |true=>rfl
   have I0:Ag S T j∈bf (mask ops i) (S i).did:=da.2 ⟨Fa hc ho hran (.inl B4) hji aa,hbit⟩;rcases W6 with W6|W6
   ·obtain⟨_,_,_,h4,_⟩:=(hc.link i oi hoi).yes hrani;have:=uT h4 _ I0 id W6;have h':(Ag S T j).X1.get id=some x:=h;rw[h']at this;cases this
   have h2:=mo hc J0 (i:=j) (k:=i) aa aa;omega
  obtain⟨oi,hoi⟩:=iq hi;have hrani:(T i).ran=true:=by
   cases h:(T i).ran with
   |false=>exact absurd W6 (rf hc hoi h id)
   |true=>rfl
  cases hb:Nat.testBit (mask ops j) i with
  |true=>exact hp i hb
  |false=>
   exfalso;have hnote:bS oi≠0\/(S i).H.nx≠(T i).H'.nx:=by
    rcases W6 with ht|ht
    ·obtain⟨_,x,hx⟩:=iW ht;exact .inl (jO hc J0 R0 hi hoi hx).2.1
    exact .inr aa
   have:=c8 _ (da.2 ⟨Fa hc hoi hrani hnote E5 aa,hb⟩);rw[mP.2 W6]at this;cases this
 rw[e,yE (k:=j) aa λi h1 _ h2=>absurd h2 aa,<-hg,hlaw];exact nT λi hi _=>⟨λ_=>trivial,λ_=>hi⟩
end
section
variable{E:Env}{rec:Rec}{ops:Array Oper}{S:Nat->DS}{T:Nat->DR}(hc:GS E rec ops S T)
include hc
theorem EC:∀{k:Nat},k<=ops.size->(S k).A=ovT ops S T (λ_=>True) k
 |0,_=>rfl
 |k+1,hk=>by obtain⟨o,ho⟩:=iq (ops:=ops) (k:=k) aa;rw[mr trivial,(hc.link k o ho).act,EC (k:=k) aa,SY ho]
theorem Zv{k x:Nat}(h:dst ops k=some x):x<(S 0).A.nt:=by obtain⟨o,ho,hx⟩:=pW h;have D0:k<ops.size:=(Array.getElem?_eq_some_iff.1 ho).1;have:=(hc.link k o ho).slot x hx;rw[EC hc (k:=k) aa,FR]at this;exact this
theorem Wa(A0:(S 0).A.nt<=1048576){D:Nat->Prop}(W0:∀i,i<ops.size->D i->∀b,Nat.testBit (mask ops i) b=true->D b){j:Nat}(hj:j<ops.size)(u6:¬D j)(hp:∀b,Nat.testBit (mask ops j) b=true->D b)
  {o:Oper} (ho:ops[j]?=some o) {t:Nat} (ht:t∈slotsOf ops o):(ovT ops S T D ops.size).tm.get t=(S j).A.tm.get t:=by
 have D0:∀k x,dst ops k=some x->x<x+1:=λk x h=>aZ _;have e:(ovT ops S T D ops.size).tm.get t=(ovT ops S T (λi=>i<j) ops.size).tm.get t:=by
  refine nU D0 λi hi W6=>⟨λhd=>?_,λE5=>?_⟩
  ·rcases cO i j with hh|hh
   ·exact hh
   exfalso;have I1:i≠j:=λe=>u6 (e▸hd);have hji:j<i:=aa;obtain⟨oi,hoi,hoit⟩:=pW W6;have hbit:Nat.testBit (mask ops i) j=false:=by
    cases h:Nat.testBit (mask ops i) j with
    |false=>rfl
    |true=>exact absurd (W0 i hi hd j h) u6
   exact(tF (zB hc hji ho hoi hbit)).2 t hoit ht
  obtain⟨oi,hoi,hoit⟩:=pW W6;cases hb:Nat.testBit (mask ops j) i with
  |true=>exact hp i hb
  |false=>exact absurd ht ((tF (zB hc E5 hoi ho hb)).1 t hoit).1
 rw[e,yG D0 (k:=j) aa λi h1 _ h2=>absurd h2 aa,EC hc (k:=j) aa];exact nU D0 λi hi _=>⟨λ_=>trivial,λ_=>hi⟩
omit hc in
theorem Tj{tm tm':PT AV}{x:Operand}(h:∀t,x=.tmp t->tm.get t=tm'.get t):ev tm x=ev tm' x:=by
 cases x with
 |tmp t=>show aB (tm.get t) aP (λv=>v)=aB (tm'.get t) aP (λv=>v);rw[h t rfl]
 |_=>rfl
omit hc in
theorem KE{tm tm':PT AV}{o:Oper}(h:∀t∈slotsOf ops o,tm.get t=tm'.get t)(y n:R (ag×Hp)):cy tm (gOf ops.toList o.guard) y n=cy tm' (gOf ops.toList o.guard) y n:=by
 cases hg:o.guard with
 |none=>rfl
 |some p=>
  obtain⟨q,w⟩:=p;unfold gOf;simp only[lS];cases hq:ops[q]? with
  |none=>rfl
  |some oq=>
   cases hd:oq.dst with
   |none=>simp only[hd];rfl
   |some t=>
    have ht:t∈slotsOf ops o:=by unfold slotsOf;refine dM _ ?_;rw[hg];unfold Dg;simp[hq,hd]
    simp only[hd];unfold cy;simp only[DH];rw[h t ht]
end
def TmR.ext{β:Pl}{tm tm':PT AV}{nt:Nat}{tmps:Array Value}(h:TmR β tm nt tmps)(he:∀t,tm'.get t=tm.get t):TmR β tm' nt tmps:=
 ⟨h.1,h.2.1,λt=>by rw[he];exact h.2.2 t⟩
def ig.has{β:Pl}{w:World}{id:Nat}{o:aX}(h:ig β w id o):∃g p,β id g=some p:=by
 cases o with
 |arr cells e lo gen=>obtain⟨p,hp,_⟩:=h.2.1 lo (ai _) h.1;exact⟨lo,p,hp⟩
 |oth x=>obtain⟨p,hp,_⟩:=h;exact⟨0,p,hp⟩
 |ro x=>obtain⟨p,hp,_⟩:=h;exact⟨0,p,hp⟩
structure St(ops:Array Oper)(S:Nat->DS)(T:Nat->DR)(m:Nat)(β0:Pl)(w0:World)(D:Nat->Prop)(β:Pl)(a:Act)(w:World):Prop where
 tm:TmR β (ovT ops S T D ops.size).tm (S 0).A.nt a.tmps
 df:pJ β (S 0).A.dfr a.defers
 obj:∀id o,ovH S T D ops.size id=some o->ig β w id o
 sep:∀id id' o o' g g' p p',ovH S T D ops.size id=some o->ovH S T D ops.size id'=some o'->eG o g->eG o' g'->β id g=some p->β id' g'=some p'->p.b=p'.b->id=id'\/(o.nP=true/\o'.nP=true)
 fresh:∀j,j<ops.size->¬D j->∀id g,(S j).H.nx<=id->id<(T j).H'.nx->β id g=none
 free:∀id g,(S ops.size).H.nx<=id->id<m->β id g=none
 sub:Sub β0 β
 loc:∀id g p,β id g=some p->β0 id g=some p\/((S 0).H.nx<=id/\id<(S ops.size).H.nx)\/∃o,(S 0).H.get id=some o
 size:w0.heap.size<=w.heap.size
 os:w.os=w0.os
 tape:w.tape=w0.tape
 output:w.output=w0.output
 frame:∀b,b<w0.heap.size->(∀id o g p,(S 0).H.get id=some o->WQ o g->β0 id g=some p->p.b≠b)->w.heap[b]?=w0.heap[b]?
 prov:∀id o g p,ovH S T D ops.size id=some o->eG o g->β id g=some p->w0.heap.size<=p.b\/∃o0 g0 p0,(S 0).H.get id=some o0/\eG o0 g0/\β0 id g0=some p0/\p0.b=p.b/\o0.nP=o.nP
 dom:∀id o,(S 0).H.get id=some o->∃o',ovH S T D ops.size id=some o'
 old:∀id o,ovH S T D ops.size id=some o->(∃o,(S 0).H.get id=some o)\/((S 0).H.nx<=id/\id<(S ops.size).H.nx)
 far:∀b,b<w0.heap.size->(∀id o g p,(∃i,i<ops.size/\D i/\id∈(T i).wr (S i))->(S 0).H.get id=some o->WQ o g->β0 id g=some p->p.b≠b)->w.heap[b]?=w0.heap[b]?
def St.congr{ops:Array Oper}{S:Nat->DS}{T:Nat->DR}{m:Nat}{β0:Pl}{w0:World}{D D':Nat->Prop}{β:Pl}{a:Act}{w:World}(h:St ops S T m β0 w0 D β a w)(D0:∀k x,dst ops k=some x->x<x+1)
  (hd:∀i,i<ops.size->(D i↔D' i)):St ops S T m β0 w0 D' β a w:=by
 have e:∀id,ovH S T D' ops.size id=ovH S T D ops.size id:=λid=>nT λi hi _=>(hd i hi).symm;have e':∀t,(ovT ops S T D' ops.size).tm.get t=(ovT ops S T D ops.size).tm.get t:=λt=>nU D0 λi hi _=>(hd i hi).symm
 exact{ tm:=h.tm.ext e',df:=h.df,obj:=λid o ho=>h.obj id o (by rw[<-e];exact ho),sep:=λid id' o o' g g' p p' h1 h2=>h.sep id id' o o' g g' p p' (by rw[<-e];exact h1) (by rw[<-e];exact h2),
        fresh:=λj hj hn=>h.fresh j hj λhh=>hn ((hd j hj).1 hh),free:=h.free,sub:=h.sub,loc:=h.loc,size:=h.size,os:=h.os,tape:=h.tape,output:=h.output,frame:=h.frame,
        prov:=λid o g p h1=>h.prov id o g p (by rw[<-e];exact h1),dom:=λid o ho=>by rw[e];exact h.dom id o ho,old:=λid o ho=>h.old id o (by rw[<-e];exact ho),
        far:=λb hb hn=>h.far b hb λid o g p⟨i,h1,h2,h3⟩=>hn id o g p ⟨i,h1,(hd i h1).1 h2,h3⟩ }
section
variable{E:Env}{rec:Rec}{ops:Array Oper}{S:Nat->DS}{T:Nat->DR}(hc:GS E rec ops S T)(J0:RecM rec)(R0:(S ops.size).H.nx<=(S ops.size).H.nx)
variable{m:Nat}{β0:Pl}{w0:World}{D:Nat->Prop}{β:Pl}{a:Act}{w:World}
theorem St.rel(h:St ops S T m β0 w0 D β a w){j:Nat}(hj:j<ops.size)(u6:¬D j)(S3:∀id x,(T j).sub.get id=some x->ovH S T D ops.size id=some x)(hwf:∀id x,(T j).sub.get id=some x->id<(S j).H.nx):
  Rel (T j).H'.nx β ⟨(T j).sub,(S j).H.nx,[]⟩ w where
 obj:=λid o ho=>h.obj id o (S3 id o ho)
 sep:=λid id' o o' g g' p p' h1 h2=>h.sep id id' o o' g g' p p' (S3 id o h1) (S3 id' o' h2)
 wf:=λid hid=>by
  cases hg:(T j).sub.get id with
  |none=>exact hg
  |some x=>exact absurd (hwf id x hg) (by have:(S j).H.nx<=id:=hid;omega)
 free:=λid g h1 h2=>h.fresh j hj u6 id g h1 h2
theorem Fact.of{j:Nat}{β β':Pl}{w w':World}(hx:Ext β ⟨(T j).sub,(S j).H.nx,[]⟩ w β' (T j).H' w'):Fact S T j where
 dom:=λid o ho=>hx.dom id o ho
 old:=λid o ho=>hx.old id o ho
 log:=λid hid hn=>by
  obtain⟨l,hl,hg⟩:=hx.log;have hl':(T j).H'.log=l:=by rw[hl];simp
  by_cases hm:id∈l
  ·cases hs:(T j).sub.get id with
   |some x=>exact absurd (lJ.2 ⟨by rw[hl'];exact hm,hid,x,hs⟩) hn
   |none=>
    cases R2:(T j).H'.get id with
    |none=>rfl
    |some y=>
     rcases hx.old id y R2 with⟨z,hz⟩|hz
     ·have:(T j).sub.get id=some z:=hz;rw[hs]at this;cases this
     have:(S j).H.nx<=id:=hz.1;omega
  exact hg id hid hm
include hc J0
theorem St.step(A0:(S 0).A.nt<=1048576)(h:St ops S T m β0 w0 D β a w){j:Nat}(hj:j<ops.size)(u6:¬D j)(S3:∀id x,(T j).sub.get id=some x->ovH S T D ops.size id=some x)(hwf:∀id x,(T j).sub.get id=some x->id<(S j).H.nx)
  (hcoH:∀id,eB S T j id->∀i,j<i->i<ops.size->D i->¬eB S T i id) (hcoT:∀t,dst ops j=some t->∀i,j<i->i<ops.size->D i->dst ops i≠some t)
  {v:Value} {w':World} (ho:Out (T j).H'.nx β ⟨(T j).sub,(S j).H.nx,[]⟩ w [((T j).av,(T j).H')] v w'):Fact S T j/\∃β',St ops S T m β0 w0 (λi=>D i\/i=j) β' (a.put (dst ops j) v) w':=by
 obtain⟨x,hx,β',hv,hR',S4⟩:=ho;rw[List.mem_singleton]at hx;subst hx;have hx:Ext β ⟨(T j).sub,(S j).H.nx,[]⟩ w β' (T j).H' w':=S4;have hf:Fact S T j:=Fact.of hx;refine⟨hf,β',?_⟩;have D0:∀k x,dst ops k=some x->x<x+1:=λk x h=>aZ _;have hadd:=λid=>XH (S:=S) (T:=T) (D:=D) (id:=id) hj (hcoH id);have h0j:(S 0).H.nx<=(S j).H.nx:=mo hc J0 (Nat.zero_le _) aa;have hjn:(T j).H'.nx<=(S ops.size).H.nx:=Cx hc J0 hj (ai _);have split_:∀id o,ovH S T (λi=>D i\/i=j) ops.size id=some o ->
   ((T j).H'.get id=some o/\((∃y,(T j).sub.get id=some y)\/((S j).H.nx<=id/\id<(T j).H'.nx)))\/(ovH S T D ops.size id=some o/\(T j).sub.get id=none/\¬eB S T j id):=by
  intro id o hg;by_cases ht:eB S T j id
  ·rw[(hadd id).1 ht]at hg;refine .inl ⟨hg,?_⟩;rcases ht with ht|ht
   ·exact .inl (iW ht).2
   exact .inr ht
  rw[(hadd id).2 ht]at hg;cases hs:(T j).sub.get id with
  |none=>exact .inr ⟨hg,rfl,ht⟩
  |some y=>
   have:=S3 id y hs;rw[hg]at this;cases this
   refine .inl ⟨?_,.inl ⟨_,rfl⟩⟩;rw[hf.log id (hwf id _ hs) λhh=>ht (.inl hh)];exact hs
 have hstay:∀id,(T j).sub.get id=none->¬eB S T j id->∀g,β' id g=β id g:=by
  intro id hs ht g;cases hb:β' id g with
  |some p=>
   rcases hx.loc id g p hb with h1|h1|⟨o,h1⟩
   ·exact h1.symm
   ·exact absurd (.inr h1) ht
   have:(T j).sub.get id=some o:=h1;rw[hs]at this;cases this
  |none=>
   cases hb':β id g with
   |none=>rfl
   |some p=>rw[hx.sub id g p hb']at hb;cases hb
 have hkeep:∀id o g p,ovH S T D ops.size id=some o->(T j).sub.get id=none->eG o g->β id g=some p->w'.heap[p.b]?=w.heap[p.b]?:=by
  intro id o g p hg hs hgk hp;refine hx.frame p.b ((h.obj id o hg).lt hgk hp) λid' o' g' p' h1 h2 h3 h4=>?_;have W5:(T j).sub.get id'=some o':=h1;rcases h.sep id' id o' o g' g p' p (S3 id' o' W5) hg h2.1 hgk h3 hp h4 with this|⟨this,_⟩
  ·subst this;rw[hs]at W5;cases W5
  rw[h2.2]at this;cases this
 have hafter:∀id o g p,((T j).H'.get id=some o/\((∃y,(T j).sub.get id=some y)\/((S j).H.nx<=id/\id<(T j).H'.nx)))->eG o g->β' id g=some p ->
   w.heap.size<=p.b\/∃o0 g0 p0,ovH S T D ops.size id=some o0/\eG o0 g0/\β id g0=some p0/\p0.b=p.b/\o0.nP=o.nP:=by
  intro id o g p hg hgk hp;rcases hx.prov id o g p hg.1 hgk hp with h1|⟨o0,g0,p0,h1,h2,h3,h4⟩
  ·exact .inl h1
  exact .inr ⟨o0,g0,p0,S3 id o0 h1,h2,h3,h4⟩
 have hobj:∀id o,ovH S T (λi=>D i\/i=j) ops.size id=some o->ig β' w' id o:=by
  intro id o hg;rcases split_ id o hg with hl|⟨R2,hs,ht⟩
  ·exact hR'.obj id o hl.1
  exact ig.mono hx.sub (h.obj id o R2) (hstay id hs ht) λg p hgk hp=>hkeep id o g p R2 hs hgk hp
 have hsubnone:∀id,(∀g,β id g=none)->(T j).sub.get id=none:=by
  intro id hn;cases hs:(T j).sub.get id with
  |none=>rfl
  |some y=>obtain⟨g,p,hp⟩:=(h.obj id y (S3 id y hs)).has;rw[hn g]at hp;cases hp
 refine{ tm:=?_,df:=?_,obj:=hobj,sep:=?_,fresh:=?_,free:=?_,sub:=λid g p hp=>hx.sub _ _ _ (h.sub _ _ _ hp),loc:=?_,size:=aD h.size hx.size,os:=hx.os.trans h.os,tape:=hx.tape.trans h.tape,
         output:=hx.output.trans h.output,frame:=?_,prov:=?_,dom:=?_,old:=?_,far:=?_ }
 ·
  have h1:=h.tm.mono hx.sub;have h2:TmR β' (yb (ovT ops S T D ops.size) (dst ops j) (T j).av).tm (S 0).A.nt (a.put (dst ops j) v).tmps:=by
   cases hd:dst ops j with
   |none=>exact h1
   |some d=>exact h1.put (Zv hc hd) hv
  exact h2.ext λt=>XI D0 hj hcoT t
 ·have h1:=pJ.mono hx.sub h.df;cases dst ops j with
  |none=>exact h1
  |some d=>exact h1
 ·
  intro id id' o o' g g' p p' h1 h2 h3 h4 h5 h6 h7;rcases split_ id o h1 with hl|⟨hg1,R4,ht1⟩
  ·rcases split_ id' o' h2 with hl'|⟨hg2,F2,ht2⟩
   ·exact hR'.sep id id' o o' g g' p p' hl.1 hl'.1 h3 h4 h5 h6 h7
   rw[hstay id' F2 ht2]at h6;rcases hafter id o g p hl h3 h5 with h8|⟨o0,g0,p0,a1,a2,a3,a4,a5⟩
   ·have:=(h.obj id' o' hg2).lt h4 h6;omega
   rw[<-a5];exact h.sep id id' o0 o' g0 g' p0 p' a1 hg2 a2 h4 a3 h6 (a4.trans h7)
  rw[hstay id R4 ht1]at h5;rcases split_ id' o' h2 with hl'|⟨hg2,F2,ht2⟩
  ·rcases hafter id' o' g' p' hl' h4 h6 with h8|⟨o0,g0,p0,a1,a2,a3,a4,a5⟩
   ·have:=(h.obj id o hg1).lt h3 h5;omega
   rw[<-a5];exact h.sep id id' o o0 g g0 p p0 hg1 a1 h3 a2 h5 a3 (h7.trans a4.symm)
  rw[hstay id' F2 ht2]at h6;exact h.sep id id' o o' g g' p p' hg1 hg2 h3 h4 h5 h6 h7
 ·
  intro k hk hn id g h1 h2;have hnk:¬D k:=λhh=>hn (.inl hh);have hkj:k≠j:=λhh=>hn (.inr hh);have hb:∀g,β id g=none:=λg=>h.fresh k hk hnk id g h1 h2;have hnt':¬eB S T j id:=by
   rintro(ht|ht)
   ·obtain⟨_,y,hy⟩:=iW ht;rw[hsubnone id hb]at hy;cases hy
   rcases cO k j with hh|hh
   ·have:=Cx hc J0 hh (k:=j) aa;omega
   have hjk:j<k:=aa;have:=Cx hc J0 hjk (k:=k) aa;omega
  rw[hstay id (hsubnone id hb) hnt'];exact hb g
 ·
  intro id g h1 h2;have hb:∀g,β id g=none:=λg=>h.free id g h1 h2;have hnt':¬eB S T j id:=λht=>by have:=vR hc J0 hj ht;omega
  rw[hstay id (hsubnone id hb) hnt'];exact hb g
 ·intro id g p hp;rcases hx.loc id g p hp with h1|h1|⟨o,h1⟩
  ·exact h.loc id g p h1
  ·exact .inr (.inl ⟨aD h0j h1.1,ay h1.2 hjn⟩)
  rcases h.old id o (S3 id o h1)with h2|h2
  ·exact .inr (.inr h2)
  exact .inr (.inl h2)
 ·intro b hb hn;rw[hx.frame b (ay hb h.size) ?_,h.frame b hb hn];intro id o g p h1 h2 h3 h4;rcases h.prov id o g p (S3 id o h1) h2.1 h3 with h5|⟨o0,g0,p0,a1,a2,a3,a4,a5⟩
  ·omega
  exact hn id o0 g0 p0 a1 ⟨a2,a5.trans h2.2⟩ a3 (a4.trans h4)
 ·intro id o g p h1 h2 h3;rcases split_ id o h1 with hl|⟨hg1,R4,ht1⟩
  ·rcases hafter id o g p hl h2 h3 with h8|⟨o0,g0,p0,a1,a2,a3,a4,a5⟩
   ·have:=h.size;exact .inl aa
   rcases h.prov id o0 g0 p0 a1 a2 a3 with h5|⟨o1,g1,p1,b1,b2,b3,b4,b5⟩
   ·exact .inl aa
   exact .inr ⟨o1,g1,p1,b1,b2,b3,b4.trans a4,b5.trans a5⟩
  rw[hstay id R4 ht1]at h3;exact h.prov id o g p hg1 h2 h3
 ·intro id o h1;by_cases ht:eB S T j id
  ·rw[(hadd id).1 ht];rcases ht with ht|ht
   ·obtain⟨_,y,hy⟩:=iW ht;exact hf.dom id y hy
   obtain⟨o',Z3⟩:=h.dom id o h1;obtain⟨g,p,hp⟩:=(h.obj id o' Z3).has;rw[h.fresh j hj u6 id g ht.1 ht.2]at hp;cases hp
  rw[(hadd id).2 ht];exact h.dom id o h1
 ·intro id o h1;rcases split_ id o h1 with⟨_,⟨y,hy⟩|hl⟩|⟨hg1,_,_⟩
  ·exact h.old id y (S3 id y hy)
  ·exact .inr ⟨aD h0j hl.1,ay hl.2 hjn⟩
  exact h.old id o hg1
 intro b hb hn;rw[hx.far (T j).H'.log (by simp) b (ay hb h.size) ?_,h.far b hb λid o g p⟨i,h1,h2,h3⟩=>hn id o g p ⟨i,h1,.inl h2,h3⟩];intro id o g p hid h1 h2 h3 h4;have W5:(T j).sub.get id=some o:=h1;rcases h.prov id o g p (S3 id o W5) h2.1 h3 with h5|⟨o0,g0,p0,a1,a2,a3,a4,a5⟩
 ·omega
 exact hn id o0 g0 p0 ⟨j,hj,.inr rfl,lJ.2 ⟨hid,hwf id o W5,o,W5⟩⟩ a1 ⟨a2,a5.trans h2.2⟩ a3 (a4.trans h4)
end
def Mt{F:Fence}{n:Nat}{P:Program}{o:Oper}{a:Act}{X:Prop}{r:Result Next}(hF:∀k,F.room k)(w0:World)(h:o.uponIn F n P a (λ_ _=>X) (λ_ _ _=>False) r):X:=by
 cases r with
 |halt x w'=>cases x<;>exact False.elim h
 |ok x w'=>
  cases x with
  |value v=>exact h
  |skip=>exact h
  |defer d=>exact h
  |enter f args=>
   obtain⟨e,w'',fr,hr,_⟩:=h.2.2 [] (hF _);cases e with
   |returned v=>exact hr
   |panicked c=>exact False.elim hr
   |outgrown=>obtain⟨_,_,hr⟩:=hr;exact False.elim hr
  |row row args=>obtain⟨v,w'',hr,_⟩:=h.2 (Frame.enter P 0 #[] .normal) [] (hF _);exact hr
  |round l f tmps assign body=>
   obtain⟨e,w'',hr,_⟩:=h.2.2 (Frame.enter P 0 #[] .normal) [] (hF _);cases e with
   |returned v=>exact hr
   |panicked c=>exact False.elim hr
   |outgrown=>obtain⟨_,_,hr⟩:=hr;exact False.elim hr
  |_=>exact False.elim h
section
variable{E:Env}(hE:uh E){N:Nat}{rec:Rec}(M0:Ey E.P N rec)(J0:RecM rec)
variable{ops:Array Oper}{S:Nat->DS}{T:Nat->DR}(hc:GS E rec ops S T)(R0:(S ops.size).H.nx<=(S ops.size).H.nx)(A0:(S 0).A.nt<=1048576)(h0:∀id,(S 0).H.nx<=id->(S 0).H.get id=none)
variable{m:Nat}{β0:Pl}{w0:World}
include hE M0 J0 hc R0 A0 h0
theorem take{D:Nat->Prop}(W0:∀i,i<ops.size->D i->∀b,Nat.testBit (mask ops i) b=true->D b){j:Nat}(hj:j<ops.size)(u6:¬D j)(hp:∀b,Nat.testBit (mask ops j) b=true->D b)(hf:∀i,i<j->Fact S T i)
  {β:Pl} {a:Act} {w:World} (h:St ops S T m β0 w0 D β a w) {rB:Option Nat} {Q:Exit->Act->World->Prop} {K:Act->World->Prop}
  (hK:∀v w',Fact S T j->(∃β',St ops S T m β0 w0 (λi=>D i\/i=j) β' (a.put (dst ops j) v) w')->K (a.put (dst ops j) v) w'):wpOpIn (fen rB) 0 E.P ops Q j K a w:=by
 obtain⟨o,ho⟩:=iq hj;obtain⟨hwfj,_⟩:=law hc J0 R0 (h0:=h0) (k:=j) aa hf;have S3:=VZ hc J0 R0 W0 hj u6 hp (h0:=h0) hf;have hwf:∀id x,(T j).sub.get id=some x->id<(S j).H.nx:=λid x hx=>by
  have:=(jO hc J0 R0 hj ho hx).2.2.1;rcases cO id (S j).H.nx with hh|hh
  ·exact hh
  rw[hwfj id hh]at this;cases this
 have hR:=h.rel hj u6 S3 hwf;have hstep:=λ{v w'}ho=>St.step (v:=v) (w':=w') hc J0 A0 h hj u6 S3 hwf (Zp hc J0 R0 W0 hj u6) (Zr hc W0 u6) ho;have hm1:(T j).H'.nx<=(T j).H'.nx:=ai _;have hslots:∀t∈slotsOf ops o,(ovT ops S T D ops.size).tm.get t=(S j).A.tm.get t:=λt ht=>Wa hc A0 W0 hj u6 hp ho ht;have hA:jz β ⟨(ovT ops S T D ops.size).tm,(S 0).A.nt,(S 0).A.dfr⟩ a:=⟨h.tm,h.df⟩;have hwk:=KE hslots;unfold wpOpIn;rw[ho];simp only
 have hd:=SY ho;cases hr:(T j).ran with
 |true=>
  obtain⟨h1,_,h3,_⟩:=(hc.link j o ho).yes hr;have hw:Region.wanted o (yielded ops a.tmps)=true:=by
   have hk:=hwk (.ok []) (.bad "")
   rw[h1]at hk;rcases BE h.tm hk with⟨hw,_⟩|⟨_,hb⟩
   ·exact hw
   cases hb
  rw[ad hw];have hcong:(aQ E.P o).run (ovT ops S T D ops.size).tm ⟨(T j).sub,(S j).H.nx,[]⟩=(aQ E.P o).run (S j).A.tm ⟨(T j).sub,(S j).H.nx,[]⟩:=by refine Mn o λx hx=>Tj λt ht=>hslots t ?_;unfold slotsOf;subst ht;exact ef _ (List.mem_filterMap.2 ⟨.tmp t,hx,rfl⟩)
  have h3':lk E rec ⟨(T j).sub,(S j).H.nx,[]⟩ ((aQ E.P o).run (ovT ops S T D ops.size).tm ⟨(T j).sub,(S j).H.nx,[]⟩)=.ok [((T j).av,(T j).H')]:=by rw[hcong];exact h3
  refine OB (A:=⟨(ovT ops S T D ops.size).tm,(S 0).A.nt,(S 0).A.dfr⟩) hE M0 J0 hm1 hR hA h3' (λx hx=>by rw[List.mem_singleton.1 hx];exact ai _) λv w' E3=>?_;rw[<-hd];have:=hstep E3;exact hK v w' this.1 this.2
 |false=>
  obtain⟨h1,h2,h3,h4,_⟩:=(hc.link j o ho).no hr;have hw:Region.wanted o (yielded ops a.tmps)=false:=by
   have hk:=hwk (.bad "") (.ok [])
   rw[h1]at hk;rcases BE h.tm hk with⟨_,hb⟩|⟨hw,_⟩
   ·cases hb
   exact hw
  rw[ab (by rw[hw];exact zA8)];refine⟨λ_ _=>trivial,?_⟩;rw[<-hd];have E3:Out (T j).H'.nx β ⟨(T j).sub,(S j).H.nx,[]⟩ w [((T j).av,(T j).H')] undef w:=by
   refine⟨_,List.mem_singleton.2 rfl,β,?_,?_,?_⟩
   ·show AR β (T j).av undef;rw[h2];exact pH β
   ·show Rel _ β (T j).H' w;rw[h3]at hR;have e:(T j).H'=⟨.leaf,(S j).H.nx,[]⟩:=h4;rw[e];rw[e]at hR;exact hR
   show Ext β _ w β (T j).H' w;rw[h3,h4];exact Ext.refl _ _ _
  have:=hstep E3;exact hK undef w this.1 this.2
theorem facts(hstart:∃a,St ops S T m β0 w0 (λ_=>False) β0 a w0):∀k,k<=ops.size->(∀i,i<k->Fact S T i)/\∃β a w,St ops S T m β0 w0 (λi=>i<k) β a w
 |0,_=>by obtain⟨a,h⟩:=hstart;have D0:∀k x,dst ops k=some x->x<x+1:=λk x h=>aZ _;exact⟨λi hi=>aa,β0,a,w0,h.congr D0 λi _=>⟨False.elim,λh=>aa⟩⟩
 |k+1,hk=>by
  have D0:∀k x,dst ops k=some x->x<x+1:=λk x h=>aZ _;obtain⟨hf,β,a,w,h⟩:=facts hstart k aa;have hs:=hc.stat;unfold fY at hs;rw[aT]at hs;have hback:∀i o,ops[i]?=some o->∀e∈o.after.toList,iu e=true->e.on<i:=λi o ho e he hu=>by have:=lh hs.2 i o (by simpa using ho) e he hu;omega
  obtain⟨ok,G0⟩:=iq (ops:=ops) (k:=k) aa;have W0:∀i,i<ops.size->i<k->∀b,Nat.testBit (mask ops i) b=true->b<k:=λi hi hik=>rX (D:=λi=>i<k) (λi o ho hd e he hu=>sI (hback i o ho e he hu) hd) (i+1) i aa hi hik;have hp:∀b,Nat.testBit (mask ops k) b=true->b<k:=JH (D:=λi=>i<k) (λi o ho hd e he hu=>sI (hback i o ho e he hu) hd) G0 λe he hu=>hback k ok G0 e he hu;have hwp:=take hE M0 J0 hc R0 A0 h0 (D:=λi=>i<k) W0 (j:=k) aa aa hp hf h (rB:=none) (Q:=λ_ _ _=>False)
   (K:=λ_ _=>Fact S T k/\∃β a w,St ops S T m β0 w0 (λi=>i<k+1) β a w) λv w' h1⟨β',h2⟩=>⟨h1,β',_,_,h2.congr D0 λi _=>aa⟩
  have hX:Fact S T k/\∃β a w,St ops S T m β0 w0 (λi=>i<k+1) β a w:=by
   unfold wpOpIn at hwp;rw[G0]at hwp;simp only at hwp
   split at hwp
   ·exact Mt (λk d hd=>by simp[fen]at hd) w0 hwp.2
   exact hwp.2
  refine⟨λi hi=>?_,hX.2⟩;rcases cO i k with hh|hh
  ·exact hf i hh
  have:i=k:=aa;subst this;exact hX.1
theorem Po(hf:∀i,i<ops.size->Fact S T i){rB:Option Nat}{Q:Exit->Act->World->Prop}(hQ:∀β a w,St ops S T m β0 w0 (λ_=>True) β a w->Q .normal a w):
  ∀(fuel:Nat)(listed:Array Bool)(β:Pl)(a:Act)(w:World),listed.size=ops.size->(∀i o,ops[i]?=some o->listed.getD i false=true->∀e∈o.after.toList,iu e=true->listed.getD e.on false=true) ->
   ((List.range ops.size).filter λi=>!listed.getD i false).length<=fuel->St ops S T m β0 w0 (λi=>listed.getD i false=true) β a w->wpAnyIn (fen rB) 0 E.P .any ops Q fuel listed a w:=by
 have D0:∀k x,dst ops k=some x->x<x+1:=λk x h=>aZ _;have hbinds:∀e,Region.binds .any e=iu e:=λe=>by unfold Region.binds iu;cases e.ground<;>rfl
 have hs:=hc.stat;unfold fY at hs;rw[aT]at hs;have hback:∀i o,ops[i]?=some o->∀e∈o.after.toList,iu e=true->e.on<i:=λi o ho e he hu=>by have:=lh hs.2 i o (by simpa using ho) e he hu;omega
 have L2:∀(listed:Array Bool),listed.size=ops.size->Region.ready .any ops listed=[]->∀k i,i<k->i<ops.size->listed.getD i false=true:=by
  intro listed M1 hr k;induction k with
  |zero=>intro i hi;omega
  |succ k ih=>
   intro i hi hio;cases hl:listed.getD i false with
   |true=>rfl
   |false=>
    exfalso;obtain⟨o,ho⟩:=iq hio;have hlt':i<listed.size:=aa;have:i∈Region.ready .any ops listed:=mem_ready.2 ⟨by simp[hlt']at hl |-;exact hl,o,ho,λe he hb=>by rw[hbinds]at hb;have:=hback i o ho e (by simpa using he) hb;exact ih e.on aa aa⟩
    rw[hr]at this;cases this
 intro fuel;induction fuel with
 |zero=>
  intro listed β a w M1 W0 hn h;have Y4:(List.range ops.size).filter (λi=>!listed.getD i false)=[]:=List.eq_nil_of_length_eq_zero aa;have hD:∀i,i<ops.size->listed.getD i false=true:=λi hi=>by
   cases hl:listed.getD i false with
   |true=>rfl
   |false=>have:i∈(List.range ops.size).filter (λi=>!listed.getD i false):=List.mem_filter.2 ⟨List.mem_range.2 hi,by rw[hl];rfl⟩;rw[Y4]at this;cases this
  refine⟨?_,hQ β a w (h.congr D0 λi hi=>⟨λ_=>trivial,λ_=>hD i hi⟩)⟩;cases hr:Region.ready .any ops listed with
  |nil=>rfl
  |cons i l=>
   have hi:i∈Region.ready .any ops listed:=by rw[hr];exact bh ..
   obtain⟨h1,o,ho,_⟩:=mem_ready.1 hi;have hio:i<ops.size:=(Array.getElem?_eq_some_iff.1 ho).1;have:=hD i hio;have hlt':i<listed.size:=aa;simp[hlt']at h1 this;rw[h1]at this;cases this
 |succ fuel ih=>
  intro listed β a w M1 W0 hn h;refine⟨λhr=>hQ β a w (h.congr D0 λi hi=>⟨λ_=>trivial,λ_=>L2 listed M1 hr (i+1) i aa hi⟩),λi hi=>?_⟩;obtain⟨h1,o,ho,he⟩:=mem_ready.1 hi;have hio:i<ops.size:=(Array.getElem?_eq_some_iff.1 ho).1;have hlt':i<listed.size:=aa;have hni:¬listed.getD i false=true:=by simp[hlt']at h1 |-;exact h1
  have hedge:∀e∈o.after.toList,iu e=true->listed.getD e.on false=true:=λe he' hu=>he e (by simpa using he') (by rw[hbinds];exact hu);have hclm:∀k,k<ops.size->listed.getD k false=true->∀b,Nat.testBit (mask ops k) b=true->listed.getD b false=true:=λk hk hd=>rX (D:=λi=>listed.getD i false=true) W0 (k+1) k aa hk hd;have hpm:=JH (D:=λi=>listed.getD i false=true) W0 ho hedge;refine take hE M0 J0 hc R0 A0 h0 (D:=λi=>listed.getD i false=true) hclm hio hni hpm (λk hk=>hf k aa) h λv w' _⟨β',h2⟩=>?_;have B7:∀k,k<ops.size->((listed.setIfInBounds i true).getD k false=true↔(listed.getD k false=true\/k=i)):=λk hk=>by
   by_cases hki:k=i
   ·subst hki;simp[hlt']
   rw[getD_set_ne false (λhh=>hki hh.symm)];simp[hki]
  refine ih (listed.setIfInBounds i true) β' _ w' (by simp[M1]) (λk ok G0 hk e he' hu=>?_) ?_ (h2.congr D0 λk hk=>(B7 k hk).symm)
  ·have hko:k<ops.size:=(Array.getElem?_eq_some_iff.1 G0).1;rcases(B7 k hko).1 hk with hk|rfl
   ·exact getD_set_true (W0 k ok G0 hk e he' hu)
   rw[ho]at G0;cases G0
   exact getD_set_true (hedge e he' hu)
  
  have hlen:((List.range ops.size).filter λk=>!(listed.setIfInBounds i true).getD k false).length<((List.range ops.size).filter λk=>!listed.getD k false).length:=by
   have J1:(List.range ops.size).filter (λk=>!(listed.setIfInBounds i true).getD k false)=((List.range ops.size).filter λk=>!listed.getD k false).filter λk=>!Nat.beq k i:=by rw[List.filter_filter];refine List.filter_congr λk hk=>?_;have J4:=List.mem_range.1 hk;have:=B7 k J4;cases h1:(listed.setIfInBounds i true).getD k false<;>cases h2:listed.getD k false<;>cases h3:Nat.beq k i<;>simp_all
   rw[J1];refine List.length_filter_lt_length_iff_exists.2 ⟨i,List.mem_filter.2 ⟨List.mem_range.2 hio,by simpa using hni⟩,by simp⟩
  omega
end
def HT{E:Env}(hE:uh E):Rv E:=by
 intro N rec M0 J0 m β H w A a id ops rB outs hm hR hA hstat h hb;obtain⟨l,hl,hk⟩:=R.fv h;obtain⟨S,T,hs0,hlink,hend⟩:=HM ops.toList 0 _ _ _ _ _ hl;have M1:ops.toList.length=ops.size:=by simp
 rw[M1]at hend;have hc:GS E rec ops S T:=⟨by rw[hs0],λk o ho=>by have:=hlink k o (by simpa using ho);rw[Nat.zero_add]at this;exact this,hstat⟩
 subst hend;obtain⟨o',Z3,hs'⟩:=hk _ (List.mem_singleton.2 rfl);cases Z3
 have hx:=hs' _ (List.mem_singleton.2 rfl);have hnxm:(S ops.size).H.nx<=m:=hb _ hx;have R0:(S ops.size).H.nx<=(S ops.size).H.nx:=ai _;have eA:(S 0).A=A:=by rw[hs0]
 have eH:(S 0).H=H:=by rw[hs0]
 have A0:(S 0).A.nt<=1048576:=by rw[eA];exact hA.tm.2.1
 have h0:∀id,(S 0).H.nx<=id->(S 0).H.get id=none:=by rw[eH];exact hR.wf
 have D0:∀k x,dst ops k=some x->x<x+1:=λk x h=>aZ _;have b7:Rel m β H { w with drawn:=w.drawn+1 }:=hR.drew _;have hov:∀id,ovH S T (λ_=>False) ops.size id=H.get id:=λid=>by rw[yE (k:=0) aa λi _ _ h=>h.elim,<-eH];rfl
 have hovT:∀t,(ovT ops S T (λ_=>False) ops.size).tm.get t=A.tm.get t:=λt=>by rw[yG D0 (k:=0) aa λi _ _ h=>h.elim,<-eA];rfl
 have hstart:St ops S T m β { w with drawn:=w.drawn+1 } (λ_=>False) β a { w with drawn:=w.drawn+1 }:=by
  refine{ tm:=?_,df:=by rw[eA];exact hA.df,obj:=λid o ho=>b7.obj id o (by rw[<-hov];exact ho),sep:=λid id' o o' g g' p p' h1 h2=>b7.sep id id' o o' g g' p p' (by rw[<-hov];exact h1) (by rw[<-hov];exact h2),
          fresh:=λj hj _ id g h1 h2=>?_,free:=λid g h1 h2=>?_,sub:=λ_ _ _ h=>h,loc:=λ_ _ _ h=>.inl h,size:=ai _,os:=rfl,tape:=rfl,output:=rfl,frame:=λ_ _ _=>rfl,
          prov:=λid o g p h1 h2 h3=>?_,dom:=λid o ho=>⟨o,by rw[hov,<-eH];exact ho⟩,old:=λid o ho=>.inl ⟨o,by rw[eH,<-hov];exact ho⟩,far:=λ_ _ _=>rfl }
  ·rw[eA];exact hA.tm.ext hovT
  ·have h3:=mo hc J0 (i:=0) (k:=j) aa aa;have h4:=Cx hc J0 hj (ai _);rw[eH]at h3;exact b7.free id g aa aa
  ·have h3:=mo hc J0 (i:=0) (k:=ops.size) aa (ai _);rw[eH]at h3;exact b7.free id g aa h2
  rw[hov]at h1;exact .inr ⟨o,g,p,by rw[eH];exact h1,h2,h3,rfl,rfl⟩
 have hf:=(facts hE M0 J0 hc R0 A0 h0 ⟨a,hstart⟩ ops.size (ai _)).1;refine wpIn_region_any hE.mixed ?_;refine Po hE M0 J0 hc R0 A0 h0 hf (m:=m) (β0:=β) (w0:={ w with drawn:=w.drawn+1 }) (λβ' a' w' X3=>?_) ops.size _ β a _ (by simp) (λi o ho hl=>?_) ?_ (hstart.congr D0 λi hi=>⟨False.elim,λhh=>?_⟩)
 ·obtain⟨hwf,hlaw⟩:=law hc J0 R0 (h0:=h0) (k:=ops.size) (ai _) hf;have e:∀id,ovH S T (λ_=>True) ops.size id=(S ops.size).H.get id:=λid=>(hlaw id).symm;have S7:=EC hc (k:=ops.size) (ai _);refine⟨_,hx,trivial,β',⟨?_,?_⟩,⟨λid o ho=>X3.obj id o (by rw[e];exact ho),λid id' o o' g g' p p' h1 h2=>X3.sep id id' o o' g g' p p' (by rw[e];exact h1) (by rw[e];exact h2),hwf,X3.free⟩,?_⟩
  ·show TmR β' (S ops.size).A.tm (S ops.size).A.nt a'.tmps;rw[S7,FR];exact X3.tm
  ·show pJ β' (S ops.size).A.dfr a'.defers;rw[S7,FQ];exact X3.df
  have hmono:=mo hc J0 (i:=0) (k:=ops.size) aa (ai _);rw[<-eH];have hlog:∀k,k<=ops.size->∃l,(S k).H.log=l++(S 0).H.log/\(∀id,id<(S 0).H.nx->id∉l->(S k).H.get id=(S 0).H.get id)/\∀i,i<k->∀id,id∈(T i).wr (S i)->id∈l:=by
   intro k;induction k with
   |zero=>intro _;exact⟨[],rfl,λ_ _ _=>rfl,λi hi=>aa⟩
   |succ k ih=>
    intro hk;obtain⟨l,hl1,hl2,hl3⟩:=ih aa;obtain⟨o,ho⟩:=iq (ops:=ops) (k:=k) aa;have hls:=IQ hc J0 R0 (k:=k) aa (hf k aa) (law hc J0 R0 (h0:=h0) (k:=k) aa λi hi=>hf i aa).1;have hm0:=mo hc J0 (i:=0) (k:=k) aa aa;cases hr:(T k).ran with
    |false=>
     rw[(oK hc ho hr).2.2.1];refine⟨l,hl1,hl2,λi hi id hid=>?_⟩;by_cases e:i=k
     ·subst e;exact absurd (.inl hid) (rf hc ho hr id)
     exact hl3 i aa id hid
    |true=>
     obtain⟨_,_,_,_,h5,_⟩:=(hc.link k o ho).yes hr;refine⟨(T k).wr (S k)++l,by rw[h5,bW,<-hl1],λid hid hn=>?_,λi hi id hid=>?_⟩
     ·rw[(hls id).2 ?_]
      ·exact hl2 id hid λhh=>hn (dM _ hh)
      rintro(ht|ht)
      ·exact hn (ef _ ht)
      omega
     by_cases e:i=k
     ·subst e;exact ef _ hid
     exact dM _ (hl3 i aa id hid)
  refine{ sub:=X3.sub,loc:=X3.loc,size:=X3.size,os:=X3.os,tape:=X3.tape,output:=X3.output,frame:=X3.frame,prov:=λid o g p h1 h2 h3=>X3.prov id o g p (by rw[e];exact h1) h2 h3,nx:=hmono,log:=?_,far:=?_,
          dom:=λid o ho=>by obtain⟨o',Z3⟩:=X3.dom id o ho;exact⟨o',by rw[<-e];exact Z3⟩,old:=λid o ho=>X3.old id o (by rw[e];exact ho) }
  ·obtain⟨l0,e0,f0,g0⟩:=hlog ops.size (ai _);exact⟨l0,e0,f0⟩
  intro l hl b hb hn;obtain⟨l0,e0,f0,g0⟩:=hlog ops.size (ai _);have e:l=l0:=by have hl':(S ops.size).H.log=l++(S 0).H.log:=hl;rw[e0]at hl';exact(sN hl').symm
  subst e;exact X3.far b hb λid o g p⟨i,h1,_,h3⟩=>hn id o g p (g0 i h1 id h3)
 ·exfalso;have hio:i<ops.size:=(Array.getElem?_eq_some_iff.1 ho).1;simp[hio]at hl
 ·exact aD (List.length_filter_le _ _) (by simp)
 simp[hi]at hh
def Zx:List UInt8->List UInt8->Bool:=
 λl=>List.rec (motive:=λ_=>List UInt8->Bool) (λm=>List.rec (motive:=λ_=>Bool) true (λ_ _ _=>false) m)
  (λx _ ih m=>List.rec (motive:=λ_=>Bool) false (λy m' _=>both (bEq x y) (ih m')) m) l
def Zc{a b:UInt8}(h:bEq a b=true):a=b:=UInt8.toNat_inj.1 (aN h)
def ND:∀{l m:List UInt8},Zx l m=true->l=m
 |[],[],_=>rfl
 |[],_::_,h=>by cases h
 |_::_,[],h=>by cases h
 |x::l,y::m,h=>by have h':both (bEq x y) (Zx l m)=true:=h;rw[dv,aT]at h';rw[Zc h'.1,ND h'.2]
def Fe:List (Nat×Nat×Nat×Nat)->List (Nat×Nat×Nat×Nat)->Bool
 |[],[]=>true
 |(a,b,c,d)::l,(a',b',c',d')::m=>Nat.beq a a'&&(Nat.beq b b'&&(Nat.beq c c'&&(Nat.beq d d'&&Fe l m)))
 |_,_=>false
def CK:∀{l m:List (Nat×Nat×Nat×Nat)},Fe l m=true->l=m
 |[],[],_=>rfl
 |[],_::_,h=>by cases h
 |_::_,[],h=>by cases h
 |(a,b,c,d)::l,(a',b',c',d')::m,h=>by unfold Fe at h;simp only[aT]at h;obtain⟨h1,h2,h3,h4,h5⟩:=h;rw[aN h1,aN h2,aN h3,aN h4,CK h5]
def HZ:AO->AO->Bool
 |.str s,.str t=>Zx s t
 |.nilP,.nilP=>true
 |.nilS,.nilS=>true
 |.nilM,.nilM=>true
 |.vA,.vA=>true
 |.ptr a b c d,.ptr a' b' c' d'=>Nat.beq a a'&&(Nat.beq b b'&&(Nat.beq c c'&&Nat.beq d d'))
 |.sl a b c d e,.sl a' b' c' d' e'=>Nat.beq a a'&&(Nat.beq b b'&&(Nat.beq c c'&&(Nat.beq d d'&&Nat.beq e e')))
 |.mp a,.mp a'=>Nat.beq a a'
 |.clo f l,.clo f' l'=>Nat.beq f f'&&Fe l l'
 |_,_=>false
def WL{x y:AO}(h:HZ x y=true):x=y:=by
 cases x<;>cases y<;>first|rfl|(simp only[HZ]at h;cases h;done)|skip
 ·simp only[HZ]at h;rw[ND h]
 ·simp only[HZ,aT]at h;obtain⟨h1,h2,h3,h4⟩:=h;rw[aN h1,aN h2,aN h3,aN h4]
 ·simp only[HZ,aT]at h;obtain⟨h1,h2,h3,h4,h5⟩:=h;rw[aN h1,aN h2,aN h3,aN h4,aN h5]
 ·simp only[HZ]at h;rw[aN h]
 simp only[HZ,aT]at h;rw[aN h.1,CK h.2]
def PO:AC->AC->Bool
 |.b x,.b y=>bif x then y else !y
 |.i k n,.i k' n'=>sameKind k k'&&iEq n n'
 |.o x,.o y=>HZ x y
 |_,_=>false
def Nz{x y:AC}(h:PO x y=true):x=y:=by
 cases x with
 |b x=>cases y with
  |b y=>cases x<;>cases y<;>first|rfl|(simp only[PO]at h;cases h)
  |i _ _=>cases h
  |o _=>cases h
 |i k n=>cases y with|i k' n'=>simp only[PO,aT]at h;have h2:=h.2;rw[oE]at h2;rw[jN h.1,eq_of_beq h2]|b _=>cases h|o _=>cases h
 |o x=>cases y with|o y=>simp only[PO]at h;rw[WL h]|b _=>cases h|i _ _=>cases h
def CJ:List AC->List AC->Bool
 |[],[]=>true
 |x::l,y::m=>PO x y&&CJ l m
 |_,_=>false
def uM:∀{l m:List AC},CJ l m=true->l=m
 |[],[],_=>rfl
 |[],_::_,h=>by cases h
 |_::_,[],h=>by cases h
 |x::l,y::m,h=>by simp only[CJ,aT]at h;rw[Nz h.1,uM h.2]
def NG:List (Bool×List AC)->List (Bool×List AC)->Bool
 |[],[]=>true
 |(a,l)::x,(b,m)::y=>(bif a then b else !b)&&(CJ l m&&NG x y)
 |_,_=>false
def Ic:∀{l m:List (Bool×List AC)},NG l m=true->l=m
 |[],[],_=>rfl
 |[],_::_,h=>by cases h
 |_::_,[],h=>by cases h
 |(a,l)::x,(b,m)::y,h=>by
  simp only[NG,aT]at h;have:a=b:=by have h1:=h.1;cases a<;>cases b<;>first|rfl|cases h1
  rw[this,uM h.2.1,Ic h.2.2]
def Ia:AV->AV->Bool
 |.one x,.one y=>PO x y
 |.agg l,.agg m=>CJ l m
 |.tup l,.tup m=>NG l m
 |_,.any=>true
 |_,_=>false
def NA{x y:AV}(h:Ia x y=true):x=y\/y=.any:=by
 cases x<;>cases y<;>first|exact .inr rfl|(simp only[Ia]at h;cases h;done)|skip
 ·simp only[Ia]at h;exact .inl (by rw[Nz h])
 ·simp only[Ia]at h;exact .inl (by rw[uM h])
 simp only[Ia]at h;exact .inl (by rw[Ic h])
def NC(x y:AV):Bool:=match y with|.any=>false|_=>Ia x y
def Ib{x y:AV}(h:NC x y=true):x=y:=by
 unfold NC at h;split at h
 ·cases h
 rename_i hn
 exact(NA h).resolve_right hn
def WM:List bX->List bX->Bool
 |[],[]=>true
 |x::l,y::m=>NC x.key y.key&&(NC x.val y.val&&(Nat.beq x.born y.born&&WM l m))
 |_,_=>false
def NF:∀{l m:List bX},WM l m=true->l=m
 |[],[],_=>rfl
 |[],_::_,h=>by cases h
 |_::_,[],h=>by cases h
 |⟨a,b,c⟩::l,⟨a',b',c'⟩::m,h=>by simp only[WM,aT]at h;obtain⟨h1,h2,h3,h4⟩:=h;rw[Ib h1,Ib h2,aN h3,NF h4]
def Ao:aX->aX->Bool
 |.arr c e lo gen,.arr c' e' lo' gen'=>CJ c c'&&(Nat.beq e e'&&(Nat.ble lo lo'&&(Nat.ble lo' gen'&&Nat.beq gen gen')))
 |.oth (.map es k),.oth (.map es' k')=>WM es es'&&Nat.beq k k'
 |.oth (.dfr b),.oth (.dfr b')=>bif b then b' else !b'
 |_,_=>false
def EB(x y:aX):Prop:=x=y\/∃c e lo lo' gen,x=.arr c e lo gen/\y=.arr c e lo' gen/\lo<=lo'/\lo'<=gen
def Te{x y:aX}(h:Ao x y=true):EB x y:=by
 cases x with
 |arr c e lo gen=>cases y with|arr c' e' lo' gen'=>simp only[Ao,aT]at h;obtain⟨h1,h2,h3,h4,h5⟩:=h;rw[uM h1,aN h2,aN h5];exact .inr ⟨_,_,_,_,_,rfl,rfl,aY h3,aY h4⟩|oth _=>cases h|ro _=>cases h
 |ro _=>cases y<;>cases h
 |oth x=>cases y with
  |arr _ _ _ _=>cases x<;>cases h
  |ro _=>cases x<;>cases h
  |oth y=>
   cases x<;>cases y<;>first|(simp only[Ao]at h;cases h;done)|skip
   ·simp only[Ao,aT]at h;rw[NF h.1,aN h.2];exact .inl rfl
   simp only[Ao]at h;rename_i a b
   cases a<;>cases b<;>first|exact .inl rfl|cases h
def EB.ro{x y:aX}(h:EB x y):x.nP=y.nP:=by rcases h with rfl|⟨c,e,lo,lo',gen,rfl,rfl,h1,h2⟩<;>rfl
def EB.gen{x y:aX}(h:EB x y){g:Nat}(hg:eG y g):eG x g:=by
 rcases h with rfl|⟨c,e,lo,lo',gen,rfl,rfl,h1,h2⟩
 ·exact hg
 have R2:lo'<=g/\g<=gen:=hg;exact⟨aa,R2.2⟩
def EB.obj{x y:aX}(h:EB x y){β:Pl}{w:World}{id:Nat}(ho:ig β w id x):ig β w id y:=by
 rcases h with rfl|⟨c,e,lo,lo',gen,rfl,rfl,h1,h2⟩
 ·exact ho
 obtain⟨a1,a2,a3,a4⟩:=ho;exact⟨h2,λg b1 b2=>a2 g aa b2,λg g' p p' b1 b2 b3=>a3 g g' p p' aa b2 b3,a4⟩
def mkT{α:Type}(l:List (Nat×α)):PT α:=List.rec (motive:=λ_=>PT α) .leaf (λx _ ih=>ih.set x.1 x.2) l
def small{α:Type}(n:Nat):List (Nat×α)->Bool
 |[]=>true
 |x::l=>Nat.blt x.1 n&&small n l
def Fj{α:Type}{n:Nat}(hn:n<=2^40):∀{l:List (Nat×α)},small n l=true->∀{k:Nat}{a:α},(mkT l).get k=some a->k<n/\(k,a)∈l
 |[],_,k,a,h=>by cases h
 |x::l,hs,k,a,h=>by
  simp only[small,aT]at hs;have hx:x.1<n:=aY hs.1;have h':((mkT l).set x.1 x.2).get k=some a:=h;rw[PT.sb _ _ _ _ aa]at h';split at h'
  ·rename_i hk
   cases h'
   subst hk;exact⟨hx,bh ..⟩
  obtain⟨h1,h2⟩:=Fj hn hs.2 h';exact⟨h1,aU _ h2⟩
def vO(tm:PT AV)(t:Nat):AV:=aB (tm.get t) aP λv=>v
def SJ(tm tm':PT AV)(n:Nat):Bool:=Nat.rec (motive:=λ_=>Bool) true (λk ih=>both (Ia (vO tm k) (vO tm' k)) ih) n
def Nt{tm tm':PT AV}:∀{n:Nat},SJ tm tm' n=true->∀k,k<n->vO tm k=vO tm' k\/vO tm' k=.any
 |0,_,k,h=>aa
 |n+1,h,k,hk=>by
  have h':both (Ia (vO tm n) (vO tm' n)) (SJ tm tm' n)=true:=h;rw[dv,aT]at h';by_cases e:k=n
  ·subst e;exact NA h'.1
  exact Nt h'.2 k aa
def SI(t:PT aX)(l:List (Nat×aX)):Bool:=List.rec (motive:=λ_=>Bool) true (λx _ ih=>both (aB (t.get x.1) false λo=>Ao o x.2) ih) l
def Ns{t:PT aX}:∀{l:List (Nat×aX)},SI t l=true->∀x∈l,∃o,t.get x.1=some o/\EB o x.2
 |[],_,x,h=>by cases h
 |y::l,h,x,hx=>by
  have h':both (aB (t.get y.1) false λo=>Ao o y.2) (SI t l)=true:=h;rw[dv,aT]at h';rcases List.mem_cons.1 hx with rfl|hx
  ·cases hg:t.get x.1 with
   |none=>rw[hg]at h';cases h'.1
   |some o=>rw[hg]at h';exact⟨o,rfl,Te h'.1⟩
  exact Ns h'.2 x hx
def spine:Code->List Code
 |.seq a b=>a::spine b
 |c=>[c]
def lB:List Code->Code
 |[]=>.skip
 |[c]=>c
 |c::l=>.seq c (lB l)
def Vq:∀(c:Code),spine c≠[]
 |.seq a b=>by simp[spine]
 |.skip|.region ..|.cond ..|.block ..|.loop ..|.rangeFunc ..|.exit ..|.scope ..|.label ..|.goto ..|.ret|.refuse ..=>by simp[spine]
def va:∀(c:Code),lB (spine c)=c
 |.seq a b=>by
  have h:=va b;have hn:=Vq b;show lB (a::spine b)=_;cases hs:spine b with
  |nil=>exact absurd hs hn
  |cons x l=>rw[hs]at h;show Code.seq a (lB (x::l))=_;rw[h]
 |.skip|.region ..|.cond ..|.block ..|.loop ..|.rangeFunc ..|.exit ..|.scope ..|.label ..|.goto ..|.ret|.refuse ..=>rfl
def kW(P:Program)(f:FuncId):List Code:=
 match P.funcs[f]? with
 |some fn=>match fn.body with|some c=>spine c|none=>[]
 |none=>[]
def mK(P:Program)(f:FuncId):Nat:=match P.funcs[f]? with|some fn=>fn.ntmps|none=>0
def Vc(P:Program)(f:FuncId):List ResultVar:=match P.funcs[f]? with|some fn=>fn.results.toList|none=>[]
def Ga(E:Env)(rec:Rec)(l:List Code):ag->Hp->R (ax×ag×Hp):=
 List.rec (motive:=λ_=>ag->Hp->R (ax×ag×Hp)) (λa h=>.ok [(.normal,a,h)])
  (λc _ ih a h=>((codeF E c).run rec none a h).bind λx=>exE x.1 (ih x.2.1 x.2.2) (λ_=>.bad "piece - exit") (.bad "piece - return")) l
def YZ{α:Type}(p:α->Bool)(r:R α):Bool:=R.rec (motive:=λ_=>Bool) (λl=>List.rec (motive:=λ_=>Bool) true (λx _ ih=>both (p x) ih) l) (λ_=>false) r
def MY{α:Type}{p:α->Bool}{r:R α}(h:YZ p r=true):∃l,r=.ok l/\∀x∈l,p x=true:=by
 cases r with
 |bad s=>cases h
 |ok l=>
  refine⟨l,rfl,?_⟩;have h':List.rec (motive:=λ_=>Bool) true (λx _ ih=>both (p x) ih) l=true:=h;clear h;induction l with
  |nil=>intro x hx;cases hx
  |cons y l ih=>
   have h2:both (p y) (List.rec (motive:=λ_=>Bool) true (λx _ ih=>both (p x) ih) l)=true:=h';rw[dv,aT]at h2;intro x hx;rcases List.mem_cons.1 hx with rfl|hx
   ·exact h2.1
   exact ih h2.2 x hx
structure Mark where
 slots:List (Nat×AV)
 objs:List (Nat×aX)
 nx:Nat
def Mark.hp(k:Mark):Hp:=⟨mkT k.objs,k.nx,[]⟩
def Mark.act(k:Mark)(nt:Nat):ag:=⟨mkT k.slots,nt,[]⟩
def Mark.fits(k:Mark)(nt:Nat):Bool:=Nat.ble nt 1048576&&(small nt k.slots&&(small k.nx k.objs&&Nat.ble k.nx 1099511627776))
def QC{α:Type}(l:List α):Bool:=List.rec (motive:=λ_=>Bool) true (λ_ _ _=>false) l
def EY(k:Mark)(nt:Nat)(x:ax×ag×Hp):Bool:=
 exE x.1 (both (Nat.beq x.2.1.nt nt) (both (Nat.ble x.2.2.nx k.nx) (both (SJ x.2.1.tm (mkT k.slots) nt) (both (SI x.2.2.t k.objs) (QC x.2.1.dfr))))) (λ_=>false) false
def piece(E:Env)(n:Nat)(f:FuncId)(i d:Nat)(k k':Mark):Bool:=
 both (k'.fits (mK E.P f)) (YZ (EY k' (mK E.P f)) (Ga E (eval E n) (((kW E.P f).drop i).take d) (k.act (mK E.P f)) k.hp))
def Dt(E:Env)(n:Nat)(f:FuncId)(i:Nat)(k:Mark):Bool:=
 YZ (λx:AV×Hp=>both (fw x.1 false λb=>b) (Nat.ble x.2.nx 1099511627776)) (((codeF E (lB ((kW E.P f).drop i))).run (eval E n) none (k.act (mK E.P f)) k.hp).bind (aH E (Vc E.P f)))
def Grown(w w':World):Prop:=w'.os=w.os/\w'.tape=w.tape/\w'.output=w.output/\w.heap.size<=w'.heap.size/\∀b,b<w.heap.size->w'.heap[b]?=w.heap[b]?
structure At(E:Env)(f:FuncId)(k:Mark)(w0:World)(a:Act)(w:World):Prop where
 grown:Grown w0 w
 here:∃β,jz β (k.act (mK E.P f)) a/\Rel (2^40) β k.hp w/\∀id o g p,k.hp.get id=some o->eG o g->β id g=some p->w0.heap.size<=p.b
def It{β β':Pl}{H H':Hp}{w0 w w':World}(h:Grown w0 w)(hp:∀id o g p,H.get id=some o->eG o g->β id g=some p->w0.heap.size<=p.b)(hx:Ext β H w β' H' w'):Grown w0 w':=by obtain⟨h1,h2,h3,h4,h5⟩:=h;refine⟨hx.os.trans h1,hx.tape.trans h2,hx.output.trans h3,aD h4 hx.size,λb hb=>?_⟩;rw[hx.frame b aa λid o g p a b' c d=>?_,h5 b hb];have:=hp id o g p a b'.1 c;omega
def At.next{E:Env}{f:FuncId}{k k':Mark}{w0 w w':World}{a':Act}{β β':Pl}(hg:Grown w0 w)(hp:∀id o g p,k.hp.get id=some o->eG o g->β id g=some p->w0.heap.size<=p.b)
  (D4:k'.fits (mK E.P f)=true) {x:ax×ag×Hp} (hchk:EY k' (mK E.P f) x=true) (hA:jz β' x.2.1 a') (hR:Rel (2^40) β' x.2.2 w') (hx:Ext β k.hp w β' x.2.2 w'):x.1=.normal/\At E f k' w0 a' w':=by
 obtain⟨e,A,H⟩:=x;unfold EY at hchk;cases e with
 |exit i=>cases hchk
 |ret=>cases hchk
 |normal=>
  refine⟨rfl,It hg hp hx,β',?_⟩;have hchk':both (Nat.beq A.nt (mK E.P f)) (both (Nat.ble H.nx k'.nx) (both (SJ A.tm (mkT k'.slots) (mK E.P f)) (both (SI H.t k'.objs) (QC A.dfr))))=true:=hchk;simp only[dv,aT]at hchk';obtain⟨h0,h1,h2,h3,h4⟩:=hchk';have A0:A.nt=mK E.P f:=aN h0;simp only[Mark.fits,aT]at D4;obtain⟨f1,f2,f3,f4⟩:=D4;have f1':mK E.P f<=1048576:=aY f1;have f4':k'.nx<=1099511627776:=aY f4;have V1:H.nx<=k'.nx:=aY h1;have L3:∀id o,k'.hp.get id=some o->(∃o1,H.get id=some o1/\EB o1 o)/\id<k'.nx:=λid o ho=>by obtain⟨g1,g2⟩:=Fj (n:=k'.nx) aa f3 (k:=id) (a:=o) ho;exact⟨Ns h3 _ g2,g1⟩
  refine⟨⟨⟨?_,f1',λt=>?_⟩,?_⟩,⟨λid o ho=>?_,λid id' o o' g g' p p' a b c d=>?_,λid hid=>?_,λid g a b=>hR.free id g (aD V1 a) b⟩,
   λid o g p a b c=>?_⟩
  ·have:=hA.tm.1;rw[this];exact A0
  ·have hAt:=hA.tm.2.2 t;show AR β' (vO (mkT k'.slots) t) _;rcases cO t (mK E.P f)with ht|ht
   ·rcases Nt h2 t ht with e|e
    ·rw[<-e];exact hAt
    rw[e];trivial
   have M1:a'.tmps.size=mK E.P f:=by have:=hA.tm.1;rw[this];exact A0
   have hu:a'.tmps.getD t undef=undef:=by simp only[ue];rw[Array.getElem?_eq_none aa];rfl
   rw[hu];unfold vO;cases R2:(mkT k'.slots).get t with
   |none=>exact pH β'
   |some v=>have:=(Fj (n:=mK E.P f) aa f2 R2).1;omega
  ·have hd:A.dfr=[]:=by
    have h4':QC A.dfr=true:=h4;cases hdd:A.dfr with
    |nil=>rfl
    |cons _ _=>rw[hdd]at h4';cases h4'
   have:=hA.df;have e:(⟨mkT k'.slots,mK E.P f,[]⟩:ag).dfr=A.dfr:=hd.symm;show pJ β' (⟨mkT k'.slots,mK E.P f,[]⟩:ag).dfr a'.defers;rw[e];exact this
  ·obtain⟨⟨o1,g1,g2⟩,_⟩:=L3 id o ho;exact g2.obj (hR.obj id o1 g1)
  ·obtain⟨⟨o1,g1,g2⟩,_⟩:=L3 id o a;obtain⟨⟨o2,g3,g4⟩,_⟩:=L3 id' o' b;rw[<-g2.ro,<-g4.ro];exact hR.sep id id' o1 o2 g g' p p' g1 g3 (g2.gen c) (g4.gen d)
  ·cases R2:k'.hp.get id with
   |none=>rfl
   |some o=>have:=(L3 id o R2).2;have Q7:k'.nx<=id:=hid;omega
  obtain⟨⟨o1,g1,g2⟩,_⟩:=L3 id o a;rcases hx.prov id o1 g p g1 (g2.gen b) c with h|⟨o0,g0,p0,a1,a2,a3,a4⟩
  ·have:=hg.2.2.2.1;omega
  have:=hp id o0 g0 p0 a1 a2 a3;omega
section
variable{E:Env}(hE:uh E)
include hE
omit hE in
theorem Eg{rec:Rec}(M0:RecM rec):∀(l:List Code)(a:ag)(h:Hp),RG h.nx nE (Ga E rec l a h)
 |[],a,h=>RG.one (ai _)
 |c::l,a,h=>RG.bind (nx:=nE) (uK M0 c none a h) λx hx=>qg ((Eg M0 l _ _).le hx) (λ_=>RG.bad) RG.bad
omit hE in
theorem II(c:Code){l:List Code}(h:l≠[]):lB (c::l)=.seq c (lB l):=by
 cases l with
 |nil=>exact absurd rfl h
 |cons x l=>rfl
theorem Vi{n:Nat}{Q:Exit->Act->World->Prop}{t:List Code}(ht:t≠[]):∀(l:List Code){β:Pl}{H:Hp}{w:World}{A:ag}{a:Act}{outs:List (ax×ag×Hp)},Rel (2^40) β H w->jz β A a ->
  Ga E (eval E n) l A H=.ok outs->(∀x∈outs,nE x<=2^40)->(∀x∈outs,x.1=.normal)->(∀a' w',fN (2^40) β H w outs .normal a' w'->(lB t).wpIn (fen none) 0 E.P Q a' w')->(lB (l++t)).wpIn (fen none) 0 E.P Q a w
 |[],β,H,w,A,a,outs,hR,hA,h,hb,hn,hQ=>by
  cases h
  exact hQ a w ⟨_,List.mem_singleton.2 rfl,trivial,β,hA,hR,Ext.refl _ _ _⟩
 |c::l,β,H,w,A,a,outs,hR,hA,h,hb,hn,hQ=>by
  have h':((codeF E c).run (eval E n) none A H).bind (λx=>exE x.1 (Ga E (eval E n) l x.2.1 x.2.2) (λ_=>.bad "piece - exit") (.bad "piece - return"))=.ok outs:=h
  obtain⟨zs,hz,hk⟩:=R.fv h';have I1:l++t≠[]:=by simp[ht]
  show(lB (c::(l++t))).wpIn (fen none) 0 E.P Q a w;rw[II c I1];have hbz:∀z∈zs,nE z<=2^40:=λz hz=>by obtain⟨o,ho,hs⟩:=hk z hz;exact RG.qL (k:=nE z) (nx:=nE) (qg (Eg (oC E n) l _ _) (λ_=>RG.bad) RG.bad) ho hs hb
  refine wpIn_seq (Go.wpIn_mono (uJ hE (HT hE) (uP hE (HT hE) n) (oC E n) c (r:=none) (rB:=none) (ai _) hR hA rfl hz hbz).1 λe a1 w1 hp=>?_);obtain⟨z,hzm,T7,β1,q8,b7,B1⟩:=hp;obtain⟨o,ho,hs⟩:=hk z hzm;rcases sa ho with⟨I6,h1⟩|⟨i,I6,h1⟩|⟨I6,h1⟩
  ·rw[T7.normal I6];exact Vi ht l b7 q8 h1 (λq hq=>hb q (hs q hq)) (λq hq=>hn q (hs q hq)) λa' w' j6=>hQ a' w' (j6.ext B1 hs)
  ·cases h1
  cases h1
def MS(w0:World)(e:Ending)(w:World):Prop:=e=.returned (.bool true)/\Grown w0 w
def Good(E:Env)(f:FuncId)(fn:Func)(w0:World)(i:Nat)(k:Mark):Prop:=
 ∀a w,At E f k w0 a w->(lB ((kW E.P f).drop i)).wpIn (fen none) 0 E.P (bodyPostM Fence.wide 0 E.P fn (MS w0)) a w
theorem Bk{n:Nat}{f:FuncId}{fn:Func}{w0:World}{i d:Nat}{k k':Mark}(h:piece E n f i d k k'=true)(hl:i+d<(kW E.P f).length)(hg:Good E f fn w0 (i+d) k'):Good E f fn w0 i k:=by
 intro a w Q0;unfold piece at h;rw[dv,aT]at h;obtain⟨D4,h⟩:=h;obtain⟨outs,hr,hchk⟩:=MY h;obtain⟨B2,β,hA,hR,hp⟩:=Q0;have hfit4:k'.nx<=1099511627776:=by simp only[Mark.fits,aT]at D4;exact aY D4.2.2.2
 have hnorm:∀x∈outs,x.1=.normal/\nE x<=k'.nx:=λx hx=>by
  have hc:=hchk x hx;unfold EY at hc;cases Y0:x.1 with
  |exit i=>rw[Y0]at hc;cases hc
  |ret=>rw[Y0]at hc;cases hc
  |normal=>rw[Y0]at hc;have hc':both (Nat.beq x.2.1.nt (mK E.P f)) (both (Nat.ble x.2.2.nx k'.nx) (both (SJ x.2.1.tm (mkT k'.slots) (mK E.P f)) (both (SI x.2.2.t k'.objs) (QC x.2.1.dfr))))=true:=hc;simp only[dv,aT]at hc';exact⟨rfl,aY hc'.2.1⟩
 have hsplit:(kW E.P f).drop i=((kW E.P f).drop i).take d++(kW E.P f).drop (i+d):=by rw[<-iy,ud]
 rw[hsplit];have I1:(kW E.P f).drop (i+d)≠[]:=by
  intro e;have:=congrArg List.length e;simp at this
  omega
 refine Vi hE I1 _ hR hA hr (λx hx=>aD (hnorm x hx).2 hfit4) (λx hx=>(hnorm x hx).1) λa' w' N3=>?_;obtain⟨x,hx,_,β',hA',hR',B1⟩:=N3;exact hg a' w' (At.next B2 hp D4 (hchk x hx) hA' hR' B1).2
theorem Xg{n:Nat}{f:FuncId}{fn:Func}(hf:E.P.funcs[f]?=some fn){w0:World}{i:Nat}{k:Mark}(h:Dt E n f i k=true):Good E f fn w0 i k:=by
 intro a w Q0;obtain⟨outs,hr,hchk⟩:=MY h;obtain⟨B2,β,hA,hR,hp⟩:=Q0;have V4:Vc E.P f=fn.results.toList:=by unfold Vc;rw[hf]
 rw[V4]at hr;obtain⟨zs,hz,hk⟩:=R.fv hr;have L2:∀x∈outs,x.1=.one (.b true)/\nV x<=2^40:=λx hx=>by
  have hc:=hchk x hx;rw[dv,aT]at hc;refine⟨?_,aY hc.2⟩;have h1:=hc.1;obtain⟨v,H⟩:=x;cases v with
  |one c=>cases c with
   |b b=>cases b with|true=>rfl|false=>cases h1
   |i _ _=>cases h1
   |o _=>cases h1
  |agg _=>cases h1
  |tup _=>cases h1
  |any=>cases h1
 have hbz:∀z∈zs,nE z<=2^40:=λz hz=>by obtain⟨o,ho,hs⟩:=hk z hz;exact RG.qL (tC (ai _)) ho hs λx hx=>(L2 x hx).2
 refine Go.wpIn_mono (uJ hE (HT hE) (uP hE (HT hE) n) (oC E n) _ (r:=none) (rB:=none) (ai _) hR hA rfl hz hbz).1 λe a1 w1 N3=>?_;obtain⟨z,hzm,T7,β1,q8,b7,B1⟩:=N3;obtain⟨o,ho,hs⟩:=hk z hzm;have hmono:∀e w',mZ (2^40) β k.hp w outs e w'->MS w0 e w':=by rintro e w' ⟨v,rfl,x,hx,β2,hv,_,U7⟩;rw[(L2 x hx).1]at hv;have q5:v=.bool true:=hv;subst q5;exact⟨rfl,It B2 hp U7⟩
 exact zX (E:=E) (ai _) T7 q8 b7 B1 (hbz z hzm) ho hs hmono
omit hE in
theorem BS{f:FuncId}{fn:Func}(hf:E.P.funcs[f]?=some fn)(hb0:fn.body.isSome=true)(hnt0:Nat.ble fn.ntmps 1048576=true){w0:World}(h:Good E f fn w0 0 ⟨[],[],0⟩):Calls E.P f #[] w0 (MS w0):=by
 obtain⟨c,hb⟩:=Option.isSome_iff_exists.1 hb0;have A0:fn.ntmps<=1048576:=aY hnt0;have hbody:kW E.P f=spine c:=by unfold kW;rw[hf];simp only[hb]
 have hn:mK E.P f=fn.ntmps:=by unfold mK;rw[hf]
 refine(callsIn_wide (n:=0)).1 (callsIn_of_wp_marks hf hb trivial ?_);have h0:=h { tmps:=#[]++Array.replicate (fn.ntmps-(#[]:Array Value).size) undef,defers:=[] } w0 ⟨⟨rfl,rfl,rfl,ai _,λ_ _=>rfl⟩,λ_ _=>none,⟨?_,trivial⟩,⟨λid o ho=>(by cases ho),λid _ o _ _ _ _ _ ho=>(by cases ho),λ_ _=>rfl,λ_ _ _ _=>rfl⟩,λid o _ _ ho=>(by cases ho)⟩
 ·rw[List.drop_zero,hbody,va]at h0;exact h0
 have:=Nc (β:=λ_ _=>none) (nt:=fn.ntmps) A0 (args:=[]) (vs:=[]) trivial (Nat.zero_le _);show TmR _ (mkT []) (mK E.P f) _;rw[hn];exact this
end
end Go.Eng
end
