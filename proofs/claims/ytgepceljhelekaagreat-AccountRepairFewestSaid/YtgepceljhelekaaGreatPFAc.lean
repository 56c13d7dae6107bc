/- A part of the proof: EngDraw2, EngDraw3, EngDraw4, EngChunk. No conditions. -/
import Derived.Test.YtgepceljhelekaaGreatPFAb
set_option maxRecDepth 100000
set_option maxHeartbeats 64000000
set_option linter.all false
noncomputable section
namespace Go.Eng
open Go
structure DS where
 A:aa
 H:Hp
 did:List Did
structure DR where
 ran:Bool
 av:AV
 sub:PT aJ
 H':Hp
def DR.wr(r:DR)(s:DS):List Nat:=db r.sub s.H.nx r.H'.log
def tG(A:aa)(d:Option Tmp)(v:AV):aa:=match d with|none=>A|some d=>A.put d v
structure WD(E:Env)(rec:Rec)(ops:Array Oper)(j:Nat)(o:Oper)(m:Nat)(s s':DS)(r:DR):Prop where
 slot:∀d,o.dst=some d->d<s.A.nt
 act:s'.A=tG s.A o.dst r.av
 yes:r.ran=true->(∀y n:R (aa×Hp),bB s.A.tm (gOf ops.toList o.guard) y n=y)∧r.sub=aO s.H.t s.H.nx s.A.tm o (aL m s.did) ∧
  SP E rec s.A.tm ⟨r.sub,s.H.nx,[]⟩ (aI E.P o)=.ok [(r.av,r.H')]∧eC (aL m s.did) (r.wr s)=true ∧
  s'.H=⟨cM (bm o) s.H r.H' (aL m s.did) (r.wr s),r.H'.nx,r.wr s++s.H.log⟩∧s'.did=note (bm o) j r.sub s.H r.H' s.did (r.wr s)
 no:r.ran=false->(∀y n:R (aa×Hp),bB s.A.tm (gOf ops.toList o.guard) y n=n)∧r.av=aD∧r.sub=.leaf∧r.H'=⟨.leaf,s.H.nx,[]⟩∧s'.H=s.H∧s'.did=s.did
def DD{tm:PT AV}{g:Option (Option Tmp×Bool)}{yes no:R (aa×Hp)}{outs:List (aa×Hp)}(h:bB tm g yes no=.ok outs):
  ((∀y n:R (aa×Hp),bB tm g y n=y)∧yes=.ok outs)∨((∀y n:R (aa×Hp),bB tm g y n=n)∧no=.ok outs):=by
 cases g with
 |none=>exact .inl ⟨λ_ _=>rfl,h⟩
 |some p=>
  obtain⟨t,w⟩:=p
  cases t with
  |none=>exact .inr ⟨λ_ _=>rfl,h⟩
  |some t=>
   cases hv:tm.get t with
   |none=>
    have e:∀y n:R (aa×Hp),bB tm (some (some t,w)) y n=n:=λy n=>by simp[bB,aw,hv]
    exact .inr ⟨e,by rw[e]at h;exact h⟩
   |some v=>
    have e:∀y n:R (aa×Hp),bB tm (some (some t,w)) y n=AV.rec (motive:=λ_=>R (aa×Hp)) (λc=>acE c (λb=>ifE b (ifE w y n) (ifE w n y)) (λ_ _=>n) (λ_=>.bad "guard")) (λ_=>n) (λ_=>n) (.bad "guard") v:=
     λy n=>by simp[bB,aw,hv]
    rw[e]at h;cases v with
    |one c=>
     cases c with
     |b b=>cases b<;>cases w<;>first|exact .inl ⟨λy n=>e y n,h⟩|exact .inr ⟨λy n=>e y n,h⟩
     |i k n=>exact .inr ⟨λy n=>e y n,h⟩
     |o q=>cases h
    |agg l=>exact .inr ⟨λy n=>e y n,h⟩
    |tup l=>exact .inr ⟨λy n=>e y n,h⟩
    |any=>cases h
def uT{a:aa}{dst:Option Tmp}{v:AV}{h:Hp}{k:aa->Hp->R (aa×Hp)}{outs:List (aa×Hp)}(hk:fA a dst v h k=.ok outs):(∀d,dst=some d->d<a.nt)∧k (tG a dst v) h=.ok outs:=by
 cases dst with
 |none=>exact⟨λd hd=>(by cases hd),hk⟩
 |some d=>
  have O3:ifE (Nat.blt d a.nt) (k (a.put d v) h) (.bad "slot")=.ok outs:=hk
  rw[bL]at O3;split at O3
  ·rename_i hd
   exact⟨λd' L9=>by cases L9;exact zA4 hd,O3⟩
  cases O3
def Fg{E:Env}{rec:Rec}{ops:Array Oper}:∀(l:List Oper)(j:Nat)(ms:List Nat)(did:List Did)(A:aa)(H:Hp)(outs:List (aa×Hp)),cJ E rec (fH E.P ops.toList l) j ms did A H=.ok outs ->
  ∃(S:Nat->DS)(T:Nat->DR),S 0=⟨A,H,did⟩∧(∀k o,l[k]?=some o->WD E rec ops (j+k) o (ms.getD k 0) (S k) (S (k+1)) (T k))∧outs=[((S l.length).A,(S l.length).H)]
 |[],j,ms,did,A,H,outs,h=>by
  cases h
  exact⟨λ_=>⟨A,H,did⟩,λ_=>⟨false,aD,.leaf,H⟩,rfl,λk o h=>by simp at h,rfl⟩
 |o::l,j,[],did,A,H,outs,h=>by cases h
 |o::l,j,m::ms,did,A,H,outs,h=>by
  have h':bB A.tm (gOf ops.toList o.guard)
    (vM (bm o) j A o.dst H (aO H.t H.nx A.tm o (aL m did)) (aL m did) did (cJ E rec (fH E.P ops.toList l) (Nat.add j 1) ms) (SP E rec A.tm ⟨aO H.t H.nx A.tm o (aL m did),H.nx,[]⟩ (aI E.P o)))
    (fA A o.dst aD H (cJ E rec (fH E.P ops.toList l) (Nat.add j 1) ms did))=.ok outs:=h
  have e1:∀k,Nat.add j 1+k=j+(k+1):=λk=>by show j+1+k=_;omega
  have key:∀(s':DS)(r:DR),WD E rec ops j o m ⟨A,H,did⟩ s' r->cJ E rec (fH E.P ops.toList l) (Nat.add j 1) ms s'.did s'.A s'.H=.ok outs ->
    ∃(S:Nat->DS)(T:Nat->DR),S 0=⟨A,H,did⟩∧(∀k o',(o::l)[k]?=some o'->WD E rec ops (j+k) o' ((m::ms).getD k 0) (S k) (S (k+1)) (T k))∧outs=[((S (o::l).length).A,(S (o::l).length).H)]:=by
   intro s' r hl hr;obtain⟨S,T,h0,h1,h2⟩:=Fg l (Nat.add j 1) ms s'.did s'.A s'.H outs hr
   refine⟨λk=>match k with|0=>⟨A,H,did⟩|k+1=>S k,λk=>match k with|0=>r|k+1=>T k,rfl,λk o' ho=>?_,h2⟩
   cases k with
   |zero=>
    simp at ho
    subst ho;have:S 0=s':=by rw[h0]
    simpa [this]using hl
   |succ k=>
    have:=h1 k o' (by simpa using ho);rw[e1]at this;simpa using this
  rcases DD h' with⟨hw,hy⟩|⟨hw,hn⟩
  ·cases hx:SP E rec A.tm ⟨aO H.t H.nx A.tm o (aL m did),H.nx,[]⟩ (aI E.P o)with
   |bad s=>rw[hx]at hy;cases hy
   |ok xs=>
    rw[hx]at hy;cases xs with
    |nil=>cases hy
    |cons x xs=>
     cases xs with
     |cons _ _=>cases hy
     |nil=>
      have hy':ifE (eC (aL m did) (db (aO H.t H.nx A.tm o (aL m did)) H.nx x.2.log))
       (fA A o.dst x.1 ⟨cM (bm o) H x.2 (aL m did) (db (aO H.t H.nx A.tm o (aL m did)) H.nx x.2.log),x.2.nx,db (aO H.t H.nx A.tm o (aL m did)) H.nx x.2.log++H.log⟩
        (cJ E rec (fH E.P ops.toList l) (Nat.add j 1) ms (note (bm o) j (aO H.t H.nx A.tm o (aL m did)) H x.2 did (db (aO H.t H.nx A.tm o (aL m did)) H.nx x.2.log))))
       (.bad "draw - two operations that may change places touch one object")=.ok outs:=hy
      rw[bL]at hy';split at hy'
      ·rename_i hf
       obtain⟨hs,hk⟩:=uT hy'
       refine key ⟨tG A o.dst x.1,_,_⟩ ⟨true,x.1,aO H.t H.nx A.tm o (aL m did),x.2⟩ ⟨hs,rfl,λ_=>⟨hw,rfl,?_,hf,rfl,rfl⟩,λh=>(by cases h)⟩ hk;exact hx
      cases hy'
  obtain⟨hs,hk⟩:=uT hn
  exact key ⟨tG A o.dst aD,H,did⟩ ⟨false,aD,.leaf,⟨.leaf,H.nx,[]⟩⟩ ⟨hs,rfl,λh=>(by cases h),λ_=>⟨hw,rfl,rfl,rfl,rfl,rfl⟩⟩ hk
structure Gk(E:Env)(rec:Rec)(ops:Array Oper)(S:Nat->DS)(T:Nat->DR):Prop where
 first:(S 0).did=[]
 link:∀k o,ops[k]?=some o->WD E rec ops k o ((dM [] 0 ops.toList).getD k 0) (S k) (S (k+1)) (T k)
 stat:dP ops=true
def dst(ops:Array Oper)(k:Nat):Option Tmp:=match ops[k]? with|some o=>o.dst|none=>none
def mask(ops:Array Oper)(k:Nat):Nat:=(dM [] 0 ops.toList).getD k 0
def cX(S:Nat->DS)(T:Nat->DR)(k id:Nat):Prop:=id∈(T k).wr (S k)∨((S k).H.nx≤id∧id<(T k).H'.nx)
structure Fact(S:Nat->DS)(T:Nat->DR)(k:Nat):Prop where
 dom:∀id o,(T k).sub.get id=some o->∃o',(T k).H'.get id=some o'
 old:∀id o',(T k).H'.get id=some o'->(∃o,(T k).sub.get id=some o)∨((S k).H.nx≤id∧id<(T k).H'.nx)
 log:∀id,id<(S k).H.nx->id∉(T k).wr (S k)->(T k).H'.get id=(T k).sub.get id
open Classical in
def ovH(S:Nat->DS)(T:Nat->DR)(D:Nat->Prop):Nat->Nat->Option aJ
 |0,id=>(S 0).H.get id
 |k+1,id=>if D k∧cX S T k id then(T k).H'.get id else ovH S T D k id
open Classical in
def ovT(ops:Array Oper)(S:Nat->DS)(T:Nat->DR)(D:Nat->Prop):Nat->aa
 |0=>(S 0).A
 |k+1=>if D k then tG (ovT ops S T D k) (dst ops k) (T k).av else ovT ops S T D k
section
variable{S:Nat->DS}{T:Nat->DR}
theorem tQ{D:Nat->Prop}{k id:Nat}(h:D k)(h':cX S T k id):ovH S T D (k+1) id=(T k).H'.get id:=by
 unfold ovH;exact zB0 ⟨h,h'⟩
theorem nD{D:Nat->Prop}{k id:Nat}(h:D k->¬cX S T k id):ovH S T D (k+1) id=ovH S T D k id:=by
 conv=>lhs;unfold ovH
 exact zB1 λhh=>h hh.1 hh.2
theorem jo{ops:Array Oper}{D:Nat->Prop}{k:Nat}(h:D k):ovT ops S T D (k+1)=tG (ovT ops S T D k) (dst ops k) (T k).av:=by
 conv=>lhs;unfold ovT
 exact zB0 h
theorem nJ{ops:Array Oper}{D:Nat->Prop}{k:Nat}(h:¬D k):ovT ops S T D (k+1)=ovT ops S T D k:=by
 conv=>lhs;unfold ovT
 exact zB1 h
theorem ko{D D':Nat->Prop}{id:Nat}:∀{n:Nat},(∀i,i<n->cX S T i id->(D i↔D' i))->ovH S T D n id=ovH S T D' n id
 |0,_=>rfl
 |n+1,h=>by
  have ih:=ko (D:=D) (D':=D') (id:=id) (n:=n) λi hi=>h i (by omega);by_cases ht:cX S T n id
  ·have:=h n (by omega) ht;by_cases hd:D n
   ·rw[tQ hd ht,tQ (this.1 hd) ht]
   rw[nD λh=>absurd h hd,nD λh=>absurd (this.2 h) hd,ih]
  rw[nD λ_=>ht,nD λ_=>ht,ih]
theorem ud{D:Nat->Prop}{id k:Nat}:∀{n:Nat},k≤n->(∀i,k≤i->i<n->D i->¬cX S T i id)->ovH S T D n id=ovH S T D k id
 |0,hk,_=>by have:k=0:=by omega
             subst this;rfl
 |n+1,hk,h=>by
  by_cases o7:k=n+1
  ·subst o7;rfl
  rw[nD λhd=>h n (by omega) (by omega) hd];exact ud (by omega) λi h1 h2=>h i h1 (by omega)
theorem WS{D:Nat->Prop}{id j:Nat}:∀{n:Nat},j<n->(cX S T j id->∀i,j<i->i<n->D i->¬cX S T i id)->(cX S T j id->ovH S T (λi=>D i∨i=j) n id=(T j).H'.get id)∧(¬cX S T j id->ovH S T (λi=>D i∨i=j) n id=ovH S T D n id):=by
 intro n hj h;refine⟨λht=>?_,λht=>?_⟩
 ·rw[ud (k:=j+1) (by omega) λi h1 h2 hd=>?_]
  ·exact tQ (.inr rfl) ht
  rcases hd with hd|rfl
  ·exact h ht i (by omega) h2 hd
  omega
 refine ko λi hi P5=>?_;refine⟨λhd=>hd.elim (λh=>h) λhe=>?_,.inl⟩
 subst he;exact absurd P5 ht
variable{ops:Array Oper}
theorem VJ(A:aa)(d:Option Tmp)(v:AV):(tG A d v).nt=A.nt:=by cases d<;>rfl
theorem Tz(A:aa)(d:Option Tmp)(v:AV):(tG A d v).dfr=A.dfr:=by cases d<;>rfl
theorem jY{A:aa}{d:Option Tmp}{v:AV}(hd:∀x,d=some x->x<x+1)(t:Nat):(tG A d v).tm.get t=if d=some t then some v else A.tm.get t:=by
 cases d with
 |none=>simp[tG]
 |some x=>
  show(A.tm.set x v).get t=_
  rw[PT.nU _ _ _ _ (hd x rfl)];by_cases h:t=x
  ·subst h;simp
  rw[zB1 h,zB1 (by simpa usingλe=>h e.symm)]
theorem Bq{D:Nat->Prop}:∀n,(ovT ops S T D n).nt=(S 0).A.nt
 |0=>rfl
 |n+1=>by
  by_cases h:D n
  ·rw[jo h,VJ,Bq n]
  rw[nJ h,Bq n]
theorem Cw{D:Nat->Prop}:∀n,(ovT ops S T D n).dfr=(S 0).A.dfr
 |0=>rfl
 |n+1=>by
  by_cases h:D n
  ·rw[jo h,Tz,Cw n]
  rw[nJ h,Cw n]
section
variable(C0:∀k x,dst ops k=some x->x<x+1)
include C0
theorem jS{D D':Nat->Prop}{t:Nat}:∀{n:Nat},(∀i,i<n->dst ops i=some t->(D i↔D' i))->(ovT ops S T D n).tm.get t=(ovT ops S T D' n).tm.get t
 |0,_=>rfl
 |n+1,h=>by
  have ih:=jS (D:=D) (D':=D') (t:=t) (n:=n) λi hi=>h i (by omega);by_cases ht:dst ops n=some t
  ·have:=h n (by omega) ht;by_cases hd:D n
   ·rw[jo hd,jo (this.1 hd),jY (C0 n),jY (C0 n),zB0 ht,zB0 ht]
   rw[nJ hd,nJ λh=>hd (this.2 h),ih]
  have e:∀(D:Nat->Prop),(ovT ops S T D (n+1)).tm.get t=(ovT ops S T D n).tm.get t:=λD=>by
   by_cases hd:D n
   ·rw[jo hd,jY (C0 n),zB1 ht]
   rw[nJ hd]
  rw[e,e,ih]
theorem um{D:Nat->Prop}{t k:Nat}:∀{n:Nat},k≤n->(∀i,k≤i->i<n->D i->dst ops i≠some t)->(ovT ops S T D n).tm.get t=(ovT ops S T D k).tm.get t
 |0,hk,_=>by have:k=0:=by omega
             subst this;rfl
 |n+1,hk,h=>by
  by_cases o7:k=n+1
  ·subst o7;rfl
  have ih:=um (D:=D) (t:=t) (k:=k) (n:=n) (by omega) λi h1 h2=>h i h1 (by omega);by_cases hd:D n
  ·rw[jo hd,jY (C0 n),zB1 (h n (by omega) (by omega) hd),ih]
  rw[nJ hd,ih]
theorem Wa{D:Nat->Prop}{j:Nat}{n:Nat}(hj:j<n)(h:∀t,dst ops j=some t->∀i,j<i->i<n->D i->dst ops i≠some t)(t:Nat):
  (ovT ops S T (λi=>D i∨i=j) n).tm.get t=(tG (ovT ops S T D n) (dst ops j) (T j).av).tm.get t:=by
 rw[jY (C0 j)];by_cases ht:dst ops j=some t
 ·rw[zB0 ht,um C0 (k:=j+1) (by omega) λi h1 h2 hd=>?_]
  ·rw[jo (.inr rfl),jY (C0 j),zB0 ht]
  rcases hd with hd|rfl
  ·exact h t ht i (by omega) h2 hd
  omega
 rw[zB1 ht];refine jS C0 λi hi P5=>⟨λhd=>hd.elim (λh=>h) λhe=>?_,.inl⟩;subst he;exact absurd P5 ht
end
end
section
variable{E:Env}{rec:Rec}{ops:Array Oper}{S:Nat->DS}{T:Nat->DR}(hc:Gk E rec ops S T)(I0:RecM rec)
theorem fg{k:Nat}(hk:k<ops.size):∃o,ops[k]?=some o:=⟨ops[k],by simp[hk]⟩
theorem PN{k:Nat}{o:Oper}(ho:ops[k]?=some o):dst ops k=o.dst:=by unfold dst;rw[ho]
theorem mX{k x:Nat}(h:dst ops k=some x):∃o,ops[k]?=some o∧o.dst=some x:=by
 unfold dst at h;split at h
 ·rename_i o ho;exact⟨o,ho,h⟩
 cases h
def vd(S:Nat->DS)(T:Nat->DR)(i:Nat):Did:=⟨i,(T i).sub,(S i).H.nx,(T i).H'.nx,(T i).wr (S i)⟩
theorem jH{i id:Nat}:bO (vd S T i) id=true↔cX S T i id:=kS
theorem fO{i id:Nat}(h:id∈(T i).wr (S i)):id<(S i).H.nx∧∃o,(T i).sub.get id=some o:=(iI.1 h).2
include hc
theorem kT{k:Nat}{o:Oper}(ho:ops[k]?=some o)(hr:(T k).ran=false):(T k).sub=.leaf∧(T k).H'=⟨.leaf,(S k).H.nx,[]⟩∧(S (k+1)).H=(S k).H∧(S (k+1)).did=(S k).did:=
 let ⟨_,_,h1,h2,h3,h4⟩:=(hc.link k o ho).no hr
 ⟨h1,h2,h3,h4⟩
theorem kq{k:Nat}{o:Oper}(ho:ops[k]?=some o)(hr:(T k).ran=false)(id:Nat):¬cX S T k id:=by
 obtain⟨h1,h2,_,_⟩:=kT hc ho hr
 rintro(h|h)
 ·obtain⟨_,o',h'⟩:=fO h
  rw[h1]at h';cases h'
 rw[h2]at h;exact absurd h (by simp)
include I0
theorem nN{k:Nat}(hk:k<ops.size):(S k).H.nx≤(T k).H'.nx∧(S (k+1)).H.nx=(T k).H'.nx:=by
 obtain⟨o,ho⟩:=fg hk
 cases hr:(T k).ran with
 |false=>
  obtain⟨h1,h2,h3,_⟩:=kT hc ho hr
  rw[h2,h3];exact⟨zA1 _,rfl⟩
 |true=>
  obtain⟨_,h2,h3,_,h5,_⟩:=(hc.link k o ho).yes hr
  refine⟨?_,by rw[h5]⟩
  have hn:NM ⟨(T k).sub,(S k).H.nx,[]⟩ ((aI E.P o).run (S k).A.tm ⟨(T k).sub,(S k).H.nx,[]⟩):=BV o;exact(yu I0 hn _ h3).2 _ (List.mem_singleton.2 rfl)
theorem iw{i:Nat}:∀{k:Nat},i≤k->k≤ops.size->(S i).H.nx≤(S k).H.nx
 |0,h,_=>by have:i=0:=by omega
            subst this;exact zA1 _
 |k+1,h,hk=>by
  by_cases hik:i=k+1
  ·subst hik;exact zA1 _
  have h1:=iw (i:=i) (k:=k) (by omega) (by omega);have h2:=nN hc I0 (k:=k) (by omega);omega
theorem zg{i k:Nat}(h:i<k)(hk:k≤ops.size):(T i).H'.nx≤(S k).H.nx:=by
 rw[<-(nN hc I0 (k:=i) (by omega)).2];exact iw hc I0 (by omega) hk
theorem rj{i id:Nat}(hi:i<ops.size)(h:cX S T i id):id<(T i).H'.nx:=by
 rcases h with h|h
 ·exact zA0 (fO h).1 (nN hc I0 hi).1
 exact h.2
omit I0 in
theorem LB:∀{k:Nat},k≤ops.size->∀u∈(S k).did,∃i,i<k∧(T i).ran=true∧u=vd S T i
 |0,_,u,hu=>by rw[hc.first]at hu;cases hu
 |k+1,hk,u,hu=>by
  obtain⟨o,ho⟩:=fg (ops:=ops) (k:=k) (by omega)
  have ih:=λhu=>LB (k:=k) (by omega) u hu;have ih':u∈(S k).did->∃i,i<k+1∧(T i).ran=true∧u=vd S T i:=λhu=>by
   obtain⟨i,h1,h2⟩:=ih hu
   exact⟨i,by omega,h2⟩
  cases hr:(T k).ran with
  |false=>
   rw[(kT hc ho hr).2.2.2]at hu;exact ih' hu
  |true=>
   obtain⟨_,_,_,_,_,h6⟩:=(hc.link k o ho).yes hr
   rw[h6]at hu;unfold note at hu;rw[bL]at hu;split at hu
   ·exact ih' hu
   rcases List.mem_cons.1 hu with rfl|hu
   ·exact⟨k,by omega,hr,rfl⟩
   exact ih' hu
omit I0 in
theorem CQ{i:Nat}{o:Oper}(ho:ops[i]?=some o)(hr:(T i).ran=true)(hn:bm o≠0∨(S i).H.nx≠(T i).H'.nx):∀{k:Nat},i<k->k≤ops.size->vd S T i∈(S k).did
 |0,h,_=>by omega
 |k+1,h,hk=>by
  by_cases hik:i=k
  ·subst hik;obtain⟨_,_,_,_,_,h6⟩:=(hc.link i o ho).yes hr
   rw[h6];unfold note;rw[bL,zB1]
   ·exact List.mem_cons_self ..
   rw[cF,Bool.and_eq_true];rintro⟨h1,h2⟩
   have N5:=zA3 h1;have F8:=zA3 h2;exact hn.elim (λh=>h N5) λh=>h F8
  have ih:=CQ ho hr hn (k:=k) (by omega) (by omega);obtain⟨o',D3⟩:=fg (ops:=ops) (k:=k) (by omega)
  cases E3:(T k).ran with
  |false=>rw[(kT hc D3 E3).2.2.2];exact ih
  |true=>
   obtain⟨_,_,_,_,_,h6⟩:=(hc.link k o' D3).yes E3
   rw[h6];unfold note;rw[bL];split
   ·exact ih
   exact List.mem_cons_of_mem _ ih
variable(M0:(S ops.size).H.nx≤(S ops.size).H.nx)
include M0
theorem gi{k:Nat}(hk:k≤ops.size){u:Did}(hu:u∈(S k).did):u.c0≤u.c1∧∀id,bO u id=true->id<(S k).H.nx∧id<id+1:=by
 have _hb:=M0;obtain⟨i,hi,_,rfl⟩:=LB hc hk u hu
 refine⟨(nN hc I0 (k:=i) (by omega)).1,λid ht=>?_⟩
 have h1:=rj hc I0 (i:=i) (by omega) (jH.1 ht);have h2:=zg hc I0 hi hk;have h3:=iw hc I0 hk (zA1 _);omega
theorem gI{k:Nat}(hk:k<ops.size){o:Oper}(ho:ops[k]?=some o){id:Nat}{x:aJ}(h:(T k).sub.get id=some x):
  (T k).ran=true∧bm o≠0∧(S k).H.get id=some x∧∀u∈aL (mask ops k) (S k).did,bO u id=false:=by
 cases hr:(T k).ran with
 |false=>
  rw[(kT hc ho hr).1]at h;cases h
 |true=>
  obtain⟨_,h2,_⟩:=(hc.link k o ho).yes hr
  have F8:(T k).sub=aO (S k).H.t (S k).H.nx (S k).A.tm o (aL (mask ops k) (S k).did):=h2;rw[F8]at h;refine⟨rfl,?_⟩
  have V0:(S k).H.nx≤(S k).H.nx:=zA1 _;unfold aO at h;split at h
  ·cases h
  ·rename_i hl
   rw[iW]at h
   ·split at h
    ·rename_i hm
     rw[List.mem_filter,Bool.and_eq_true]at hm;refine⟨by rw[hl];decide,h,λu hu=>?_⟩
     have:=hm.2.2;simp only[Bool.not_eq_true',List.any_eq_false,Bool.not_eq_true]at this;exact this u hu
    cases h
   intro i hi;rw[List.mem_filter,Bool.and_eq_true]at hi;have:i<(S k).H.nx:=zA4 hi.2.1;omega
  rename_i k9 X_
  have E0:∀i,i∈(aL (mask ops k) (S k).did).flatMap eb->∃u∈aL (mask ops k) (S k).did,bO u i=true:=λi hi=>by
   obtain⟨u,hu,hi⟩:=List.mem_flatMap.1 hi
   exact⟨u,hu,(pk (gi hc I0 M0 (by omega) (cm.1 hu).1).1).1 hi⟩
  rw[oQ]at h
  ·split at h
   ·cases h
   rename_i hm
   refine⟨λh0=>k9 h0,h,λu hu=>?_⟩
   cases htu:bO u id with
   |false=>rfl
   |true=>
    exact absurd (List.mem_flatMap.2 ⟨u,hu,(pk (gi hc I0 M0 (by omega) (cm.1 hu).1).1).2 htu⟩) hm
  intro i hi;obtain⟨u,hu,ht⟩:=E0 i hi
  exact((gi hc I0 M0 (k:=k) (by omega) (cm.1 hu).1).2 i ht).2
theorem EP{k:Nat}(hk:k<ops.size)(hf:Fact S T k)(Z8:∀id,(S k).H.nx≤id->(S k).H.get id=none)(id:Nat):
  (cX S T k id->(S (k+1)).H.get id=(T k).H'.get id)∧(¬cX S T k id->(S (k+1)).H.get id=(S k).H.get id):=by
 obtain⟨o,ho⟩:=fg hk
 cases hr:(T k).ran with
 |false=>
  refine⟨λh=>absurd h (kq hc ho hr id),λ_=>?_⟩
  rw[(kT hc ho hr).2.2.1]
 |true=>
  have V0:(T k).H'.nx≤(T k).H'.nx:=zA1 _;have hle:=(nN hc I0 hk).1;obtain⟨_,h2,_,h4,h5,_⟩:=(hc.link k o ho).yes hr
  have l7:∀i,i∈cd (S k).H.nx (Nat.sub (T k).H'.nx (S k).H.nx)↔(S k).H.nx≤i∧i<(T k).H'.nx:=λi=>by
   rw[lB];have e:(S k).H.nx+Nat.sub (T k).H'.nx (S k).H.nx=(T k).H'.nx:=by
    show(S k).H.nx+((T k).H'.nx-(S k).H.nx)=_
    omega
   rw[e]
  have e:(S (k+1)).H.get id=(cM (bm o) (S k).H (T k).H' (aL (mask ops k) (S k).did) ((T k).wr (S k))).get id:=by rw[h5];rfl
  rw[e];have i':∀i∈(T k).wr (S k),i<i+1:=λi hi=>by have:=(fO hi).1;omega
  have P3:∀i∈cd (S k).H.nx (Nat.sub (T k).H'.nx (S k).H.nx),i<i+1:=λi hi=>by have:=(l7 i).1 hi;omega
  cases hl:bm o with
  |zero=>
   show(cX S T k id->(bP (S k).H.t (T k).H'.t (cd (S k).H.nx (Nat.sub (T k).H'.nx (S k).H.nx))).get id=_)∧(_->(bP (S k).H.t (T k).H'.t (cd (S k).H.nx (Nat.sub (T k).H'.nx (S k).H.nx))).get id=_)
   rw[iW P3];have hnw:id∉(T k).wr (S k):=λh=>by
    obtain⟨_,x,hx⟩:=fO h
    exact(gI hc I0 M0 hk ho hx).2.1 hl
   refine⟨λh=>?_,λh=>?_⟩
   ·rw[zB0 ((l7 id).2 (h.resolve_left hnw))];rfl
   rw[zB1 λhh=>h (.inr ((l7 id).1 hh))];rfl
  |succ l=>
   cases l with
   |zero=>
    show(cX S T k id->(bP (S k).H.t (T k).H'.t ((T k).wr (S k)++cd (S k).H.nx (Nat.sub (T k).H'.nx (S k).H.nx))).get id=_)∧(_->(bP (S k).H.t (T k).H'.t ((T k).wr (S k)++cd (S k).H.nx (Nat.sub (T k).H'.nx (S k).H.nx))).get id=_)
    rw[iW λi hi=>(List.mem_append.1 hi).elim (i' i) (P3 i)];refine⟨λh=>?_,λh=>?_⟩
    ·rw[zB0 (List.mem_append.2 (h.imp_right (l7 id).2))];rfl
    rw[zB1 λhh=>h ((List.mem_append.1 hh).imp_right (l7 id).1)];rfl
   |succ l=>
    show(cX S T k id->(bP (T k).H'.t (S k).H.t ((aL (mask ops k) (S k).did).flatMap eb)).get id=_)∧(_->(bP (T k).H'.t (S k).H.t ((aL (mask ops k) (S k).did).flatMap eb)).get id=_)
    have E0:∀i,i∈(aL (mask ops k) (S k).did).flatMap eb->∃u∈aL (mask ops k) (S k).did,bO u i=true:=λi hi=>by
     obtain⟨u,hu,hi⟩:=List.mem_flatMap.1 hi
     exact⟨u,hu,(pk (gi hc I0 M0 (by omega) (cm.1 hu).1).1).1 hi⟩
    rw[iW λi hi=>by
     obtain⟨u,hu,ht⟩:=E0 i hi
     exact((gi hc I0 M0 (k:=k) (by omega) (cm.1 hu).1).2 i ht).2]
    refine⟨λh=>?_,λh=>?_⟩
    ·rw[zB1 λhh=>?_]
     ·rfl
     obtain⟨u,hu,ht⟩:=E0 id hh
     rcases h with h|h
     ·obtain⟨_,x,hx⟩:=fO h
      have:=(gI hc I0 M0 hk ho hx).2.2.2 u hu;rw[ht]at this;cases this
     have:=((gi hc I0 M0 (k:=k) (by omega) (cm.1 hu).1).2 id ht).1;omega
    by_cases hm:id∈(aL (mask ops k) (S k).did).flatMap eb
    ·rw[zB0 hm];rfl
    rw[zB1 hm];show(T k).H'.get id=_
    by_cases hid:id<(S k).H.nx
    ·rw[hf.log id hid λhh=>h (.inl hh)];have F8:(T k).sub=aO (S k).H.t (S k).H.nx (S k).A.tm o (aL (mask ops k) (S k).did):=h2;have e2:(T k).sub=lR (S k).H.t ((aL (mask ops k) (S k).did).flatMap eb):=by
      rw[F8];unfold aO;rw[hl];rfl
     rw[e2,oQ λi hi=>by
      obtain⟨u,hu,ht⟩:=E0 i hi
      exact((gi hc I0 M0 (k:=k) (by omega) (cm.1 hu).1).2 i ht).2]
     rw[zB1 hm];rfl
    rw[Z8 id (by omega)];cases hg:(T k).H'.get id with
    |none=>rfl
    |some x=>
     rcases hf.old id x hg with⟨y,hy⟩|hh
     ·have:=(gI hc I0 M0 hk ho hy).2.2.1;rw[Z8 id (by omega)]at this;cases this
     exact absurd (.inr hh) h
theorem law{h0:∀id,(S 0).H.nx≤id->(S 0).H.get id=none}:∀{k:Nat},k≤ops.size->(∀i,i<k->Fact S T i) ->
  (∀id,(S k).H.nx≤id->(S k).H.get id=none)∧∀id,(S k).H.get id=ovH S T (λ_=>True) k id
 |0,_,_=>⟨h0,λ_=>rfl⟩
 |k+1,hk,hf=>by
  obtain⟨hw,hl⟩:=law (h0:=h0) (k:=k) (by omega) λi hi=>hf i (by omega)
  have hs:=EP hc I0 M0 (k:=k) (by omega) (hf k (by omega)) hw;have hn:=nN hc I0 (k:=k) (by omega);refine⟨λid hid=>?_,λid=>?_⟩
  ·rw[(hs id).2 λht=>?_]
   ·exact hw id (by omega)
   have:=rj hc I0 (by omega) ht;omega
  by_cases ht:cX S T k id
  ·rw[(hs id).1 ht,tQ trivial ht]
  rw[(hs id).2 ht,hl,nD λ_=>ht]
variable{D:Nat->Prop}
omit hc I0 M0 in
theorem nY(he:∀i o,ops[i]?=some o->D i->∀e∈o.after.toList,fi e=true->D e.on):∀(k i:Nat),i<k->i<ops.size->D i->∀b,Nat.testBit (mask ops i) b=true->D b
 |0,i,h,_,_,_,_=>by omega
 |k+1,i,h,hi,hd,b,hb=>by
  obtain⟨o,ho⟩:=fg hi
  have q7:Nat.testBit ((dM [] 0 ops.toList).getD (0+i) 0) b=true:=by rw[Nat.zero_add];exact hb
  obtain⟨e,V6,hu,C0,hor⟩:=pn ops.toList [] 0 rfl i o (by simpa using ho) b q7
  have hde:=he i o ho hd e V6 hu;rcases hor with rfl|hor
  ·exact hde
  exact nY he k e.on (by omega) (by omega) hde b hor
omit hc I0 M0 in
theorem Ea(he:∀i o,ops[i]?=some o->D i->∀e∈o.after.toList,fi e=true->D e.on){j:Nat}{o:Oper}(ho:ops[j]?=some o)(hj:∀e∈o.after.toList,fi e=true->D e.on)(b:Nat)(hb:Nat.testBit (mask ops j) b=true):D b:=by
 have C0:j<ops.size:=getElem?_lt' ho;have q7:Nat.testBit ((dM [] 0 ops.toList).getD (0+j) 0) b=true:=by rw[Nat.zero_add];exact hb
 obtain⟨e,V6,hu,hl,hor⟩:=pn ops.toList [] 0 rfl j o (by simpa using ho) b q7
 have hde:=hj e V6 hu;rcases hor with rfl|hor
 ·exact hde
 exact nY he (e.on+1) e.on (by omega) (by omega) hde b hor
where getElem?_lt' {j:Nat} {o:Oper} (h:ops[j]?=some o):j<ops.size:=(Array.getElem?_eq_some_iff.1 h).1
omit I0 M0 in
theorem uI{i j:Nat}(hij:i<j){x y:Oper}(hx:ops[i]?=some x)(hy:ops[j]?=some y)(hb:Nat.testBit (mask ops j) i=false):yp ops x y=false:=by
 have hs:=hc.stat;unfold dP at hs;rw[Bool.and_eq_true]at hs;have:=qa (pre:=[]) hs.1 j y (by simpa using hy) i x (by simpa using hij) (by simpa using hx);exact this.resolve_left λh=>by rw[show(dM [] 0 ops.toList).getD j 0=mask ops j from rfl,hb]at h;cases h
variable(J1:∀i,i<ops.size->D i->∀b,Nat.testBit (mask ops i) b=true->D b){j:Nat}(hj:j<ops.size)(Z4:¬D j)
include J1 hj Z4
theorem Yz(id:Nat)(ht:cX S T j id)(i:Nat)(hji:j<i)(hi:i<ops.size)(hd:D i):¬cX S T i id:=by
 intro P5;obtain⟨o,ho⟩:=fg hj
 obtain⟨oi,C9⟩:=fg hi
 have W9:Nat.testBit (mask ops i) j=false:=by
  cases h:Nat.testBit (mask ops i) j with
  |false=>rfl
  |true=>exact absurd (J1 i hi hd j h) Z4
 have hran:(T j).ran=true:=by
  cases h:(T j).ran with
  |false=>exact absurd ht (kq hc ho h id)
  |true=>rfl
 have Y':(T i).ran=true:=by
  cases h:(T i).ran with
  |false=>exact absurd P5 (kq hc C9 h id)
  |true=>rfl
 have hnote:bm o≠0∨(S j).H.nx≠(T j).H'.nx:=by
  rcases ht with ht|ht
  ·obtain⟨_,x,hx⟩:=fO ht
   exact .inl (gI hc I0 M0 hj ho hx).2.1
  exact .inr (by omega)
 have E0:vd S T j∈aL (mask ops i) (S i).did:=cm.2 ⟨CQ hc ho hran hnote hji (by omega),W9⟩;rcases P5 with P5|P5
 ·obtain⟨_,x,hx⟩:=fO P5
  have:=(gI hc I0 M0 hi C9 hx).2.2.2 _ E0;rw[jH.2 ht]at this;cases this
 have h1:=rj hc I0 hj ht;have h2:=zg hc I0 hji (k:=i) (by omega);omega
omit I0 M0 hj in
theorem Yb(t:Nat)(ht:dst ops j=some t)(i:Nat)(hji:j<i)(hi:i<ops.size)(hd:D i):dst ops i≠some t:=by
 intro P5;obtain⟨o,ho,hot⟩:=mX ht
 obtain⟨oi,C9,hoit⟩:=mX P5
 have W9:Nat.testBit (mask ops i) j=false:=by
  cases h:Nat.testBit (mask ops i) j with
  |false=>rfl
  |true=>exact absurd (J1 i hi hd j h) Z4
 exact((oK (uI hc hji ho C9 W9)).1 t hot).2 hoit
variable(hp:∀b,Nat.testBit (mask ops j) b=true->D b)
include hp
theorem VU{h0:∀id,(S 0).H.nx≤id->(S 0).H.get id=none}(hf:∀i,i<j->Fact S T i)(id:Nat)(x:aJ)(h:(T j).sub.get id=some x):ovH S T D ops.size id=some x:=by
 obtain⟨o,ho⟩:=fg hj
 obtain⟨hran,I3,hg,S6⟩:=gI hc I0 M0 hj ho h
 obtain⟨Z8,P8⟩:=law hc I0 M0 (h0:=h0) (k:=j) (by omega) hf
 have hid:id<(S j).H.nx:=by
  rcases Nat.lt_or_ge id (S j).H.nx with hh|hh
  ·exact hh
  rw[Z8 id hh]at hg;cases hg
 have e:ovH S T D ops.size id=ovH S T (λi=>i<j) ops.size id:=by
  refine ko λi hi P5=>⟨λhd=>?_,λhij=>?_⟩
  ·rcases Nat.lt_or_ge i j with hh|hh
   ·exact hh
   exfalso;have Z0:i≠j:=λe=>Z4 (e▸hd);have hji:j<i:=by omega
   obtain⟨oi,C9⟩:=fg hi
   have W9:Nat.testBit (mask ops i) j=false:=by
    cases h:Nat.testBit (mask ops i) j with
    |false=>rfl
    |true=>exact absurd (J1 i hi hd j h) Z4
   have Y':(T i).ran=true:=by
    cases h:(T i).ran with
    |false=>exact absurd P5 (kq hc C9 h id)
    |true=>rfl
   have E0:vd S T j∈aL (mask ops i) (S i).did:=cm.2 ⟨CQ hc ho hran (.inl I3) hji (by omega),W9⟩;rcases P5 with P5|P5
   ·obtain⟨_,_,_,h4,_⟩:=(hc.link i oi C9).yes Y'
    have:=rh h4 _ E0 id P5;have h':(vd S T j).M1.get id=some x:=h;rw[h']at this;cases this
   have h2:=iw hc I0 (i:=j) (k:=i) (by omega) (by omega);omega
  obtain⟨oi,C9⟩:=fg hi
  have Y':(T i).ran=true:=by
   cases h:(T i).ran with
   |false=>exact absurd P5 (kq hc C9 h id)
   |true=>rfl
  cases hb:Nat.testBit (mask ops j) i with
  |true=>exact hp i hb
  |false=>
   exfalso;have hnote:bm oi≠0∨(S i).H.nx≠(T i).H'.nx:=by
    rcases P5 with ht|ht
    ·obtain⟨_,x,hx⟩:=fO ht
     exact .inl (gI hc I0 M0 hi C9 hx).2.1
    exact .inr (by omega)
   have:=S6 _ (cm.2 ⟨CQ hc C9 Y' hnote hij (by omega),hb⟩);rw[jH.2 P5]at this;cases this
 rw[e,ud (k:=j) (by omega) λi h1 _ h2=>absurd h2 (by omega),<-hg,P8];exact ko λi hi _=>⟨λ_=>trivial,λ_=>hi⟩
end
section
variable{E:Env}{rec:Rec}{ops:Array Oper}{S:Nat->DS}{T:Nat->DR}(hc:Gk E rec ops S T)
include hc
theorem CK:∀{k:Nat},k≤ops.size->(S k).A=ovT ops S T (λ_=>True) k
 |0,_=>rfl
 |k+1,hk=>by
  obtain⟨o,ho⟩:=fg (ops:=ops) (k:=k) (by omega)
  rw[jo trivial,(hc.link k o ho).act,CK (k:=k) (by omega),PN ho]
theorem XT{k x:Nat}(h:dst ops k=some x):x<(S 0).A.nt:=by
 obtain⟨o,ho,hx⟩:=mX h
 have C0:k<ops.size:=(Array.getElem?_eq_some_iff.1 ho).1;have:=(hc.link k o ho).slot x hx;rw[CK hc (k:=k) (by omega),Bq]at this;exact this
theorem Wj(A0:(S 0).A.nt≤1048576){D:Nat->Prop}(J1:∀i,i<ops.size->D i->∀b,Nat.testBit (mask ops i) b=true->D b){j:Nat}(hj:j<ops.size)(Z4:¬D j)(hp:∀b,Nat.testBit (mask ops j) b=true->D b)
  {o:Oper} (ho:ops[j]?=some o) {t:Nat} (ht:t∈slotsOf ops o):(ovT ops S T D ops.size).tm.get t=(S j).A.tm.get t:=by
 have C0:∀k x,dst ops k=some x->x<x+1:=λk x h=>zA6 _;have e:(ovT ops S T D ops.size).tm.get t=(ovT ops S T (λi=>i<j) ops.size).tm.get t:=by
  refine jS C0 λi hi P5=>⟨λhd=>?_,λhij=>?_⟩
  ·rcases Nat.lt_or_ge i j with hh|hh
   ·exact hh
   exfalso;have Z0:i≠j:=λe=>Z4 (e▸hd);have hji:j<i:=by omega
   obtain⟨oi,C9,hoit⟩:=mX P5
   have W9:Nat.testBit (mask ops i) j=false:=by
    cases h:Nat.testBit (mask ops i) j with
    |false=>rfl
    |true=>exact absurd (J1 i hi hd j h) Z4
   exact(oK (uI hc hji ho C9 W9)).2 t hoit ht
  obtain⟨oi,C9,hoit⟩:=mX P5
  cases hb:Nat.testBit (mask ops j) i with
  |true=>exact hp i hb
  |false=>exact absurd ht ((oK (uI hc hij C9 ho hb)).1 t hoit).1
 rw[e,um C0 (k:=j) (by omega) λi h1 _ h2=>absurd h2 (by omega),CK hc (k:=j) (by omega)];exact jS C0 λi hi _=>⟨λ_=>trivial,λ_=>hi⟩
omit hc in
theorem Rh{tm tm':PT AV}{x:Operand}(h:∀t,x=.tmp t->tm.get t=tm'.get t):ev tm x=ev tm' x:=by
 cases x with
 |tmp t=>
  show aw (tm.get t) aD (λv=>v)=aw (tm'.get t) aD (λv=>v);rw[h t rfl]
 |_=>rfl
omit hc in
theorem Fs{tm tm':PT AV}{o:Oper}(h:∀t∈slotsOf ops o,tm.get t=tm'.get t)(y n:R (aa×Hp)):bB tm (gOf ops.toList o.guard) y n=bB tm' (gOf ops.toList o.guard) y n:=by
 cases hg:o.guard with
 |none=>rfl
 |some p=>
  obtain⟨q,w⟩:=p
  unfold gOf;simp only[Array.getElem?_toList];cases hq:ops[q]? with
  |none=>rfl
  |some oq=>
   cases hd:oq.dst with
   |none=>simp only[hd];rfl
   |some t=>
    have ht:t∈slotsOf ops o:=by
     unfold slotsOf;refine List.mem_append_right _ ?_;rw[hg];unfold zZ;simp[hq,hd]
    simp only[hd];unfold bB;simp only[yg];rw[h t ht]
end
def TmR.ext{β:Pl}{tm tm':PT AV}{nt:Nat}{tmps:Array Value}(h:TmR β tm nt tmps)(he:∀t,tm'.get t=tm.get t):TmR β tm' nt tmps:=
 ⟨h.1,h.2.1,λt=>by rw[he];exact h.2.2 t⟩
def fk.has{β:Pl}{w:World}{id:Nat}{o:aJ}(h:fk β w id o):∃g p,β id g=some p:=by
 cases o with
 |arr cells e lo gen=>
  obtain⟨p,hp,_⟩:=h.2.1 lo (zA1 _) h.1
  exact⟨lo,p,hp⟩
 |oth x=>
  obtain⟨p,hp,_⟩:=h
  exact⟨0,p,hp⟩
 |ro x=>
  obtain⟨p,hp,_⟩:=h
  exact⟨0,p,hp⟩
structure St(ops:Array Oper)(S:Nat->DS)(T:Nat->DR)(m:Nat)(β0:Pl)(w0:World)(D:Nat->Prop)(β:Pl)(a:Act)(w:World):Prop where
 tm:TmR β (ovT ops S T D ops.size).tm (S 0).A.nt a.tmps
 df:ng β (S 0).A.dfr a.defers
 obj:∀id o,ovH S T D ops.size id=some o->fk β w id o
 sep:∀id id' o o' g g' p p',ovH S T D ops.size id=some o->ovH S T D ops.size id'=some o'->dd o g->dd o' g'->β id g=some p->β id' g'=some p'->p.b=p'.b->id=id'∨(o.jJ=true∧o'.jJ=true)
 fresh:∀j,j<ops.size->¬D j->∀id g,(S j).H.nx≤id->id<(T j).H'.nx->β id g=none
 free:∀id g,(S ops.size).H.nx≤id->id<m->β id g=none
 sub:Sub β0 β
 loc:∀id g p,β id g=some p->β0 id g=some p∨((S 0).H.nx≤id∧id<(S ops.size).H.nx)∨∃o,(S 0).H.get id=some o
 size:w0.heap.size≤w.heap.size
 os:w.os=w0.os
 tape:w.tape=w0.tape
 output:w.output=w0.output
 frame:∀b,b<w0.heap.size->(∀id o g p,(S 0).H.get id=some o->Vw o g->β0 id g=some p->p.b≠b)->w.heap[b]?=w0.heap[b]?
 prov:∀id o g p,ovH S T D ops.size id=some o->dd o g->β id g=some p->w0.heap.size≤p.b∨∃o0 g0 p0,(S 0).H.get id=some o0∧dd o0 g0∧β0 id g0=some p0∧p0.b=p.b∧o0.jJ=o.jJ
 dom:∀id o,(S 0).H.get id=some o->∃o',ovH S T D ops.size id=some o'
 old:∀id o,ovH S T D ops.size id=some o->(∃o,(S 0).H.get id=some o)∨((S 0).H.nx≤id∧id<(S ops.size).H.nx)
 far:∀b,b<w0.heap.size->(∀id o g p,(∃i,i<ops.size∧D i∧id∈(T i).wr (S i))->(S 0).H.get id=some o->Vw o g->β0 id g=some p->p.b≠b)->w.heap[b]?=w0.heap[b]?
def St.congr{ops:Array Oper}{S:Nat->DS}{T:Nat->DR}{m:Nat}{β0:Pl}{w0:World}{D D':Nat->Prop}{β:Pl}{a:Act}{w:World}(h:St ops S T m β0 w0 D β a w)(C0:∀k x,dst ops k=some x->x<x+1)
  (hd:∀i,i<ops.size->(D i↔D' i)):St ops S T m β0 w0 D' β a w:=by
 have e:∀id,ovH S T D' ops.size id=ovH S T D ops.size id:=λid=>ko λi hi _=>(hd i hi).symm;have e':∀t,(ovT ops S T D' ops.size).tm.get t=(ovT ops S T D ops.size).tm.get t:=λt=>jS C0 λi hi _=>(hd i hi).symm
 exact{ tm:=h.tm.ext e',df:=h.df,obj:=λid o ho=>h.obj id o (by rw[<-e];exact ho),sep:=λid id' o o' g g' p p' h1 h2=>h.sep id id' o o' g g' p p' (by rw[<-e];exact h1) (by rw[<-e];exact h2),
        fresh:=λj hj hn=>h.fresh j hj λhh=>hn ((hd j hj).1 hh),free:=h.free,sub:=h.sub,loc:=h.loc,size:=h.size,os:=h.os,tape:=h.tape,output:=h.output,frame:=h.frame,
        prov:=λid o g p h1=>h.prov id o g p (by rw[<-e];exact h1),dom:=λid o ho=>by rw[e];exact h.dom id o ho,old:=λid o ho=>h.old id o (by rw[<-e];exact ho),
        far:=λb hb hn=>h.far b hb λid o g p⟨i,h1,h2,h3⟩=>hn id o g p ⟨i,h1,(hd i h1).1 h2,h3⟩ }
section
variable{E:Env}{rec:Rec}{ops:Array Oper}{S:Nat->DS}{T:Nat->DR}(hc:Gk E rec ops S T)(I0:RecM rec)(M0:(S ops.size).H.nx≤(S ops.size).H.nx)
variable{m:Nat}{β0:Pl}{w0:World}{D:Nat->Prop}{β:Pl}{a:Act}{w:World}
theorem St.rel(h:St ops S T m β0 w0 D β a w){j:Nat}(hj:j<ops.size)(Z4:¬D j)(S2:∀id x,(T j).sub.get id=some x->ovH S T D ops.size id=some x)(Z8:∀id x,(T j).sub.get id=some x->id<(S j).H.nx):
  Rel (T j).H'.nx β ⟨(T j).sub,(S j).H.nx,[]⟩ w where
 obj:=λid o ho=>h.obj id o (S2 id o ho)
 sep:=λid id' o o' g g' p p' h1 h2=>h.sep id id' o o' g g' p p' (S2 id o h1) (S2 id' o' h2)
 wf:=λid hid=>by
  cases hg:(T j).sub.get id with
  |none=>exact hg
  |some x=>exact absurd (Z8 id x hg) (by have:(S j).H.nx≤id:=hid;omega)
 free:=λid g h1 h2=>h.fresh j hj Z4 id g h1 h2
theorem Fact.of{j:Nat}{β β':Pl}{w w':World}(hx:Ext β ⟨(T j).sub,(S j).H.nx,[]⟩ w β' (T j).H' w'):Fact S T j where
 dom:=λid o ho=>hx.dom id o ho
 old:=λid o ho=>hx.old id o ho
 log:=λid hid hn=>by
  obtain⟨l,hl,hg⟩:=hx.log
  have J7:(T j).H'.log=l:=by rw[hl];simp
  by_cases hm:id∈l
  ·cases hs:(T j).sub.get id with
   |some x=>exact absurd (iI.2 ⟨by rw[J7];exact hm,hid,x,hs⟩) hn
   |none=>
    cases Y1:(T j).H'.get id with
    |none=>rfl
    |some y=>
     rcases hx.old id y Y1 with⟨z,hz⟩|hz
     ·have:(T j).sub.get id=some z:=hz;rw[hs]at this;cases this
     have:(S j).H.nx≤id:=hz.1;omega
  exact hg id hid hm
include hc I0
theorem St.step(A0:(S 0).A.nt≤1048576)(h:St ops S T m β0 w0 D β a w){j:Nat}(hj:j<ops.size)(Z4:¬D j)(S2:∀id x,(T j).sub.get id=some x->ovH S T D ops.size id=some x)(Z8:∀id x,(T j).sub.get id=some x->id<(S j).H.nx)
  (hcoH:∀id,cX S T j id->∀i,j<i->i<ops.size->D i->¬cX S T i id) (hcoT:∀t,dst ops j=some t->∀i,j<i->i<ops.size->D i->dst ops i≠some t)
  {v:Value} {w':World} (ho:Out (T j).H'.nx β ⟨(T j).sub,(S j).H.nx,[]⟩ w [((T j).av,(T j).H')] v w'):Fact S T j∧∃β',St ops S T m β0 w0 (λi=>D i∨i=j) β' (a.put (dst ops j) v) w':=by
 obtain⟨x,hx,β',hv,P7,U3⟩:=ho
 rw[List.mem_singleton]at hx;subst hx;have hx:Ext β ⟨(T j).sub,(S j).H.nx,[]⟩ w β' (T j).H' w':=U3;have hf:Fact S T j:=Fact.of hx;refine⟨hf,β',?_⟩
 have C0:∀k x,dst ops k=some x->x<x+1:=λk x h=>zA6 _;have hadd:=λid=>WS (S:=S) (T:=T) (D:=D) (id:=id) hj (hcoH id);have h0j:(S 0).H.nx≤(S j).H.nx:=iw hc I0 (Nat.zero_le _) (by omega);have hjn:(T j).H'.nx≤(S ops.size).H.nx:=zg hc I0 hj (zA1 _);have split_:∀id o,ovH S T (λi=>D i∨i=j) ops.size id=some o ->
   ((T j).H'.get id=some o∧((∃y,(T j).sub.get id=some y)∨((S j).H.nx≤id∧id<(T j).H'.nx)))∨(ovH S T D ops.size id=some o∧(T j).sub.get id=none∧¬cX S T j id):=by
  intro id o hg;by_cases ht:cX S T j id
  ·rw[(hadd id).1 ht]at hg;refine .inl ⟨hg,?_⟩;rcases ht with ht|ht
   ·exact .inl (fO ht).2
   exact .inr ht
  rw[(hadd id).2 ht]at hg;cases hs:(T j).sub.get id with
  |none=>exact .inr ⟨hg,rfl,ht⟩
  |some y=>
   have:=S2 id y hs;rw[hg]at this;cases this
   refine .inl ⟨?_,.inl ⟨_,rfl⟩⟩;rw[hf.log id (Z8 id _ hs) λhh=>ht (.inl hh)];exact hs
 have a7:∀id,(T j).sub.get id=none->¬cX S T j id->∀g,β' id g=β id g:=by
  intro id hs ht g;cases hb:β' id g with
  |some p=>
   rcases hx.loc id g p hb with h1|h1|⟨o,h1⟩
   ·exact h1.symm
   ·exact absurd (.inr h1) ht
   have:(T j).sub.get id=some o:=h1;rw[hs]at this;cases this
  |none=>
   cases q7:β id g with
   |none=>rfl
   |some p=>rw[hx.sub id g p q7]at hb;cases hb
 have hkeep:∀id o g p,ovH S T D ops.size id=some o->(T j).sub.get id=none->dd o g->β id g=some p->w'.heap[p.b]?=w.heap[p.b]?:=by
  intro id o g p hg hs hgk hp;refine hx.frame p.b ((h.obj id o hg).lt hgk hp) λid' o' g' p' h1 h2 h3 h4=>?_;have N5:(T j).sub.get id'=some o':=h1;rcases h.sep id' id o' o g' g p' p (S2 id' o' N5) hg h2.1 hgk h3 hp h4 with this|⟨this,_⟩
  ·subst this;rw[hs]at N5;cases N5
  rw[h2.2]at this;cases this
 have Y9:∀id o g p,((T j).H'.get id=some o∧((∃y,(T j).sub.get id=some y)∨((S j).H.nx≤id∧id<(T j).H'.nx)))->dd o g->β' id g=some p ->
   w.heap.size≤p.b∨∃o0 g0 p0,ovH S T D ops.size id=some o0∧dd o0 g0∧β id g0=some p0∧p0.b=p.b∧o0.jJ=o.jJ:=by
  intro id o g p hg hgk hp;rcases hx.prov id o g p hg.1 hgk hp with h1|⟨o0,g0,p0,h1,h2,h3,h4⟩
  ·exact .inl h1
  exact .inr ⟨o0,g0,p0,S2 id o0 h1,h2,h3,h4⟩
 have hobj:∀id o,ovH S T (λi=>D i∨i=j) ops.size id=some o->fk β' w' id o:=by
  intro id o hg;rcases split_ id o hg with hl|⟨Y1,hs,ht⟩
  ·exact P7.obj id o hl.1
  exact fk.mono hx.sub (h.obj id o Y1) (a7 id hs ht) λg p hgk hp=>hkeep id o g p Y1 hs hgk hp
 have m7:∀id,(∀g,β id g=none)->(T j).sub.get id=none:=by
  intro id hn;cases hs:(T j).sub.get id with
  |none=>rfl
  |some y=>
   obtain⟨g,p,hp⟩:=(h.obj id y (S2 id y hs)).has
   rw[hn g]at hp;cases hp
 refine{ tm:=?_,df:=?_,obj:=hobj,sep:=?_,fresh:=?_,free:=?_,sub:=λid g p hp=>hx.sub _ _ _ (h.sub _ _ _ hp),loc:=?_,size:=zA2 h.size hx.size,os:=hx.os.trans h.os,tape:=hx.tape.trans h.tape,
         output:=hx.output.trans h.output,frame:=?_,prov:=?_,dom:=?_,old:=?_,far:=?_ }
 ·
  have h1:=h.tm.mono hx.sub;have h2:TmR β' (tG (ovT ops S T D ops.size) (dst ops j) (T j).av).tm (S 0).A.nt (a.put (dst ops j) v).tmps:=by
   cases hd:dst ops j with
   |none=>exact h1
   |some d=>exact h1.put (XT hc hd) hv
  exact h2.ext λt=>Wa C0 hj hcoT t
 ·have h1:=ng.mono hx.sub h.df;cases dst ops j with
  |none=>exact h1
  |some d=>exact h1
 ·
  intro id id' o o' g g' p p' h1 h2 h3 h4 h5 h6 h7;rcases split_ id o h1 with hl|⟨O',J5,ht1⟩
  ·rcases split_ id' o' h2 with J7|⟨L_,L3,ht2⟩
   ·exact P7.sep id id' o o' g g' p p' hl.1 J7.1 h3 h4 h5 h6 h7
   rw[a7 id' L3 ht2]at h6;rcases Y9 id o g p hl h3 h5 with h8|⟨o0,g0,p0,a1,a2,a3,a4,a5⟩
   ·have:=(h.obj id' o' L_).lt h4 h6;omega
   rw[<-a5];exact h.sep id id' o0 o' g0 g' p0 p' a1 L_ a2 h4 a3 h6 (a4.trans h7)
  rw[a7 id J5 ht1]at h5;rcases split_ id' o' h2 with J7|⟨L_,L3,ht2⟩
  ·rcases Y9 id' o' g' p' J7 h4 h6 with h8|⟨o0,g0,p0,a1,a2,a3,a4,a5⟩
   ·have:=(h.obj id o O').lt h3 h5;omega
   rw[<-a5];exact h.sep id id' o o0 g g0 p p0 O' a1 h3 a2 h5 a3 (h7.trans a4.symm)
  rw[a7 id' L3 ht2]at h6;exact h.sep id id' o o' g g' p p' O' L_ h3 h4 h5 h6 h7
 ·
  intro k hk hn id g h1 h2;have hnk:¬D k:=λhh=>hn (.inl hh);have hkj:k≠j:=λhh=>hn (.inr hh);have hb:∀g,β id g=none:=λg=>h.fresh k hk hnk id g h1 h2;have hnt':¬cX S T j id:=by
   rintro(ht|ht)
   ·obtain⟨_,y,hy⟩:=fO ht
    rw[m7 id hb]at hy;cases hy
   rcases Nat.lt_or_ge k j with hh|hh
   ·have:=zg hc I0 hh (k:=j) (by omega);omega
   have hjk:j<k:=by omega
   have:=zg hc I0 hjk (k:=k) (by omega);omega
  rw[a7 id (m7 id hb) hnt'];exact hb g
 ·
  intro id g h1 h2;have hb:∀g,β id g=none:=λg=>h.free id g h1 h2;have hnt':¬cX S T j id:=λht=>by
   have:=rj hc I0 hj ht;omega
  rw[a7 id (m7 id hb) hnt'];exact hb g
 ·intro id g p hp;rcases hx.loc id g p hp with h1|h1|⟨o,h1⟩
  ·exact h.loc id g p h1
  ·exact .inr (.inl ⟨zA2 h0j h1.1,zA0 h1.2 hjn⟩)
  rcases h.old id o (S2 id o h1)with h2|h2
  ·exact .inr (.inr h2)
  exact .inr (.inl h2)
 ·intro b hb hn;rw[hx.frame b (zA0 hb h.size) ?_,h.frame b hb hn];intro id o g p h1 h2 h3 h4;rcases h.prov id o g p (S2 id o h1) h2.1 h3 with h5|⟨o0,g0,p0,a1,a2,a3,a4,a5⟩
  ·omega
  exact hn id o0 g0 p0 a1 ⟨a2,a5.trans h2.2⟩ a3 (a4.trans h4)
 ·intro id o g p h1 h2 h3;rcases split_ id o h1 with hl|⟨O',J5,ht1⟩
  ·rcases Y9 id o g p hl h2 h3 with h8|⟨o0,g0,p0,a1,a2,a3,a4,a5⟩
   ·have:=h.size;exact .inl (by omega)
   rcases h.prov id o0 g0 p0 a1 a2 a3 with h5|⟨o1,g1,p1,b1,b2,b3,b4,b5⟩
   ·exact .inl (by omega)
   exact .inr ⟨o1,g1,p1,b1,b2,b3,b4.trans a4,b5.trans a5⟩
  rw[a7 id J5 ht1]at h3;exact h.prov id o g p O' h2 h3
 ·intro id o h1;by_cases ht:cX S T j id
  ·rw[(hadd id).1 ht];rcases ht with ht|ht
   ·obtain⟨_,y,hy⟩:=fO ht
    exact hf.dom id y hy
   obtain⟨o',D3⟩:=h.dom id o h1
   obtain⟨g,p,hp⟩:=(h.obj id o' D3).has
   rw[h.fresh j hj Z4 id g ht.1 ht.2]at hp;cases hp
  rw[(hadd id).2 ht];exact h.dom id o h1
 ·intro id o h1;rcases split_ id o h1 with⟨_,⟨y,hy⟩|hl⟩|⟨O',_,_⟩
  ·exact h.old id y (S2 id y hy)
  ·exact .inr ⟨zA2 h0j hl.1,zA0 hl.2 hjn⟩
  exact h.old id o O'
 intro b hb hn;rw[hx.far (T j).H'.log (by simp) b (zA0 hb h.size) ?_,h.far b hb λid o g p⟨i,h1,h2,h3⟩=>hn id o g p ⟨i,h1,.inl h2,h3⟩];intro id o g p hid h1 h2 h3 h4;have N5:(T j).sub.get id=some o:=h1;rcases h.prov id o g p (S2 id o N5) h2.1 h3 with h5|⟨o0,g0,p0,a1,a2,a3,a4,a5⟩
 ·omega
 exact hn id o0 g0 p0 ⟨j,hj,.inr rfl,iI.2 ⟨hid,Z8 id o N5,o,N5⟩⟩ a1 ⟨a2,a5.trans h2.2⟩ a3 (a4.trans h4)
end
def IH{F:Fence}{n:Nat}{P:Program}{o:Oper}{a:Act}{X:Prop}{r:Result Next}(hF:∀k,F.room k)(w0:World)(h:o.uponIn F n P a (λ_ _=>X) (λ_ _ _=>False) r):X:=by
 cases r with
 |halt x w'=>cases x<;>exact False.elim h
 |ok x w'=>
  cases x with
  |value v=>exact h
  |skip=>exact h
  |defer d=>exact h
  |enter f args=>
   obtain⟨e,w'',fr,hr,_⟩:=h.2.2 [] (hF _)
   cases e with
   |returned v=>exact hr
   |panicked c=>exact False.elim hr
   |outgrown=>obtain⟨_,_,hr⟩:=hr;exact False.elim hr
  |row row args=>
   obtain⟨v,w'',hr,_⟩:=h.2 (Frame.enter P 0 #[] .normal) [] (hF _)
   exact hr
  |round l f tmps assign body=>
   obtain⟨e,w'',hr,_⟩:=h.2.2 (Frame.enter P 0 #[] .normal) [] (hF _)
   cases e with
   |returned v=>exact hr
   |panicked c=>exact False.elim hr
   |outgrown=>obtain⟨_,_,hr⟩:=hr;exact False.elim hr
  |_=>exact False.elim h
section
variable{E:Env}(hE:qC E){N:Nat}{rec:Rec}(J0:Cp E.P N rec)(I0:RecM rec)
variable{ops:Array Oper}{S:Nat->DS}{T:Nat->DR}(hc:Gk E rec ops S T)(M0:(S ops.size).H.nx≤(S ops.size).H.nx)(A0:(S 0).A.nt≤1048576)(h0:∀id,(S 0).H.nx≤id->(S 0).H.get id=none)
variable{m:Nat}{β0:Pl}{w0:World}
include hE J0 I0 hc M0 A0 h0
theorem take{D:Nat->Prop}(J1:∀i,i<ops.size->D i->∀b,Nat.testBit (mask ops i) b=true->D b){j:Nat}(hj:j<ops.size)(Z4:¬D j)(hp:∀b,Nat.testBit (mask ops j) b=true->D b)(hf:∀i,i<j->Fact S T i)
  {β:Pl} {a:Act} {w:World} (h:St ops S T m β0 w0 D β a w) {rB:Option Nat} {Q:Exit->Act->World->Prop} {K:Act->World->Prop}
  (hK:∀v w',Fact S T j->(∃β',St ops S T m β0 w0 (λi=>D i∨i=j) β' (a.put (dst ops j) v) w')->K (a.put (dst ops j) v) w'):wpOpIn (fen rB) 0 E.P ops Q j K a w:=by
 obtain⟨o,ho⟩:=fg hj
 obtain⟨hwfj,_⟩:=law hc I0 M0 (h0:=h0) (k:=j) (by omega) hf
 have S2:=VU hc I0 M0 J1 hj Z4 hp (h0:=h0) hf;have Z8:∀id x,(T j).sub.get id=some x->id<(S j).H.nx:=λid x hx=>by
  have:=(gI hc I0 M0 hj ho hx).2.2.1;rcases Nat.lt_or_ge id (S j).H.nx with hh|hh
  ·exact hh
  rw[hwfj id hh]at this;cases this
 have hR:=h.rel hj Z4 S2 Z8;have hstep:=λ{v w'}ho=>St.step (v:=v) (w':=w') hc I0 A0 h hj Z4 S2 Z8 (Yz hc I0 M0 J1 hj Z4) (Yb hc J1 Z4) ho;have K_:(T j).H'.nx≤(T j).H'.nx:=zA1 _;have hslots:∀t∈slotsOf ops o,(ovT ops S T D ops.size).tm.get t=(S j).A.tm.get t:=λt ht=>Wj hc A0 J1 hj Z4 hp ho ht;have hA:gP β ⟨(ovT ops S T D ops.size).tm,(S 0).A.nt,(S 0).A.dfr⟩ a:=⟨h.tm,h.df⟩;have hwk:=Fs hslots;unfold wpOpIn;rw[ho];simp only
 have hd:=PN ho;cases hr:(T j).ran with
 |true=>
  obtain⟨h1,_,h3,_⟩:=(hc.link j o ho).yes hr
  have hw:Region.wanted o (yielded ops a.tmps)=true:=by
   have hk:=hwk (.ok []) (.bad "")
   rw[h1]at hk;rcases vV h.tm hk with⟨hw,_⟩|⟨_,hb⟩
   ·exact hw
   cases hb
  rw[zB0 hw];have hcong:(aI E.P o).run (ovT ops S T D ops.size).tm ⟨(T j).sub,(S j).H.nx,[]⟩=(aI E.P o).run (S j).A.tm ⟨(T j).sub,(S j).H.nx,[]⟩:=by
   refine IY o λx hx=>Rh λt ht=>hslots t ?_;unfold slotsOf;subst ht;exact List.mem_append_left _ (List.mem_filterMap.2 ⟨.tmp t,hx,rfl⟩)
  have r_:je E rec ⟨(T j).sub,(S j).H.nx,[]⟩ ((aI E.P o).run (ovT ops S T D ops.size).tm ⟨(T j).sub,(S j).H.nx,[]⟩)=.ok [((T j).av,(T j).H')]:=by
   rw[hcong];exact h3
  refine Lh (A:=⟨(ovT ops S T D ops.size).tm,(S 0).A.nt,(S 0).A.dfr⟩) hE J0 I0 K_ hR hA r_ (λx hx=>by rw[List.mem_singleton.1 hx];exact zA1 _) λv w' L2=>?_;rw[<-hd];have:=hstep L2;exact hK v w' this.1 this.2
 |false=>
  obtain⟨h1,h2,h3,h4,_⟩:=(hc.link j o ho).no hr
  have hw:Region.wanted o (yielded ops a.tmps)=false:=by
   have hk:=hwk (.bad "") (.ok [])
   rw[h1]at hk;rcases vV h.tm hk with⟨_,hb⟩|⟨hw,_⟩
   ·cases hb
   exact hw
  rw[zB1 (by rw[hw];exact zA8)];refine⟨λ_ _=>trivial,?_⟩
  rw[<-hd];have L2:Out (T j).H'.nx β ⟨(T j).sub,(S j).H.nx,[]⟩ w [((T j).av,(T j).H')] undef w:=by
   refine⟨_,List.mem_singleton.2 rfl,β,?_,?_,?_⟩
   ·show AR β (T j).av undef;rw[h2];exact mI β
   ·show Rel _ β (T j).H' w;rw[h3]at hR;have e:(T j).H'=⟨.leaf,(S j).H.nx,[]⟩:=h4;rw[e];rw[e]at hR;exact hR
   show Ext β _ w β (T j).H' w;rw[h3,h4];exact Ext.refl _ _ _
  have:=hstep L2;exact hK undef w this.1 this.2
theorem facts(b7:∃a,St ops S T m β0 w0 (λ_=>False) β0 a w0):∀k,k≤ops.size->(∀i,i<k->Fact S T i)∧∃β a w,St ops S T m β0 w0 (λi=>i<k) β a w
 |0,_=>by
  obtain⟨a,h⟩:=b7
  have C0:∀k x,dst ops k=some x->x<x+1:=λk x h=>zA6 _;exact⟨λi hi=>by omega,β0,a,w0,h.congr C0 λi _=>⟨False.elim,λh=>by omega⟩⟩
 |k+1,hk=>by
  have C0:∀k x,dst ops k=some x->x<x+1:=λk x h=>zA6 _;obtain⟨hf,β,a,w,h⟩:=facts b7 k (by omega)
  have hs:=hc.stat;unfold dP at hs;rw[Bool.and_eq_true]at hs;have X8:∀i o,ops[i]?=some o->∀e∈o.after.toList,fi e=true->e.on<i:=λi o ho e he hu=>by
   have:=jc hs.2 i o (by simpa using ho) e he hu;omega
  obtain⟨ok,D0⟩:=fg (ops:=ops) (k:=k) (by omega)
  have J1:∀i,i<ops.size->i<k->∀b,Nat.testBit (mask ops i) b=true->b<k:=λi hi hik=>nY (D:=λi=>i<k) (λi o ho hd e he hu=>Nat.lt_trans (X8 i o ho e he hu) hd) (i+1) i (by omega) hi hik;have hp:∀b,Nat.testBit (mask ops k) b=true->b<k:=Ea (D:=λi=>i<k) (λi o ho hd e he hu=>Nat.lt_trans (X8 i o ho e he hu) hd) D0 λe he hu=>X8 k ok D0 e he hu;have hwp:=take hE J0 I0 hc M0 A0 h0 (D:=λi=>i<k) J1 (j:=k) (by omega) (by omega) hp hf h (rB:=none) (Q:=λ_ _ _=>False)
   (K:=λ_ _=>Fact S T k∧∃β a w,St ops S T m β0 w0 (λi=>i<k+1) β a w) λv w' h1⟨β',h2⟩=>⟨h1,β',_,_,h2.congr C0 λi _=>by omega⟩
  have hX:Fact S T k∧∃β a w,St ops S T m β0 w0 (λi=>i<k+1) β a w:=by
   unfold wpOpIn at hwp;rw[D0]at hwp;simp only at hwp
   split at hwp
   ·exact IH (λk d hd=>by simp[fen]at hd) w0 hwp.2
   exact hwp.2
  refine⟨λi hi=>?_,hX.2⟩
  rcases Nat.lt_or_ge i k with hh|hh
  ·exact hf i hh
  have:i=k:=by omega
  subst this;exact hX.1
theorem Of(hf:∀i,i<ops.size->Fact S T i){rB:Option Nat}{Q:Exit->Act->World->Prop}(hQ:∀β a w,St ops S T m β0 w0 (λ_=>True) β a w->Q .normal a w):
  ∀(fuel:Nat)(listed:Array Bool)(β:Pl)(a:Act)(w:World),listed.size=ops.size->(∀i o,ops[i]?=some o->listed.getD i false=true->∀e∈o.after.toList,fi e=true->listed.getD e.on false=true) ->
   ((List.range ops.size).filter λi=>!listed.getD i false).length≤fuel->St ops S T m β0 w0 (λi=>listed.getD i false=true) β a w->wpAnyIn (fen rB) 0 E.P .any ops Q fuel listed a w:=by
 have C0:∀k x,dst ops k=some x->x<x+1:=λk x h=>zA6 _;have hbinds:∀e,Region.binds .any e=fi e:=λe=>by
  unfold Region.binds fi;cases e.ground<;>rfl
 have hs:=hc.stat;unfold dP at hs;rw[Bool.and_eq_true]at hs;have X8:∀i o,ops[i]?=some o->∀e∈o.after.toList,fi e=true->e.on<i:=λi o ho e he hu=>by
  have:=jc hs.2 i o (by simpa using ho) e he hu;omega
 have Z1:∀(listed:Array Bool),listed.size=ops.size->Region.ready .any ops listed=[]->∀k i,i<k->i<ops.size->listed.getD i false=true:=by
  intro listed L1 hr k;induction k with
  |zero=>intro i hi;omega
  |succ k ih=>
   intro i hi M';cases hl:listed.getD i false with
   |true=>rfl
   |false=>
    exfalso;obtain⟨o,ho⟩:=fg M'
    have w_:i<listed.size:=by omega
    have:i∈Region.ready .any ops listed:=mem_ready.2 ⟨by simp[w_]at hl ⊢;exact hl,o,ho,λe he hb=>by
     rw[hbinds]at hb;have:=X8 i o ho e (by simpa using he) hb;exact ih e.on (by omega) (by omega)⟩
    rw[hr]at this;cases this
 intro fuel;induction fuel with
 |zero=>
  intro listed β a w L1 J1 hn h;have j5:(List.range ops.size).filter (λi=>!listed.getD i false)=[]:=List.eq_nil_of_length_eq_zero (by omega);have hD:∀i,i<ops.size->listed.getD i false=true:=λi hi=>by
   cases hl:listed.getD i false with
   |true=>rfl
   |false=>
    have:i∈(List.range ops.size).filter (λi=>!listed.getD i false):=List.mem_filter.2 ⟨List.mem_range.2 hi,by rw[hl];rfl⟩;rw[j5]at this;cases this
  refine⟨?_,hQ β a w (h.congr C0 λi hi=>⟨λ_=>trivial,λ_=>hD i hi⟩)⟩
  cases hr:Region.ready .any ops listed with
  |nil=>rfl
  |cons i l=>
   have hi:i∈Region.ready .any ops listed:=by rw[hr];exact List.mem_cons_self ..
   obtain⟨h1,o,ho,_⟩:=mem_ready.1 hi
   have M':i<ops.size:=(Array.getElem?_eq_some_iff.1 ho).1;have:=hD i M';have w_:i<listed.size:=by omega
   simp[w_]at h1 this;rw[h1]at this;cases this
 |succ fuel ih=>
  intro listed β a w L1 J1 hn h;refine⟨λhr=>hQ β a w (h.congr C0 λi hi=>⟨λ_=>trivial,λ_=>Z1 listed L1 hr (i+1) i (by omega) hi⟩),λi hi=>?_⟩
  obtain⟨h1,o,ho,he⟩:=mem_ready.1 hi
  have M':i<ops.size:=(Array.getElem?_eq_some_iff.1 ho).1;have w_:i<listed.size:=by omega
  have hni:¬listed.getD i false=true:=by
   simp[w_]at h1 ⊢;exact h1
  have hedge:∀e∈o.after.toList,fi e=true->listed.getD e.on false=true:=λe M_ hu=>he e (by simpa using M_) (by rw[hbinds];exact hu);have hclm:∀k,k<ops.size->listed.getD k false=true->∀b,Nat.testBit (mask ops k) b=true->listed.getD b false=true:=λk hk hd=>nY (D:=λi=>listed.getD i false=true) J1 (k+1) k (by omega) hk hd;have hpm:=Ea (D:=λi=>listed.getD i false=true) J1 ho hedge;refine take hE J0 I0 hc M0 A0 h0 (D:=λi=>listed.getD i false=true) hclm M' hni hpm (λk hk=>hf k (by omega)) h λv w' _⟨β',h2⟩=>?_;have q6:∀k,k<ops.size->((listed.setIfInBounds i true).getD k false=true↔(listed.getD k false=true∨k=i)):=λk hk=>by
   by_cases hki:k=i
   ·subst hki;simp[w_]
   rw[getD_set_ne false (λhh=>hki hh.symm)];simp[hki]
  refine ih (listed.setIfInBounds i true) β' _ w' (by simp[L1]) (λk ok D0 hk e M_ hu=>?_) ?_ (h2.congr C0 λk hk=>(q6 k hk).symm)
  ·have hko:k<ops.size:=(Array.getElem?_eq_some_iff.1 D0).1;rcases(q6 k hko).1 hk with hk|rfl
   ·exact getD_set_true (J1 k ok D0 hk e M_ hu)
   rw[ho]at D0;cases D0
   exact getD_set_true (hedge e M_ hu)
  
  have hlen:((List.range ops.size).filter λk=>!(listed.setIfInBounds i true).getD k false).length<((List.range ops.size).filter λk=>!listed.getD k false).length:=by
   have U0:(List.range ops.size).filter (λk=>!(listed.setIfInBounds i true).getD k false)=((List.range ops.size).filter λk=>!listed.getD k false).filter λk=>!Nat.beq k i:=by
    rw[List.filter_filter];refine List.filter_congr λk hk=>?_;have O3:=List.mem_range.1 hk;have:=q6 k O3;cases h1:(listed.setIfInBounds i true).getD k false<;>cases h2:listed.getD k false<;>cases h3:Nat.beq k i<;>simp_all
   rw[U0];refine List.length_filter_lt_length_iff_exists.2 ⟨i,List.mem_filter.2 ⟨List.mem_range.2 M',by simpa using hni⟩,by simp⟩
  omega
end
def Fl{E:Env}(hE:qC E):QE E:=by
 intro N rec J0 I0 m β H w A a id ops rB outs hm hR hA hstat h hb;obtain⟨l,hl,hk⟩:=R.dN h
 obtain⟨S,T,hs0,hlink,b8⟩:=Fg ops.toList 0 _ _ _ _ _ hl
 have L1:ops.toList.length=ops.size:=by simp
 rw[L1]at b8;have hc:Gk E rec ops S T:=⟨by rw[hs0],λk o ho=>by
  have:=hlink k o (by simpa using ho);rw[Nat.zero_add]at this;exact this,hstat⟩
 subst b8;obtain⟨o',D3,z9⟩:=hk _ (List.mem_singleton.2 rfl)
 cases D3
 have hx:=z9 _ (List.mem_singleton.2 rfl);have hnxm:(S ops.size).H.nx≤m:=hb _ hx;have M0:(S ops.size).H.nx≤(S ops.size).H.nx:=zA1 _;have eA:(S 0).A=A:=by rw[hs0]
 have eH:(S 0).H=H:=by rw[hs0]
 have A0:(S 0).A.nt≤1048576:=by rw[eA];exact hA.tm.2.1
 have h0:∀id,(S 0).H.nx≤id->(S 0).H.get id=none:=by rw[eH];exact hR.wf
 have C0:∀k x,dst ops k=some x->x<x+1:=λk x h=>zA6 _;have a6:Rel m β H { w with drawn:=w.drawn+1 }:=hR.drew _;have W7:∀id,ovH S T (λ_=>False) ops.size id=H.get id:=λid=>by
  rw[ud (k:=0) (by omega) λi _ _ h=>h.elim,<-eH];rfl
 have hovT:∀t,(ovT ops S T (λ_=>False) ops.size).tm.get t=A.tm.get t:=λt=>by
  rw[um C0 (k:=0) (by omega) λi _ _ h=>h.elim,<-eA];rfl
 have b7:St ops S T m β { w with drawn:=w.drawn+1 } (λ_=>False) β a { w with drawn:=w.drawn+1 }:=by
  refine{ tm:=?_,df:=by rw[eA];exact hA.df,obj:=λid o ho=>a6.obj id o (by rw[<-W7];exact ho),sep:=λid id' o o' g g' p p' h1 h2=>a6.sep id id' o o' g g' p p' (by rw[<-W7];exact h1) (by rw[<-W7];exact h2),
          fresh:=λj hj _ id g h1 h2=>?_,free:=λid g h1 h2=>?_,sub:=λ_ _ _ h=>h,loc:=λ_ _ _ h=>.inl h,size:=zA1 _,os:=rfl,tape:=rfl,output:=rfl,frame:=λ_ _ _=>rfl,
          prov:=λid o g p h1 h2 h3=>?_,dom:=λid o ho=>⟨o,by rw[W7,<-eH];exact ho⟩,old:=λid o ho=>.inl ⟨o,by rw[eH,<-W7];exact ho⟩,far:=λ_ _ _=>rfl }
  ·rw[eA];exact hA.tm.ext hovT
  ·have h3:=iw hc I0 (i:=0) (k:=j) (by omega) (by omega);have h4:=zg hc I0 hj (zA1 _);rw[eH]at h3;exact a6.free id g (by omega) (by omega)
  ·have h3:=iw hc I0 (i:=0) (k:=ops.size) (by omega) (zA1 _);rw[eH]at h3;exact a6.free id g (by omega) h2
  rw[W7]at h1;exact .inr ⟨o,g,p,by rw[eH];exact h1,h2,h3,rfl,rfl⟩
 have hf:=(facts hE J0 I0 hc M0 A0 h0 ⟨a,b7⟩ ops.size (zA1 _)).1;refine wpIn_region_any hE.mixed ?_;refine Of hE J0 I0 hc M0 A0 h0 hf (m:=m) (β0:=β) (w0:={ w with drawn:=w.drawn+1 }) (λβ' a' w' Y2=>?_) ops.size _ β a _ (by simp) (λi o ho hl=>?_) ?_ (b7.congr C0 λi hi=>⟨False.elim,λhh=>?_⟩)
 ·obtain⟨Z8,P8⟩:=law hc I0 M0 (h0:=h0) (k:=ops.size) (zA1 _) hf
  have e:∀id,ovH S T (λ_=>True) ops.size id=(S ops.size).H.get id:=λid=>(P8 id).symm;have J6:=CK hc (k:=ops.size) (zA1 _);refine⟨_,hx,trivial,β',⟨?_,?_⟩,⟨λid o ho=>Y2.obj id o (by rw[e];exact ho),λid id' o o' g g' p p' h1 h2=>Y2.sep id id' o o' g g' p p' (by rw[e];exact h1) (by rw[e];exact h2),Z8,Y2.free⟩,?_⟩
  ·show TmR β' (S ops.size).A.tm (S ops.size).A.nt a'.tmps;rw[J6,Bq];exact Y2.tm
  ·show ng β' (S ops.size).A.dfr a'.defers;rw[J6,Cw];exact Y2.df
  have T7:=iw hc I0 (i:=0) (k:=ops.size) (by omega) (zA1 _);rw[<-eH];have hlog:∀k,k≤ops.size->∃l,(S k).H.log=l++(S 0).H.log∧(∀id,id<(S 0).H.nx->id∉l->(S k).H.get id=(S 0).H.get id)∧∀i,i<k->∀id,id∈(T i).wr (S i)->id∈l:=by
   intro k;induction k with
   |zero=>intro _;exact⟨[],rfl,λ_ _ _=>rfl,λi hi=>by omega⟩
   |succ k ih=>
    intro hk;obtain⟨l,k9,X_,hl3⟩:=ih (by omega)
    obtain⟨o,ho⟩:=fg (ops:=ops) (k:=k) (by omega)
    have hls:=EP hc I0 M0 (k:=k) (by omega) (hf k (by omega)) (law hc I0 M0 (h0:=h0) (k:=k) (by omega) λi hi=>hf i (by omega)).1;have L':=iw hc I0 (i:=0) (k:=k) (by omega) (by omega);cases hr:(T k).ran with
    |false=>
     rw[(kT hc ho hr).2.2.1];refine⟨l,k9,X_,λi hi id hid=>?_⟩
     by_cases e:i=k
     ·subst e;exact absurd (.inl hid) (kq hc ho hr id)
     exact hl3 i (by omega) id hid
    |true=>
     obtain⟨_,_,_,_,h5,_⟩:=(hc.link k o ho).yes hr
     refine⟨(T k).wr (S k)++l,by rw[h5,List.append_assoc,<-k9],λid hid hn=>?_,λi hi id hid=>?_⟩
     ·rw[(hls id).2 ?_]
      ·exact X_ id hid λhh=>hn (List.mem_append_right _ hh)
      rintro(ht|ht)
      ·exact hn (List.mem_append_left _ ht)
      omega
     by_cases e:i=k
     ·subst e;exact List.mem_append_left _ hid
     exact List.mem_append_right _ (hl3 i (by omega) id hid)
  refine{ sub:=Y2.sub,loc:=Y2.loc,size:=Y2.size,os:=Y2.os,tape:=Y2.tape,output:=Y2.output,frame:=Y2.frame,prov:=λid o g p h1 h2 h3=>Y2.prov id o g p (by rw[e];exact h1) h2 h3,nx:=T7,log:=?_,far:=?_,
          dom:=λid o ho=>by obtain⟨o',D3⟩:=Y2.dom id o ho;exact⟨o',by rw[<-e];exact D3⟩,old:=λid o ho=>Y2.old id o (by rw[e];exact ho) }
  ·obtain⟨l0,e0,f0,g0⟩:=hlog ops.size (zA1 _)
   exact⟨l0,e0,f0⟩
  intro l hl b hb hn;obtain⟨l0,e0,f0,g0⟩:=hlog ops.size (zA1 _)
  have e:l=l0:=by
   have J7:(S ops.size).H.log=l++(S 0).H.log:=hl;rw[e0]at J7;exact(List.append_cancel_right J7).symm
  subst e;exact Y2.far b hb λid o g p⟨i,h1,_,h3⟩=>hn id o g p (g0 i h1 id h3)
 ·exfalso;have M':i<ops.size:=(Array.getElem?_eq_some_iff.1 ho).1;simp[M']at hl
 ·exact zA2 (List.length_filter_le _ _) (by simp)
 simp[hi]at hh
def Yn:List UInt8->List UInt8->Bool:=
 λl=>List.rec (motive:=λ_=>List UInt8->Bool) (λm=>List.rec (motive:=λ_=>Bool) true (λ_ _ _=>false) m)
  (λx _ ih m=>List.rec (motive:=λ_=>Bool) false (λy m' _=>both (bEq x y) (ih m')) m) l
def XU{a b:UInt8}(h:bEq a b=true):a=b:=UInt8.toNat_inj.1 (zA3 h)
def Kn:∀{l m:List UInt8},Yn l m=true->l=m
 |[],[],_=>rfl
 |[],_::_,h=>by cases h
 |_::_,[],h=>by cases h
 |x::l,y::m,h=>by
  have h':both (bEq x y) (Yn l m)=true:=h;rw[cF,Bool.and_eq_true]at h';rw[XU h'.1,Kn h'.2]
def CL:List (Nat×Nat×Nat×Nat)->List (Nat×Nat×Nat×Nat)->Bool
 |[],[]=>true
 |(a,b,c,d)::l,(a',b',c',d')::m=>Nat.beq a a'&&(Nat.beq b b'&&(Nat.beq c c'&&(Nat.beq d d'&&CL l m)))
 |_,_=>false
def zR:∀{l m:List (Nat×Nat×Nat×Nat)},CL l m=true->l=m
 |[],[],_=>rfl
 |[],_::_,h=>by cases h
 |_::_,[],h=>by cases h
 |(a,b,c,d)::l,(a',b',c',d')::m,h=>by
  unfold CL at h;simp only[Bool.and_eq_true]at h;obtain⟨h1,h2,h3,h4,h5⟩:=h
  rw[zA3 h1,zA3 h2,zA3 h3,zA3 h4,zR h5]
def Ft:AO->AO->Bool
 |.str s,.str t=>Yn s t
 |.nilP,.nilP=>true
 |.nilS,.nilS=>true
 |.nilM,.nilM=>true
 |.oJ,.oJ=>true
 |.ptr a b c d,.ptr a' b' c' d'=>Nat.beq a a'&&(Nat.beq b b'&&(Nat.beq c c'&&Nat.beq d d'))
 |.sl a b c d e,.sl a' b' c' d' e'=>Nat.beq a a'&&(Nat.beq b b'&&(Nat.beq c c'&&(Nat.beq d d'&&Nat.beq e e')))
 |.mp a,.mp a'=>Nat.beq a a'
 |.clo f l,.clo f' l'=>Nat.beq f f'&&CL l l'
 |_,_=>false
def US{x y:AO}(h:Ft x y=true):x=y:=by
 cases x<;>cases y<;>first|rfl|(simp only[Ft]at h;cases h;done)|skip
 ·simp only[Ft]at h;rw[Kn h]
 ·simp only[Ft,Bool.and_eq_true]at h;obtain⟨h1,h2,h3,h4⟩:=h
  rw[zA3 h1,zA3 h2,zA3 h3,zA3 h4]
 ·simp only[Ft,Bool.and_eq_true]at h;obtain⟨h1,h2,h3,h4,h5⟩:=h
  rw[zA3 h1,zA3 h2,zA3 h3,zA3 h4,zA3 h5]
 ·simp only[Ft]at h;rw[zA3 h]
 simp only[Ft,Bool.and_eq_true]at h;rw[zA3 h.1,zR h.2]
def On:AC->AC->Bool
 |.b x,.b y=>bif x then y else !y
 |.i k n,.i k' n'=>sameKind k k'&&iEq n n'
 |.o x,.o y=>Ft x y
 |_,_=>false
def LM{x y:AC}(h:On x y=true):x=y:=by
 cases x with
 |b x=>cases y with
  |b y=>cases x<;>cases y<;>first|rfl|(simp only[On]at h;cases h)
  |i _ _=>cases h
  |o _=>cases h
 |i k n=>cases y with
  |i k' n'=>
   simp only[On,Bool.and_eq_true]at h;have h2:=h.2;rw[kU]at h2;rw[gQ h.1,eq_of_beq h2]
  |b _=>cases h
  |o _=>cases h
 |o x=>cases y with
  |o y=>simp only[On]at h;rw[US h]
  |b _=>cases h
  |i _ _=>cases h
def xP:List AC->List AC->Bool
 |[],[]=>true
 |x::l,y::m=>On x y&&xP l m
 |_,_=>false
def pJ:∀{l m:List AC},xP l m=true->l=m
 |[],[],_=>rfl
 |[],_::_,h=>by cases h
 |_::_,[],h=>by cases h
 |x::l,y::m,h=>by
  simp only[xP,Bool.and_eq_true]at h;rw[LM h.1,pJ h.2]
def Mx:List (Bool×List AC)->List (Bool×List AC)->Bool
 |[],[]=>true
 |(a,l)::x,(b,m)::y=>(bif a then b else !b)&&(xP l m&&Mx x y)
 |_,_=>false
def GO:∀{l m:List (Bool×List AC)},Mx l m=true->l=m
 |[],[],_=>rfl
 |[],_::_,h=>by cases h
 |_::_,[],h=>by cases h
 |(a,l)::x,(b,m)::y,h=>by
  simp only[Mx,Bool.and_eq_true]at h;have:a=b:=by
   have h1:=h.1;cases a<;>cases b<;>first|rfl|cases h1
  rw[this,pJ h.2.1,GO h.2.2]
def Fa:AV->AV->Bool
 |.one x,.one y=>On x y
 |.agg l,.agg m=>xP l m
 |.tup l,.tup m=>Mx l m
 |_,.any=>true
 |_,_=>false
def Nj{x y:AV}(h:Fa x y=true):x=y∨y=.any:=by
 cases x<;>cases y<;>first|exact .inr rfl|(simp only[Fa]at h;cases h;done)|skip
 ·simp only[Fa]at h;exact .inl (by rw[LM h])
 ·simp only[Fa]at h;exact .inl (by rw[pJ h])
 simp only[Fa]at h;exact .inl (by rw[GO h])
def KY(x y:AV):Bool:=match y with|.any=>false|_=>Fa x y
def EL{x y:AV}(h:KY x y=true):x=y:=by
 unfold KY at h;split at h
 ·cases h
 rename_i hn
 exact(Nj h).resolve_right hn
def Wc:List bu->List bu->Bool
 |[],[]=>true
 |x::l,y::m=>KY x.key y.key&&(KY x.val y.val&&(Nat.beq x.born y.born&&Wc l m))
 |_,_=>false
def KS:∀{l m:List bu},Wc l m=true->l=m
 |[],[],_=>rfl
 |[],_::_,h=>by cases h
 |_::_,[],h=>by cases h
 |⟨a,b,c⟩::l,⟨a',b',c'⟩::m,h=>by
  simp only[Wc,Bool.and_eq_true]at h;obtain⟨h1,h2,h3,h4⟩:=h
  rw[EL h1,EL h2,zA3 h3,KS h4]
def wj:aJ->aJ->Bool
 |.arr c e lo gen,.arr c' e' lo' gen'=>xP c c'&&(Nat.beq e e'&&(Nat.ble lo lo'&&(Nat.ble lo' gen'&&Nat.beq gen gen')))
 |.oth (.map es k),.oth (.map es' k')=>Wc es es'&&Nat.beq k k'
 |.oth (.dfr b),.oth (.dfr b')=>bif b then b' else !b'
 |_,_=>false
def Bu(x y:aJ):Prop:=x=y∨∃c e lo lo' gen,x=.arr c e lo gen∧y=.arr c e lo' gen∧lo≤lo'∧lo'≤gen
def Tq{x y:aJ}(h:wj x y=true):Bu x y:=by
 cases x with
 |arr c e lo gen=>cases y with
  |arr c' e' lo' gen'=>
   simp only[wj,Bool.and_eq_true]at h;obtain⟨h1,h2,h3,h4,h5⟩:=h
   rw[pJ h1,zA3 h2,zA3 h5];exact .inr ⟨_,_,_,_,_,rfl,rfl,zA4 h3,zA4 h4⟩
  |oth _=>cases h
  |ro _=>cases h
 |ro _=>cases y<;>cases h
 |oth x=>cases y with
  |arr _ _ _ _=>cases x<;>cases h
  |ro _=>cases x<;>cases h
  |oth y=>
   cases x<;>cases y<;>first|(simp only[wj]at h;cases h;done)|skip
   ·simp only[wj,Bool.and_eq_true]at h;rw[KS h.1,zA3 h.2];exact .inl rfl
   simp only[wj]at h;rename_i a b
   cases a<;>cases b<;>first|exact .inl rfl|cases h
def Bu.ro{x y:aJ}(h:Bu x y):x.jJ=y.jJ:=by
 rcases h with rfl|⟨c,e,lo,lo',gen,rfl,rfl,h1,h2⟩<;>rfl
def Bu.gen{x y:aJ}(h:Bu x y){g:Nat}(hg:dd y g):dd x g:=by
 rcases h with rfl|⟨c,e,lo,lo',gen,rfl,rfl,h1,h2⟩
 ·exact hg
 have Y1:lo'≤g∧g≤gen:=hg;exact⟨by omega,Y1.2⟩
def Bu.obj{x y:aJ}(h:Bu x y){β:Pl}{w:World}{id:Nat}(ho:fk β w id x):fk β w id y:=by
 rcases h with rfl|⟨c,e,lo,lo',gen,rfl,rfl,h1,h2⟩
 ·exact ho
 obtain⟨a1,a2,a3,a4⟩:=ho
 exact⟨h2,λg b1 b2=>a2 g (by omega) b2,λg g' p p' b1 b2 b3=>a3 g g' p p' (by omega) b2 b3,a4⟩
def mkT{α:Type}(l:List (Nat×α)):PT α:=List.rec (motive:=λ_=>PT α) .leaf (λx _ ih=>ih.set x.1 x.2) l
def small{α:Type}(n:Nat):List (Nat×α)->Bool
 |[]=>true
 |x::l=>Nat.blt x.1 n&&small n l
def BQ{α:Type}{n:Nat}(hn:n≤2^40):∀{l:List (Nat×α)},small n l=true->∀{k:Nat}{a:α},(mkT l).get k=some a->k<n∧(k,a)∈l
 |[],_,k,a,h=>by cases h
 |x::l,hs,k,a,h=>by
  simp only[small,Bool.and_eq_true]at hs;have hx:x.1<n:=zA4 hs.1;have h':((mkT l).set x.1 x.2).get k=some a:=h;rw[PT.nU _ _ _ _ (by omega)]at h';split at h'
  ·rename_i hk
   cases h'
   subst hk;exact⟨hx,List.mem_cons_self ..⟩
  obtain⟨h1,h2⟩:=BQ hn hs.2 h'
  exact⟨h1,List.mem_cons_of_mem _ h2⟩
def qk(tm:PT AV)(t:Nat):AV:=aw (tm.get t) aD λv=>v
def Qx(tm tm':PT AV)(n:Nat):Bool:=Nat.rec (motive:=λ_=>Bool) true (λk ih=>both (Fa (qk tm k) (qk tm' k)) ih) n
def Kl{tm tm':PT AV}:∀{n:Nat},Qx tm tm' n=true->∀k,k<n->qk tm k=qk tm' k∨qk tm' k=.any
 |0,_,k,h=>by omega
 |n+1,h,k,hk=>by
  have h':both (Fa (qk tm n) (qk tm' n)) (Qx tm tm' n)=true:=h;rw[cF,Bool.and_eq_true]at h';by_cases e:k=n
  ·subst e;exact Nj h'.1
  exact Kl h'.2 k (by omega)
def RM(t:PT aJ)(l:List (Nat×aJ)):Bool:=List.rec (motive:=λ_=>Bool) true (λx _ ih=>both (aw (t.get x.1) false λo=>wj o x.2) ih) l
def MM{t:PT aJ}:∀{l:List (Nat×aJ)},RM t l=true->∀x∈l,∃o,t.get x.1=some o∧Bu o x.2
 |[],_,x,h=>by cases h
 |y::l,h,x,hx=>by
  have h':both (aw (t.get y.1) false λo=>wj o y.2) (RM t l)=true:=h;rw[cF,Bool.and_eq_true]at h';rcases List.mem_cons.1 hx with rfl|hx
  ·cases hg:t.get x.1 with
   |none=>rw[hg]at h';cases h'.1
   |some o=>rw[hg]at h';exact⟨o,rfl,Tq h'.1⟩
  exact MM h'.2 x hx
def spine:Code->List Code
 |.seq a b=>a::spine b
 |c=>[c]
def iK:List Code->Code
 |[]=>.skip
 |[c]=>c
 |c::l=>.seq c (iK l)
def UI:∀(c:Code),spine c≠[]
 |.seq a b=>by simp[spine]
 |.skip|.region ..|.cond ..|.block ..|.loop ..|.rangeFunc ..|.exit ..|.scope ..|.label ..|.goto ..|.ret|.refuse ..=>by simp[spine]
def pP:∀(c:Code),iK (spine c)=c
 |.seq a b=>by
  have h:=pP b;have hn:=UI b;show iK (a::spine b)=_;cases hs:spine b with
  |nil=>exact absurd hs hn
  |cons x l=>
   rw[hs]at h;show Code.seq a (iK (x::l))=_;rw[h]
 |.skip|.region ..|.cond ..|.block ..|.loop ..|.rangeFunc ..|.exit ..|.scope ..|.label ..|.goto ..|.ret|.refuse ..=>rfl
def iS(P:Program)(f:FuncId):List Code:=
 match P.funcs[f]? with
 |some fn=>match fn.body with|some c=>spine c|none=>[]
 |none=>[]
def jD(P:Program)(f:FuncId):Nat:=match P.funcs[f]? with|some fn=>fn.ntmps|none=>0
def Qk(P:Program)(f:FuncId):List ResultVar:=match P.funcs[f]? with|some fn=>fn.results.toList|none=>[]
def CB(E:Env)(rec:Rec)(l:List Code):aa->Hp->R (ak×aa×Hp):=
 List.rec (motive:=λ_=>aa->Hp->R (ak×aa×Hp)) (λa h=>.ok [(.normal,a,h)])
  (λc _ ih a h=>((codeF E c).run rec none a h).bind λx=>exE x.1 (ih x.2.1 x.2.2) (λ_=>.bad "piece - exit") (.bad "piece - return")) l
def YJ{α:Type}(p:α->Bool)(r:R α):Bool:=R.rec (motive:=λ_=>Bool) (λl=>List.rec (motive:=λ_=>Bool) true (λx _ ih=>both (p x) ih) l) (λ_=>false) r
def LX{α:Type}{p:α->Bool}{r:R α}(h:YJ p r=true):∃l,r=.ok l∧∀x∈l,p x=true:=by
 cases r with
 |bad s=>cases h
 |ok l=>
  refine⟨l,rfl,?_⟩
  have h':List.rec (motive:=λ_=>Bool) true (λx _ ih=>both (p x) ih) l=true:=h;clear h;induction l with
  |nil=>intro x hx;cases hx
  |cons y l ih=>
   have h2:both (p y) (List.rec (motive:=λ_=>Bool) true (λx _ ih=>both (p x) ih) l)=true:=h';rw[cF,Bool.and_eq_true]at h2;intro x hx;rcases List.mem_cons.1 hx with rfl|hx
   ·exact h2.1
   exact ih h2.2 x hx
structure Mark where
 slots:List (Nat×AV)
 objs:List (Nat×aJ)
 nx:Nat
def Mark.hp(k:Mark):Hp:=⟨mkT k.objs,k.nx,[]⟩
def Mark.act(k:Mark)(nt:Nat):aa:=⟨mkT k.slots,nt,[]⟩
def Mark.fits(k:Mark)(nt:Nat):Bool:=Nat.ble nt 1048576&&(small nt k.slots&&(small k.nx k.objs&&Nat.ble k.nx 1099511627776))
def Od{α:Type}(l:List α):Bool:=List.rec (motive:=λ_=>Bool) true (λ_ _ _=>false) l
def CE(k:Mark)(nt:Nat)(x:ak×aa×Hp):Bool:=
 exE x.1 (both (Nat.beq x.2.1.nt nt) (both (Nat.ble x.2.2.nx k.nx) (both (Qx x.2.1.tm (mkT k.slots) nt) (both (RM x.2.2.t k.objs) (Od x.2.1.dfr))))) (λ_=>false) false
def piece(E:Env)(n:Nat)(f:FuncId)(i d:Nat)(k k':Mark):Bool:=
 both (k'.fits (jD E.P f)) (YJ (CE k' (jD E.P f)) (CB E (eval E n) (((iS E.P f).drop i).take d) (k.act (jD E.P f)) k.hp))
def xU(E:Env)(n:Nat)(f:FuncId)(i:Nat)(k:Mark):Bool:=
 YJ (λx:AV×Hp=>both (dO x.1 false λb=>b) (Nat.ble x.2.nx 1099511627776)) (((codeF E (iK ((iS E.P f).drop i))).run (eval E n) none (k.act (jD E.P f)) k.hp).bind (aC E (Qk E.P f)))
def Grown(w w':World):Prop:=w'.os=w.os∧w'.tape=w.tape∧w'.output=w.output∧w.heap.size≤w'.heap.size∧∀b,b<w.heap.size->w'.heap[b]?=w.heap[b]?
structure At(E:Env)(f:FuncId)(k:Mark)(w0:World)(a:Act)(w:World):Prop where
 grown:Grown w0 w
 here:∃β,gP β (k.act (jD E.P f)) a∧Rel (2^40) β k.hp w∧∀id o g p,k.hp.get id=some o->dd o g->β id g=some p->w0.heap.size≤p.b
def Fu{β β':Pl}{H H':Hp}{w0 w w':World}(h:Grown w0 w)(hp:∀id o g p,H.get id=some o->dd o g->β id g=some p->w0.heap.size≤p.b)(hx:Ext β H w β' H' w'):Grown w0 w':=by
 obtain⟨h1,h2,h3,h4,h5⟩:=h
 refine⟨hx.os.trans h1,hx.tape.trans h2,hx.output.trans h3,zA2 h4 hx.size,λb hb=>?_⟩
 rw[hx.frame b (by omega) λid o g p a b' c d=>?_,h5 b hb];have:=hp id o g p a b'.1 c;omega
def At.next{E:Env}{f:FuncId}{k k':Mark}{w0 w w':World}{a':Act}{β β':Pl}(hg:Grown w0 w)(hp:∀id o g p,k.hp.get id=some o->dd o g->β id g=some p->w0.heap.size≤p.b)
  (J3:k'.fits (jD E.P f)=true) {x:ak×aa×Hp} (j8:CE k' (jD E.P f) x=true) (hA:gP β' x.2.1 a') (hR:Rel (2^40) β' x.2.2 w') (hx:Ext β k.hp w β' x.2.2 w'):x.1=.normal∧At E f k' w0 a' w':=by
 obtain⟨e,A,H⟩:=x
 unfold CE at j8;cases e with
 |exit i=>cases j8
 |ret=>cases j8
 |normal=>
  refine⟨rfl,Fu hg hp hx,β',?_⟩
  have hchk':both (Nat.beq A.nt (jD E.P f)) (both (Nat.ble H.nx k'.nx) (both (Qx A.tm (mkT k'.slots) (jD E.P f)) (both (RM H.t k'.objs) (Od A.dfr))))=true:=j8;simp only[cF,Bool.and_eq_true]at hchk';obtain⟨h0,h1,h2,h3,h4⟩:=hchk'
  have A0:A.nt=jD E.P f:=zA3 h0;simp only[Mark.fits,Bool.and_eq_true]at J3;obtain⟨f1,f2,f3,f4⟩:=J3
  have f1':jD E.P f≤1048576:=zA4 f1;have f4':k'.nx≤1099511627776:=zA4 f4;have V0:H.nx≤k'.nx:=zA4 h1;have N2:∀id o,k'.hp.get id=some o->(∃o1,H.get id=some o1∧Bu o1 o)∧id<k'.nx:=λid o ho=>by
   obtain⟨g1,g2⟩:=BQ (n:=k'.nx) (by omega) f3 (k:=id) (a:=o) ho
   exact⟨MM h3 _ g2,g1⟩
  refine⟨⟨⟨?_,f1',λt=>?_⟩,?_⟩,⟨λid o ho=>?_,λid id' o o' g g' p p' a b c d=>?_,λid hid=>?_,λid g a b=>hR.free id g (zA2 V0 a) b⟩,
   λid o g p a b c=>?_⟩
  ·have:=hA.tm.1;rw[this];exact A0
  ·have hAt:=hA.tm.2.2 t;show AR β' (qk (mkT k'.slots) t) _;rcases Nat.lt_or_ge t (jD E.P f)with ht|ht
   ·rcases Kl h2 t ht with e|e
    ·rw[<-e];exact hAt
    rw[e];trivial
   have L1:a'.tmps.size=jD E.P f:=by have:=hA.tm.1;rw[this];exact A0
   have hu:a'.tmps.getD t undef=undef:=by
    simp only[Array.getD_eq_getD_getElem?];rw[Array.getElem?_eq_none (by omega)];rfl
   rw[hu];unfold qk;cases Y1:(mkT k'.slots).get t with
   |none=>exact mI β'
   |some v=>
    have:=(BQ (n:=jD E.P f) (by omega) f2 Y1).1;omega
  ·have hd:A.dfr=[]:=by
    have Q_:Od A.dfr=true:=h4;cases hdd:A.dfr with
    |nil=>rfl
    |cons _ _=>rw[hdd]at Q_;cases Q_
   have:=hA.df;have e:(⟨mkT k'.slots,jD E.P f,[]⟩:aa).dfr=A.dfr:=hd.symm;show ng β' (⟨mkT k'.slots,jD E.P f,[]⟩:aa).dfr a'.defers;rw[e];exact this
  ·obtain⟨⟨o1,g1,g2⟩,_⟩:=N2 id o ho
   exact g2.obj (hR.obj id o1 g1)
  ·obtain⟨⟨o1,g1,g2⟩,_⟩:=N2 id o a
   obtain⟨⟨o2,g3,g4⟩,_⟩:=N2 id' o' b
   rw[<-g2.ro,<-g4.ro];exact hR.sep id id' o1 o2 g g' p p' g1 g3 (g2.gen c) (g4.gen d)
  ·cases Y1:k'.hp.get id with
   |none=>rfl
   |some o=>
    have:=(N2 id o Y1).2;have G6:k'.nx≤id:=hid;omega
  obtain⟨⟨o1,g1,g2⟩,_⟩:=N2 id o a
  rcases hx.prov id o1 g p g1 (g2.gen b) c with h|⟨o0,g0,p0,a1,a2,a3,a4⟩
  ·have:=hg.2.2.2.1;omega
  have:=hp id o0 g0 p0 a1 a2 a3;omega
section
variable{E:Env}(hE:qC E)
include hE
omit hE in
theorem AE{rec:Rec}(J0:RecM rec):∀(l:List Code)(a:aa)(h:Hp),RG h.nx nE (CB E rec l a h)
 |[],a,h=>RG.one (zA1 _)
 |c::l,a,h=>RG.bind (nx:=nE) (qt J0 c none a h) λx hx=>mE ((AE J0 l _ _).le hx) (λ_=>RG.bad) RG.bad
omit hE in
theorem EG(c:Code){l:List Code}(h:l≠[]):iK (c::l)=.seq c (iK l):=by
 cases l with
 |nil=>exact absurd rfl h
 |cons x l=>rfl
theorem TX{n:Nat}{Q:Exit->Act->World->Prop}{t:List Code}(ht:t≠[]):∀(l:List Code){β:Pl}{H:Hp}{w:World}{A:aa}{a:Act}{outs:List (ak×aa×Hp)},Rel (2^40) β H w->gP β A a ->
  CB E (eval E n) l A H=.ok outs->(∀x∈outs,nE x≤2^40)->(∀x∈outs,x.1=.normal)->(∀a' w',ed (2^40) β H w outs .normal a' w'->(iK t).wpIn (fen none) 0 E.P Q a' w')->(iK (l++t)).wpIn (fen none) 0 E.P Q a w
 |[],β,H,w,A,a,outs,hR,hA,h,hb,hn,hQ=>by
  cases h
  exact hQ a w ⟨_,List.mem_singleton.2 rfl,trivial,β,hA,hR,Ext.refl _ _ _⟩
 |c::l,β,H,w,A,a,outs,hR,hA,h,hb,hn,hQ=>by
  have h':((codeF E c).run (eval E n) none A H).bind (λx=>exE x.1 (CB E (eval E n) l x.2.1 x.2.2) (λ_=>.bad "piece - exit") (.bad "piece - return"))=.ok outs:=h
  obtain⟨zs,hz,hk⟩:=R.dN h'
  have Z0:l++t≠[]:=by simp[ht]
  show(iK (c::(l++t))).wpIn (fen none) 0 E.P Q a w
  rw[EG c Z0];have hbz:∀z∈zs,nE z≤2^40:=λz hz=>by
   obtain⟨o,ho,hs⟩:=hk z hz
   exact RG.nj (k:=nE z) (nx:=nE) (mE (AE (ln E n) l _ _) (λ_=>RG.bad) RG.bad) ho hs hb
  refine wpIn_seq (Go.wpIn_mono (rq hE (Fl hE) (qu hE (Fl hE) n) (ln E n) c (r:=none) (rB:=none) (zA1 _) hR hA rfl hz hbz).1 λe a1 w1 hp=>?_);obtain⟨z,hzm,L6,β1,b6,a6,Q0⟩:=hp
  obtain⟨o,ho,hs⟩:=hk z hzm
  rcases nQ ho with⟨G5,h1⟩|⟨i,G5,h1⟩|⟨G5,h1⟩
  ·rw[L6.normal G5];exact TX ht l a6 b6 h1 (λq hq=>hb q (hs q hq)) (λq hq=>hn q (hs q hq)) λa' w' Q5=>hQ a' w' (Q5.ext Q0 hs)
  ·cases h1
  cases h1
def Nz(w0:World)(e:Ending)(w:World):Prop:=e=.returned (.bool true)∧Grown w0 w
def Good(E:Env)(f:FuncId)(fn:Func)(w0:World)(i:Nat)(k:Mark):Prop:=
 ∀a w,At E f k w0 a w->(iK ((iS E.P f).drop i)).wpIn (fen none) 0 E.P (bodyPostM Fence.wide 0 E.P fn (Nz w0)) a w
theorem wB{n:Nat}{f:FuncId}{fn:Func}{w0:World}{i d:Nat}{k k':Mark}(h:piece E n f i d k k'=true)(hl:i+d<(iS E.P f).length)(hg:Good E f fn w0 (i+d) k'):Good E f fn w0 i k:=by
 intro a w K0;unfold piece at h;rw[cF,Bool.and_eq_true]at h;obtain⟨J3,h⟩:=h
 obtain⟨outs,hr,j8⟩:=LX h
 obtain⟨B1,β,hA,hR,hp⟩:=K0
 have hfit4:k'.nx≤1099511627776:=by
  simp only[Mark.fits,Bool.and_eq_true]at J3;exact zA4 J3.2.2.2
 have hnorm:∀x∈outs,x.1=.normal∧nE x≤k'.nx:=λx hx=>by
  have hc:=j8 x hx;unfold CE at hc;cases O0:x.1 with
  |exit i=>rw[O0]at hc;cases hc
  |ret=>rw[O0]at hc;cases hc
  |normal=>
   rw[O0]at hc;have p_:both (Nat.beq x.2.1.nt (jD E.P f)) (both (Nat.ble x.2.2.nx k'.nx) (both (Qx x.2.1.tm (mkT k'.slots) (jD E.P f)) (both (RM x.2.2.t k'.objs) (Od x.2.1.dfr))))=true:=hc;simp only[cF,Bool.and_eq_true]at p_;exact⟨rfl,zA4 p_.2.1⟩
 have hsplit:(iS E.P f).drop i=((iS E.P f).drop i).take d++(iS E.P f).drop (i+d):=by
  rw[<-List.drop_drop,List.take_append_drop]
 rw[hsplit];have Z0:(iS E.P f).drop (i+d)≠[]:=by
  intro e;have:=congrArg List.length e;simp at this
  omega
 refine TX hE Z0 _ hR hA hr (λx hx=>zA2 (hnorm x hx).2 hfit4) (λx hx=>(hnorm x hx).1) λa' w' U8=>?_;obtain⟨x,hx,_,β',hA',P7,Q0⟩:=U8
 exact hg a' w' (At.next B1 hp J3 (j8 x hx) hA' P7 Q0).2
theorem WI{n:Nat}{f:FuncId}{fn:Func}(hf:E.P.funcs[f]?=some fn){w0:World}{i:Nat}{k:Mark}(h:xU E n f i k=true):Good E f fn w0 i k:=by
 intro a w K0;obtain⟨outs,hr,j8⟩:=LX h
 obtain⟨B1,β,hA,hR,hp⟩:=K0
 have hres:Qk E.P f=fn.results.toList:=by unfold Qk;rw[hf]
 rw[hres]at hr;obtain⟨zs,hz,hk⟩:=R.dN hr
 have Z1:∀x∈outs,x.1=.one (.b true)∧nV x≤2^40:=λx hx=>by
  have hc:=j8 x hx;rw[cF,Bool.and_eq_true]at hc;refine⟨?_,zA4 hc.2⟩
  have h1:=hc.1;obtain⟨v,H⟩:=x
  cases v with
  |one c=>cases c with
   |b b=>cases b with
    |true=>rfl
    |false=>cases h1
   |i _ _=>cases h1
   |o _=>cases h1
  |agg _=>cases h1
  |tup _=>cases h1
  |any=>cases h1
 have hbz:∀z∈zs,nE z≤2^40:=λz hz=>by
  obtain⟨o,ho,hs⟩:=hk z hz
  exact RG.nj (pf (zA1 _)) ho hs λx hx=>(Z1 x hx).2
 refine Go.wpIn_mono (rq hE (Fl hE) (qu hE (Fl hE) n) (ln E n) _ (r:=none) (rB:=none) (zA1 _) hR hA rfl hz hbz).1 λe a1 w1 U8=>?_;obtain⟨z,hzm,L6,β1,b6,a6,Q0⟩:=U8
 obtain⟨o,ho,hs⟩:=hk z hzm
 have T7:∀e w',kz (2^40) β k.hp w outs e w'->Nz w0 e w':=by
  rintro e w' ⟨v,rfl,x,hx,β2,hv,_,M6⟩;rw[(Z1 x hx).1]at hv;have Z3:v=.bool true:=hv;subst Z3;exact⟨rfl,Fu B1 hp M6⟩
 exact uA (E:=E) (zA1 _) L6 b6 a6 Q0 (hbz z hzm) ho hs T7
omit hE in
theorem xo{f:FuncId}{fn:Func}(hf:E.P.funcs[f]?=some fn)(M9:fn.body.isSome=true)(hnt0:Nat.ble fn.ntmps 1048576=true){w0:World}(h:Good E f fn w0 0 ⟨[],[],0⟩):Calls E.P f #[] w0 (Nz w0):=by
 obtain⟨c,hb⟩:=Option.isSome_iff_exists.1 M9
 have A0:fn.ntmps≤1048576:=zA4 hnt0;have W8:iS E.P f=spine c:=by unfold iS;rw[hf];simp only[hb]
 have hn:jD E.P f=fn.ntmps:=by unfold jD;rw[hf]
 refine(callsIn_wide (n:=0)).1 (callsIn_of_wp_marks hf hb trivial ?_)
 have h0:=h { tmps:=#[]++Array.replicate (fn.ntmps-(#[]:Array Value).size) undef,defers:=[] } w0 ⟨⟨rfl,rfl,rfl,zA1 _,λ_ _=>rfl⟩,λ_ _=>none,⟨?_,trivial⟩,⟨λid o ho=>(by cases ho),λid _ o _ _ _ _ _ ho=>(by cases ho),λ_ _=>rfl,λ_ _ _ _=>rfl⟩,λid o _ _ ho=>(by cases ho)⟩
 ·rw[List.drop_zero,W8,pP]at h0;exact h0
 have:=Ll (β:=λ_ _=>none) (nt:=fn.ntmps) A0 (args:=[]) (vs:=[]) trivial (Nat.zero_le _);show TmR _ (mkT []) (jD E.P f) _;rw[hn];exact this
end
end Go.Eng
end
