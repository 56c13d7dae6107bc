/- A part of the proof. -/
import Derived.Test.YtgepceljhelekaaGreatPAAj
import Derived.Sort.LotA
import Derived.Sort.LotB
import Derived.Sort.LotD3
set_option maxRecDepth 100000
set_option maxHeartbeats 64000000
set_option linter.all false
open Go.Proofs.Tryz (prog)
namespace Go.Proofs.YtgepceljhelekaaGreat
open Go Go.Eng
variable{v:List Int}{lr:List Rl}{K:Int->Int->Int}
def Got(limit:Nat)(found:List (List Fx))(f:List Fx):Prop:=if limit=0 then∃g∈found,cm f g=false else f∈found\/limit<found.length
structure FOk(v:List Int)(lr:List Rl)(K:Int->Int->Int)(c limit:Nat)(found:List (List Fx)):Prop where
 st:xh found
 so:∀f∈found,Sol v lr K c f
 on:limit=0->found.length<=1
def FOk.nil{c limit:Nat}:FOk v lr K c limit []:=⟨List.Pairwise.nil,λ_ h=>absurd h List.not_mem_nil,λ_=>Nat.zero_le _⟩
def Got.mem{limit:Nat}{found:List (List Fx)}{f:List Fx}(h:f∈found):Got limit found f:=by
 unfold Got;by_cases c:limit=0
 ·rw[ad c];exact⟨f,h,nC f⟩
 rw[ab c];exact .inl h
def TI{a b:List Fx}(h:cm a b=true):cm b a=false:=by
 cases k:cm b a with
 |false=>rfl
 |true=>have:=iC h k;rw[nC]at this;cases this
def oG(limit:Nat)(a b:List (List Fx)):Prop:=∀g,Got limit a g->Got limit b g
def oG.ZC{limit:Nat}{a:List (List Fx)}:oG limit a a:=λ_ h=>h
def oG.trans{limit:Nat}{a b c:List (List Fx)}(h:oG limit a b)(k:oG limit b c):oG limit a c:=λg hg=>k g (h g hg)
def GF(limit:Nat)(found:List (List Fx))(i:Nat)(f:List Fx):List (List Fx):=if limit=0 then(found.take i++f::found.drop i).take 1 else found.take i++f::found.drop i
def YG(E0:gI v lr K){c limit i:Nat}{found:List (List Fx)}{f:List Fx}(hF:FOk v lr K c limit found)(hs:Sol v lr K c f)(hi:i<=found.length)(h1:∀j g,j<i->found[j]?=some g->cm g f=true)(h2:∀j g,i<=j->found[j]?=some g->cm g f=false)
  (hn:∀g,found[i]?=some g->ig g≠ig f):FOk v lr K c limit (GF limit found i f)/\Got limit (GF limit found i f) f/\oG limit found (GF limit found i f):=by
 have R3:xh (found.take i++f::found.drop i):=by
  have t1:xh (found.take i):=List.Pairwise.sublist (List.take_sublist i found) hF.st;have t2:xh (found.drop i):=List.Pairwise.sublist (List.drop_sublist i found) hF.st;have b1:∀g∈found.take i,cm g f=true:=λg hg=>by
   obtain⟨j,hj⟩:=wU hg;have B0:j<i:=by have:=(List.getElem?_eq_some_iff.1 hj).1;rw[dM]at this;omega
   rw[tv B0]at hj;exact h1 j g B0 hj
  have b2:∀g∈found.drop i,cm f g=true:=λg hg=>by
   obtain⟨j,hj⟩:=wU hg;rw[iV]at hj;have hb:=h2 (i+j) g (Nat.le_add_right i j) hj;cases hk:cm f g with
   |true=>rfl
   |false=>
    exfalso;have e:=zk hb hk;cases j with
    |zero=>exact hn g hj e
    |succ j=>have B0:=(List.getElem?_eq_some_iff.1 hj).1;have I3:i<found.length:=aa;have h3:cm found[i] found[i+(j+1)]=true:=List.pairwise_iff_getElem.1 hF.st i (i+(j+1)) I3 B0 aa;have h4:=(List.getElem?_eq_some_iff.1 hj).2;rw[h4,hs.tri E0 (hF.so g (gN hj)) hk hb |>.symm]at h3;have h5:=h2 i found[i] (ai _) (aA I3);rw[h5]at h3;cases h3
  exact List.pairwise_append.2 ⟨t1,List.pairwise_cons.2 ⟨b2,t2⟩,λa ha b hb=>(List.mem_cons.1 hb).elim (λe=>by rw[e];exact b1 a ha) λhb=>iC (b1 a ha) (b2 b hb)⟩
 have D0:∀g,g∈found.take i++f::found.drop i↔g=f\/g∈found:=λg=>by
  have e:found.take i++found.drop i=found:=sF i found;rw[iU,List.mem_cons];constructor
  ·rintro(h|h|h)
   ·exact .inr (by rw[<-e];exact dC _ h)
   ·exact .inl h
   exact .inr (by rw[<-e];exact du _ h)
  rintro(h|h)
  ·exact .inr (.inl h)
  rw[<-e]at h;exact(List.mem_append.1 h).elim .inl λh=>.inr (.inr h)
 have Z4:∀g∈found.take i++f::found.drop i,Sol v lr K c g:=λg hg=>((D0 g).1 hg).elim (λe=>by rw[e];exact hs) (hF.so g);have hlen:(found.take i++f::found.drop i).length=found.length+1:=by rw[aI,List.length_cons,dM,iW];omega
 unfold GF;by_cases c0:limit=0
 ·rw[ad c0];generalize hl:found.take i++f::found.drop i=l at R3 D0 Z4 hlen;cases l with
  |nil=>rw[List.length_nil]at hlen;omega
  |cons h l=>
   obtain⟨p1,p2⟩:=List.pairwise_cons.1 R3;have hb:∀g∈h::l,cm g h=false:=λg hg=>(List.mem_cons.1 hg).elim (λe=>by rw[e];exact nC h) λhg=>TI (p1 g hg);have got:∀g,(∃g'∈h::l,cm g g'=false)->Got limit [h] g:=λg⟨g',Q2,hgb⟩=>by
    unfold Got;rw[ad c0];refine⟨h,List.mem_singleton.2 rfl,?_⟩;cases hk:cm g h with
    |false=>rfl
    |true=>
     rcases List.mem_cons.1 Q2 with rfl|Q2
     ·rw[hk]at hgb;cases hgb
     rw[iC hk (p1 g' Q2)]at hgb;cases hgb
   refine⟨⟨List.pairwise_singleton _ _,λg hg=>Z4 g (by rw[List.mem_singleton.1 hg];exact aT ..),λ_=>ai _⟩,got f ⟨f,(D0 f).2 (.inl rfl),nC f⟩,λg hg=>?_⟩;unfold Got at hg;rw[ad c0]at hg;obtain⟨g',Q2,hgb⟩:=hg;exact got g ⟨g',(D0 g').2 (.inr Q2),hgb⟩
 rw[ab c0];refine⟨⟨R3,Z4,λh=>absurd h c0⟩,Got.mem ((D0 f).2 (.inl rfl)),λg hg=>?_⟩;unfold Got at hg |-;rw[ab c0]at hg |-;exact hg.elim (λh=>.inl ((D0 g).2 (.inr h))) λh=>.inr (by rw[hlen];omega)
theorem BY(lc:List Cl)(t:Int):∀(l acc:List Int),gK lc t acc l=true->(∀i∈l,0<=i/\i<lc.length)/\(∀y,acc.getLast?=some y->∀i∈l,y<i)/\List.Pairwise (λa b:Int=>a<b) l
 |[],_,_=>⟨λ_ h=>absurd h List.not_mem_nil,λ_ _ _ h=>absurd h List.not_mem_nil,List.Pairwise.nil⟩
 |m::l,acc,h=>by
  rw[gK]at h;by_cases c1:m<0
  ·rw[ad c1]at h;cases h
  rw[ab c1]at h;by_cases c2:(lc.length:Int)<=m
  ·rw[ad c2]at h;cases h
  rw[ab c2]at h;by_cases c3:yK acc m=true
  ·rw[ad c3]at h;cases h
  rw[ab c3]at h;by_cases c4:gX lc m≠gX lc t
  ·rw[ad c4]at h;cases h
  rw[ab c4]at h;obtain⟨a1,a2,a3⟩:=BY lc t l (acc++[m]) h;have hl:(acc++[m]).getLast?=some m:=List.getLast?_concat;have hm:=a2 m hl;refine⟨λi hi=>?_,λy hy i hi=>?_,List.pairwise_cons.2 ⟨hm,a3⟩⟩
  ·rcases List.mem_cons.1 hi with rfl|hi
   ·omega
   exact a1 i hi
  have T9:y<m:=by unfold yK at c3;rw[hy]at c3;have:¬decide (m<=y)=true:=c3;rw[bI]at this;omega
  rcases List.mem_cons.1 hi with rfl|hi
  ·exact T9
  have:=hm i hi;omega
theorem KP(lc:List Cl):∀(l:List Rl)(T S:List Int),goR lc T S l=true->(∀r∈l,(0<=r.1/\r.1<lc.length)/\gK lc r.1 [] r.2=true/\∀t∈T,t≠r.1)/\List.Pairwise (λr s:Rl=>r.1≠s.1) l /\
  ∀j:Nat,j<lc.length->¬((((j:Int)∈T)\/∃r∈l,r.1=(j:Int))/\(((j:Int)∈S)\/∃r∈l,(j:Int)∈r.2))
 |[],T,S,h=>by
  rw[goR,om]at h;refine⟨λ_ h=>absurd h List.not_mem_nil,List.Pairwise.nil,λj hj⟨h1,h2⟩=>?_⟩;have:=h j (List.mem_range.2 hj);rw[tG,HQ,xb,xb]at this;have h1:=h1.resolve_right λ⟨_,h,_⟩=>absurd h List.not_mem_nil;have h2:=h2.resolve_right λ⟨_,h,_⟩=>absurd h List.not_mem_nil;rcases this with h3|h3
  ·exact h3 _ h1 (dk _)
  exact h3 _ h2 (dk _)
 |x::l,T,S,h=>by
  rw[goR]at h;by_cases c1:x.1<0
  ·rw[ad c1]at h;cases h
  rw[ab c1]at h;by_cases c2:(lc.length:Int)<=x.1
  ·rw[ad c2]at h;cases h
  rw[ab c2]at h;by_cases c3:T.any (λy=>y==x.1)=true
  ·rw[ad c3]at h;cases h
  rw[ab c3]at h;by_cases c4:gK lc x.1 [] x.2=false
  ·rw[ad c4]at h;cases h
  rw[ab c4]at h;obtain⟨a1,a2,a3⟩:=KP lc l (T++[x.1]) (S++x.2) h;refine⟨λr hr=>?_,List.pairwise_cons.2 ⟨λr hr=>(a1 r hr).2.2 x.1 (du _ (aT ..)),a2⟩,λj hj⟨h1,h2⟩=>a3 j hj ⟨?_,?_⟩⟩
  ·rcases List.mem_cons.1 hr with rfl|hr
   ·refine⟨aa,by simpa using c4,λt ht e=>c3 (List.any_eq_true.2 ⟨t,ht,by rw[e];exact dk _⟩)⟩
   obtain⟨b1,b2,b3⟩:=a1 r hr;exact⟨b1,b2,λt ht=>b3 t (dC _ ht)⟩
  ·rcases h1 with h1|⟨r,hr,e⟩
   ·exact .inl (dC _ h1)
   rcases List.mem_cons.1 hr with rfl|hr
   ·exact .inl (du _ (List.mem_singleton.2 e.symm))
   exact .inr ⟨r,hr,e⟩
  rcases h2 with h2|⟨r,hr,e⟩
  ·exact .inl (dC _ h2)
  rcases List.mem_cons.1 hr with rfl|hr
  ·exact .inl (du _ e)
  exact .inr ⟨r,hr,e⟩
theorem acu{lc:List Cl}{lr:List Rl}{v:List Int}{K:Int->Int->Int}(h:goR lc [] [] lr=true)(hl:lc.length<=64)(hlen:v.length=lc.length)(hv:∀x∈v,1<=x/\x<=1099511627776)
  (hk:∀i to,K i to≠0->(1<=to/\to<=1099511627776)/\to≠v.getD i.toNat 0/\K i to≠5):gI v lr K:=by
 obtain⟨a1,a2,a3⟩:=KP lc lr [] [] h;have pr:∀r∈lr,∀i∈r.2,0<=i/\i<v.length:=λr hr=>by rw[hlen];exact(BY lc r.1 r.2 [] (a1 r hr).2.1).1
 have pa:∀r∈lr,List.Pairwise (λa b:Int=>a<b) r.2:=λr hr=>(BY lc r.1 r.2 [] (a1 r hr).2.1).2.2;refine⟨λj=>?_,aa,λr hr=>by rw[hlen];exact(a1 r hr).1,pr,pa,λr hr=>?_,λr hr s hs hm=>?_,a2,hk⟩
 ·rw[bt];cases e:v[j]? with
  |none=>exact⟨ot _,aU⟩
  |some x=>have:=hv x (gN e);show 0<=x/\x<=_;omega
 ·have hn:(r.2.map λi=>i.toNat).Nodup:=List.pairwise_map.2 (tD (λ{a b}ha hb hab e=>by have:=pr r hr a ha;have:=pr r hr b hb;omega) (pa r hr))
  have:=sD (l₂:=List.range 64) hn λi hi=>by obtain⟨m,hm,rfl⟩:=List.mem_map.1 hi;have:=pr r hr m hm;exact List.mem_range.2 aa
  rwa [cP,wX]at this
 have h1:=(a1 r hr).1;have e:((r.1.toNat:Nat):Int)=r.1:=aa;exact a3 r.1.toNat aa ⟨.inr ⟨r,hr,e.symm⟩,.inr ⟨s,hs,by rw[e];exact hm⟩⟩
variable{v:List Int}{lr:List Rl}{K:Int->Int->Int}
def qo(last:Option (List Fx)):List (List Fx)->Option (List Fx)->Option (List Fx)
 |[],at_=>at_
 |g::l,at_=>qo last l (if((last.all λz=>cm z g)&&at_.all λh=>cm g h)=true then some g else at_)
def Qs(last:Option (List Fx))(g:List Fx):Prop:=∀z,last=some z->cm z g=true
def IL{last:Option (List Fx)}{g:List Fx}:(last.all λz=>cm z g)=true↔Qs last g:=by
 cases last with
 |none=>exact⟨λ_ _ h=>(by cases h),λ_=>rfl⟩
 |some z=>exact⟨λh y e=>(by cases e;exact h),λh=>h z rfl⟩
def xD(last:Option (List Fx)):∀(l:List (List Fx))(at_:Option (List Fx)),(∀h,at_=some h->Qs last h) ->
  (∀h,qo last l at_=some h->(h∈l\/at_=some h)/\Qs last h/\(∀g∈l,Qs last g->cm g h=false)/\∀g,at_=some g->cm g h=false)/\(qo last l at_=none->at_=none/\∀g∈l,¬Qs last g)
 |[],at_,ha=>⟨λh e=>⟨.inr e,ha h e,λ_ h=>absurd h List.not_mem_nil,λg e2=>by have e:at_=some h:=e;rw[e]at e2;cases e2;exact nC _⟩,λe=>⟨e,λ_ h=>absurd h List.not_mem_nil⟩⟩
 |g::l,at_,ha=>by
  rw[qo];by_cases c:((last.all λz=>cm z g)&&at_.all λh=>cm g h)=true
  ·rw[ad c];rw[aV,IL]at c;obtain⟨p,q⟩:=xD last l (some g) λh e=>by cases e;exact c.1
   refine⟨λh e=>?_,λe=>absurd (q e).1 (λh=>by cases h)⟩;obtain⟨a1,a2,a3,a4⟩:=p h e;have hg:=a4 g rfl;refine⟨.inl (a1.elim (λh=>aR _ h) λe=>by cases e;exact aT ..),a2,λy hy hc=>?_,λy hy=>?_⟩
   ·rcases List.mem_cons.1 hy with rfl|hy
    ·exact hg
    exact a3 y hy hc
   have h1:cm g y=true:=by have:=c.2;rw[hy]at this;exact this
   cases hk:cm y h with
   |false=>rfl
   |true=>rw[iC h1 hk]at hg;cases hg
  rw[ab c];obtain⟨p,q⟩:=xD last l at_ ha;rw[aV,IL]at c;refine⟨λh e=>?_,λe=>?_⟩
  ·obtain⟨a1,a2,a3,a4⟩:=p h e;refine⟨a1.elim (λh=>.inl (aR _ h)) .inr,a2,λy hy hc=>?_,a4⟩;rcases List.mem_cons.1 hy with rfl|hy
   ·cases J0:at_ with
    |none=>exact absurd ⟨hc,by rw[J0];rfl⟩ c
    |some k=>
     have h1:cm y k=false:=by
      cases hk:cm y k with
      |false=>rfl
      |true=>exact absurd ⟨hc,by rw[J0];exact hk⟩ c
     have h2:=a4 k J0;cases hk:cm y h with
     |false=>rfl
     |true=>
      exfalso;cases B3:cm h k with
      |true=>rw[iC hk B3]at h1;cases h1
      |false=>
       have e2:=zk B3 h2;have key:∀{a b d:List Fx},ig b=ig d->cm a b=cm a d:=λ{a b d}=>by
        intro hbd;induction a generalizing b d with
        |nil=>cases b<;>cases d<;>first|rfl|cases hbd
        |cons x a ih=>
         cases b with
         |nil=>cases d with|nil=>rfl|cons _ _=>cases hbd
         |cons y b=>cases d with|nil=>cases hbd|cons z d=>have h3:=(lH hbd).1;have h4:=(lH hbd).2;have h5:y.1=z.1:=(uR h3).1;have h6:y.2.2.1=z.2.2.1:=(uR h3).2;rw[cm,cm,h5,h6,ih h4]
       rw[key e2,h1]at hk;cases hk
   exact a3 y hy hc
  obtain⟨b1,b2⟩:=q e;refine⟨b1,λy hy hc=>?_⟩;rcases List.mem_cons.1 hy with rfl|hy
  ·exact c ⟨hc,by rw[b1];rfl⟩
  exact b2 y hy hc
structure yc(R out:List (List Fx)):Prop where
 st:xh out
 me:∀f∈out,f∈R
 af:∀g∈R,g∉out->∀f∈out,cm f g=true
def yc.nil{R:List (List Fx)}:yc R []:=⟨List.Pairwise.nil,λ_ h=>absurd h List.not_mem_nil,λ_ _ _ _ h=>absurd h List.not_mem_nil⟩
def WH(E0:gI v lr K){c:Nat}{R out:List (List Fx)}(hR:R.Nodup)(hS:∀f∈R,Sol v lr K c f)(h:yc R out)(hl:out.length<R.length):∃g,qo out.getLast? R none=some g/\g∈R/\yc R (out++[g]):=by
 obtain⟨p,q⟩:=xD out.getLast? R none λh e=>by cases e
 have hex:∃g∈R,g∉out:=fL λhn=>by have:=sD hR λg hg=>fL λhh=>hn ⟨g,hg,hh⟩;omega
 have hcand:∀g∈R,g∉out->Qs out.getLast? g:=λg hg R5 z hz=>h.af g hg R5 z (List.mem_of_getLast? hz);obtain⟨g0,J5,hgo0⟩:=hex;cases e:qo out.getLast? R none with
 |none=>exact absurd (hcand g0 J5 hgo0) ((q e).2 g0 J5)
 |some g=>
  obtain⟨a1,a2,a3,_⟩:=p g e;have hgR:g∈R:=a1.resolve_right λh=>by cases h
  have V2:∀f∈out,cm f g=true:=λf hf=>by
   obtain⟨z,hz⟩:∃z,out.getLast?=some z:=by
    cases hz:out.getLast? with
    |none=>rw[List.getLast?_eq_none_iff.1 hz]at hf;cases hf
    |some z=>exact⟨z,rfl⟩
   have hzg:=a2 z hz;obtain⟨l,P6⟩:=List.getLast?_eq_some_iff.1 hz;have R3:=h.st;rw[P6]at hf R3;rcases List.mem_append.1 hf with hf|hf
   ·exact iC ((List.pairwise_append.1 R3).2.2 f hf z (List.mem_singleton.2 rfl)) hzg
   rw[List.mem_singleton.1 hf];exact hzg
  refine⟨g,rfl,hgR,List.pairwise_append.2 ⟨h.st,List.pairwise_singleton _ _,λf hf y hy=>by rw[List.mem_singleton.1 hy];exact V2 f hf⟩,λf hf=>?_,λy hy hyo f hf=>?_⟩
  ·rcases List.mem_append.1 hf with hf|hf
   ·exact h.me f hf
   rw[List.mem_singleton.1 hf];exact hgR
  have hyo1:y∉out:=λhh=>hyo (dC _ hh);rcases List.mem_append.1 hf with hf|hf
  ·exact h.af y hy hyo1 f hf
  rw[List.mem_singleton.1 hf];have h1:=a3 y hy (hcand y hy hyo1);cases hk:cm g y with
  |true=>rfl
  |false=>have:=(hS y hy).tri E0 (hS g hgR) h1 hk;exact absurd (du _ (List.mem_singleton.2 this)) hyo
variable{v:List Int}{lr:List Rl}{K:Int->Int->Int}
def zZ{now:List Int}:∀(l:List Rl)(T:List Fx),dX v K now l=some T->∀x∈T,∃r∈l,x.1=r.1/\x.2.2.1=bN now 0 r.2/\bN now 0 r.2≠v.getD r.1.toNat 0/\1<=bN now 0 r.2/\bN now 0 r.2<=1099511627776
 |[],T,h,x,hx=>by cases h;cases hx
 |r::l,T,h,x,hx=>by
  rw[dX]at h;by_cases e:bN now 0 r.2=v.getD r.1.toNat 0
  ·rw[ad e]at h;obtain⟨s,hs,a⟩:=zZ l T h x hx;exact⟨s,aR _ hs,a⟩
  rw[ab e]at h;by_cases b:bN now 0 r.2<1\/1099511627776<bN now 0 r.2
  ·rw[ad b]at h;cases h
  rw[ab b]at h;cases ht:dX v K now l with
  |none=>rw[ht]at h;cases h
  |some T1=>
   rw[ht]at h;cases h
   rcases List.mem_cons.1 hx with rfl|hx
   ·exact⟨r,aT ..,rfl,rfl,e,aa,aa⟩
   obtain⟨s,hs,a⟩:=zZ l T1 ht x hx;exact⟨s,aR _ hs,a⟩
def Ry(E0:gI v lr K){c:Nat}(h:∀c'<c,∀f,¬Sol v lr K c' f):LD v lr K c:=
 YR E0 λc' f hs=>Nat.not_lt.1 λhl=>h c' hl f hs
theorem Tw:ao prog 169=true:=ae
theorem TE:ao prog 143=true:=ae
section
variable{α:Type}[Inhabited α]{c:α->List AC}{cf:α->α->Int}{cl N:Nat}
theorem Zn(hm:Cmp c cf cl N)(hsw:Go.Sort.SWO (ltF cf))(id gen n:Nat)(hn:n<=65536)(H:Hp)(d:Array α)(a b lim:Nat)(hs:Srt c H id gen n d)(hN:N<=H.nx)(hab:a<=b)(hb:b<=n)(h12:b-a<=12)(Y5:lim<=64):
  Con E2 169 [.one (.o (.sl id gen 0 n 4)),.one (.i .i64 a),.one (.i .i64 b),.one (.i .i64 lim),.one (.o (.clo cl []))] H (λk=>k=id) λr H'=>r=.tup []/\∃d',Srt c H' id gen n d'/\Go.Sort.PermIn a b d d'/\Go.Sort.SortedIn (ltF cf) a b d':=by
 refine Con.qw (λH=>Srt c H id gen n d) hs (λH=>N<=H.nx) hN λH hs hN=>?_;refine C1.QK 148 [] Tryz.func169 λtm h0 h1 h2 h3 h4=>?_;obtain⟨L,hL⟩:∃L,L=b-a:=⟨_,rfl⟩;have hwL:IntKind.i64.wrap ((b:Int)-(a:Int))=(L:Int):=by rw[gE aa aa];omega
 have h12i:(L:Int)<=12:=aa;replace hL:=ay hL;refine zW tyF ?_;refine R1.mD λK k1 k2 k3 k4=>?_;refine R1.loop (λz A H3=>H3=H/\slot A.tm 0=.one (.o (.sl id gen 0 n 4))/\dm A a (ju A b (eO A 4 (.o (.clo cl [])) 148 []))) ?_ 0 ⟨rfl,zL⟩;clear h0 h1 h2 h3 h4 tm k3;rintro z A H3 ⟨rfl,t0,t1,t2,t4,z0,A0⟩;refine R1.mD λK2 q1 q2 q3 q4=>?_;refine zW tyF ?_;refine zG (qA tyF Tt) λK5 V0=>?_;refine WE.con (YF hm H3 id gen n d a b hs hN hab hb aa) λw' H4 g4⟨hw,hs4⟩=>?_;subst hw;obtain⟨x1,x2⟩:=Go.Sort.insertionSort_holds hsw d a b hab (by have:=hs.sz;omega);replace x1:=ay x1;replace x2:=ay x2;replace hs4:=ay hs4;refine zK tyF ?_;exact q4.out _ _ (k4.out _ _ ⟨_,_,cS (.inr rfl) qe,g4,λ_=>⟨rfl,_,hs4.out,x1.out,x2.out⟩⟩)
theorem Sk(hm:Cmp c cf cl N)(hsw:Go.Sort.SWO (ltF cf))(H:Hp)(id gen n:Nat)(d:Array α)(hs:Srt c H id gen n d)(hN:N<=H.nx)(hn:n<=12):
  Con E2 143 [.one (.o (.sl id gen 0 n 4)),.one (.o (.clo cl []))] H (λk=>k=id) λr H'=>r=.tup []/\∃d',Srt c H' id gen n d'/\d'.toList.Perm d.toList/\Go.Sort.SortedIn (ltF cf) 0 n d':=by
 refine Con.qw (λH=>Srt c H id gen n d) hs (λH=>N<=H.nx) hN λH hs hN=>?_;refine C1.fD 14 [] Tryz.func143 λtm h0 h1=>?_;have hid:=hs.lt;have hdz:=hs.sz;have e1:IntKind.u64.wrap (n:Int)=(n:Int):=Xx aa;have hb:=vp (show n<=65536 by omega);replace hdz:=ay hdz;refine zW tyF ?_;refine zG (zDe tyU ixS (cvQ oh HF) Tu) λK hK=>?_;refine WE.con (Pe H n aa) λw' H1 g1 hw=>?_;subst hw;have O5:=hs.fr g1 aE;refine zS (qA tyF Tw) ?_;refine WE.con (Zn hm hsw id gen n aa H1 d 0 n (Go.Sort.bitsLen n) O5 (aS hN g1.nx) (Nat.zero_le _) (ai _) aa aa) λw' H2 g2⟨hw,d',L1,hp,Z4⟩=>?_;subst hw;replace L1:=ay L1;replace hp:=ay hp;replace Z4:=ay Z4;refine zK tyF ?_;refine⟨_,_,cS (.inl rfl) qe,((Fr.refl (X:=λk=>k=id) H).then g1 λ_ h=>h.elim).then g2 λ_ h=>.inr h,λ_=>⟨rfl,d',L1.out,?_,Z4.out⟩⟩;have h3:=hp.out.2.2;have e2:n=d.size:=hdz.out.symm;have e3:n=d'.size:=L1.out.1.symm;rw[show d'.extract 0 n=d' from by rw[e3];exact Array.extract_size,show d.extract 0 n=d from by rw[e2];exact Array.extract_size]at h3;exact h3
end
theorem XW:ao prog 171=true:=ae
theorem Oh:ao prog 170=true:=ae
theorem Og:ao prog 146=true:=ae
def FxB(x:Fx):Prop:=(0<=x.1/\x.1<=64)/\1<=x.2.2.1/\x.2.2.1<=1099511627776
def cxF(x y:Fx):Int:=if x.1≠y.1 then x.1-y.1 else x.2.2.1-y.2.2.1
def pn:List Fx->List Fx->Int
 |[],[]=>0
 |[],_::_=>-1
 |_::_,[]=>1
 |x::a,y::b=>if cxF x y≠0 then cxF x y else pn a b
theorem AW:∀a b:List Fx,(pn a b<0↔cm a b=true)/\(pn a b=0↔ig a=ig b)
 |[],[]=>by simp[pn,cm,ig]
 |[],_::_=>by simp[pn,cm,ig]
 |_::_,[]=>by simp[pn,cm,ig]
 |x::a,y::b=>by
  obtain⟨h1,h2⟩:=AW a b;have e:ig (x::a)=ig (y::b)↔(x.1=y.1/\x.2.2.1=y.2.2.1)/\ig a=ig b:=by show(x.1,x.2.2.1)::ig a=(y.1,y.2.2.1)::ig b↔_;rw[tE,Prod.mk.injEq]
  rw[e,pn,cm];unfold cxF;by_cases c1:x.1≠y.1
  ·rw[ad c1,ad (show x.1-y.1≠0 by omega),ad c1,bI];exact⟨aa,⟨λh=>aa,λh=>absurd h.1.1 c1⟩⟩
  rw[ab c1,ab c1];by_cases c2:x.2.2.1≠y.2.2.1
  ·rw[ad (show x.2.2.1-y.2.2.1≠0 by omega),ad c2,bI];exact⟨aa,⟨λh=>aa,λh=>absurd h.1.2 c2⟩⟩
  rw[ab (show¬x.2.2.1-y.2.2.1≠0 by omega),ab c2];exact⟨h1,h2.trans ⟨λh=>⟨⟨aa,aa⟩,h⟩,λh=>h.2⟩⟩
def aav(found:List (List Fx))(f:List Fx)(i:Nat):Prop:=i<=found.length/\(∀j g,j<i->found[j]?=some g->cm g f=true)/\∀j g,i<=j->found[j]?=some g->cm g f=false
theorem TZ(H:Hp)(x y:Fx)(hx:FxB x)(hy:FxB y):Con E2 171 [.agg (fxC x),.agg (fxC y)] H (λ_=>False) λr _=>r=.one (.i .i64 (cxF x y)):=by
 refine Con.xw λH=>?_;obtain⟨x1,x2,x3,x4⟩:=x;obtain⟨y1,y2,y3,y4⟩:=y;have bx:(0<=x1/\x1<=64)/\1<=x3/\x3<=1099511627776:=hx;have bv:(0<=y1/\y1<=64)/\1<=y3/\y3<=1099511627776:=hy;have hw:=cB (x1-y1);have X1:=cB (x3-y3);show C1 E2 _ [.agg [.i .i64 x1,.i .i64 x2,.i .i64 x3,.i .i64 x4],.agg [.i .i64 y1,.i .i64 y2,.i .i64 y3,.i .i64 y4]] H λv h'=>Fr _ H h'/\∀_:List Nat,v=.one (.i .i64 (if x1≠y1 then x1-y1 else x3-y3));clear hx hy bx bv;refine C1.fD 20 [.tmp 4] Tryz.func171 λtm h0 h1=>?_;by_cases hq:x1=y1
 ·have ce:=beq_iff_eq.2 hq;rw[ab (λh=>h hq)];clear hq;refine zW tyF ?_;exact⟨_,_,aw (.i .i64 (x3-y3)) (.inr rfl) qe qp,((Fr.refl _).new _).new _,λ_=>rfl⟩
 have ce:(x1==y1)=false:=aF hq;rw[ad hq];clear hq;refine zW tyF ?_;exact⟨_,_,aw (.i .i64 (x1-y1)) (.inr rfl) qe qp,((Fr.refl _).new _).new _,λ_=>rfl⟩
theorem TX(H:Hp)(v w:AC)(l k:List Fx)(hv:SlF H v l)(hw:SlF H w k)(hl:∀x∈l,FxB x)(hk:∀x∈k,FxB x)(hL:l.length<=1000000)(hK:k.length<=1000000):
  Con E2 170 [.one v,.one w,.one (.o (.clo 171 []))] H (λ_=>False) λr _=>r=.one (.i .i64 (pn l k)):=by
 refine Con.qw (λH=>SlF H v l) hv (λH=>SlF H w k) hw λH hv hw=>?_;refine C1.yV 39 [.tmp 6] Tryz.func170 λtm h0 h1 h2=>?_;have fin:=rC E2 H 6 (pn l k);generalize C0:pn l k=r0 at fin;have l1:=hv.len;have l3:=hv.lt;refine zW tyF ?_;refine R1.dL λK k1 k2 k3 k4=>?_;refine R1.loop (λm A H2=>∃i:Nat,m=l.length-i/\i<=l.length/\i<=k.length/\pn (l.drop i) (k.drop i)=r0/\Gr H H2/\LC A.tm 0 1 2 11 (v) (w) (.o (.clo 171 [])) (v) (ng A l.length (oy A i (A.nt=39/\A.dfr=[])))) ?_ l.length ⟨0,rfl,Nat.zero_le _,Nat.zero_le _,C0,Fr.refl _,zL⟩;clear h0 h1 h2 tm l1 l3 k3 C0;rintro m A H2 ⟨i,rfl,hi,hik,hr,g2,t0,t1,t2,t11,t12,t13,z0,A0⟩;have G5:=hv.gr g2;have Z':=hw.gr g2;have m1:=G5.len;have m2:=Z'.len;have m3:=G5.lt;have m4:=Z'.lt;refine zW tyF ?_;refine zI tyF (λhc=>?_) (λhc=>?_)
 ·have B0:i<l.length:=aa;have ex:=aA B0;have M0:=List.drop_eq_getElem_cons B0;have Y1:=cK B0;have D0:=bW B0;generalize l[i]=x at ex M0 Y1 D0;have X1:=bB i;have bx:=hl x D0;obtain⟨id,g,off,cells,rfl,hid,W0,J0⟩:=G5.open aa;have O0:=J0 i x ex;have y1:=O0.all;have y2:=O0.le;clear J0 O0 ex Y1 D0;rw[M0]at hr;refine zW tyF ?_;refine R1.dL λK2 q1 q2 q3 q4=>?_;rw[fxC]at y1;obtain⟨x1,x2,x3,x4⟩:=x;refine zG (qA tyF (ixC B0)) λK hK=>?_;apply hK.out;refine R1.gen (λA1 H1=>Gr H2 H1/\H2.nx<H1.nx/\H1.get H2.nx=some (.arr [.i .i64 x1,.i .i64 x2,.i .i64 x3,.i .i64 x4] 80 0 0)/\ky A1.tm 0 1 2 (.o (.sl id g off l.length 4)) (w) (.o (.clo 171 [])) (gU A1 i (eQ A1.tm 8 11 (.o (.ptr H2.nx 0 0 4)) (.o (.sl id g off l.length 4)) (ng A1 l.length (oy A1 i (A1.nt=39/\A1.dfr=[]))))))
   ⟨((Fr.refl _).new _).mod _ (.inl (ai _)),ba _,aq rfl,zL⟩ ?_
  clear t0 t1 t2 t11 t12 t13 z0 A0 A W0 hid y1 y2 hK K m1 m2 m3 m4;rintro A H3 ⟨g3,n3,rx,t0,t1,t2,t7,t8,t11,t12,t13,z0,A0⟩;have O3:=Z'.gr g3;have m2:=O3.len;have m4:=O3.lt;by_cases hik2:i<k.length
  ·have N9:¬((k.length:Int)<=(i:Int)):=aa;have ey:=aA hik2;have hdk:=List.drop_eq_getElem_cons hik2;have D0:=bW hik2;generalize k[i]=y at ey hdk D0;have bv:=hk y D0;rw[hdk,pn]at hr;obtain⟨id',g',off',cells',rfl,U4,hgr',N5⟩:=O3.open aa;have V6:=N5 i y ey;have y3:=V6.all;have y4:=V6.le;clear N5 V6 ey D0 hdk M0;rw[fxC]at y3;obtain⟨z1,z2,z3,z4⟩:=y;refine zW (qA tyF (ixC hik2)) ?_;refine zG (qA tyF XW) λK hK=>?_;refine WE.con (TZ _ (x1,x2,x3,x4) (z1,z2,z3,z4) bx bv) λw' H4 g4 hq=>?_;subst hq;generalize cxF (x1,x2,x3,x4) (z1,z2,z3,z4)=c at hr;have g24:Gr H2 H4:=((g3.new _).mod _ (.inl g3.nx)).gr g4;by_cases hcz:c=0
   ·have ce:=beq_iff_eq.2 hcz;rw[ab (λh=>h hcz)]at hr;clear hcz;refine zK tyF ?_;apply q1.out;refine zW tyF ?_;exact⟨l.length-(i+1),aa,i+1,rfl,B0,hik2,hr,g2.gr g24,zL⟩
   have ce:(c==0)=false:=aF hcz;replace hr:=ay hr;replace hcz:=ay hcz;refine zK tyF ?_;exact q4.out _ _ (k4.out _ _ (fin (c) _ _ qp qe (g2.gr g24) ((by have h:=hr.out;rw[ad hcz.out]at h;exact h))))
  have N9:(k.length:Int)<=(i:Int):=aa;have M4:k.drop i=[]:=pU aa;rw[M4,pn]at hr;replace hr:=ay hr;clear hik2 M4 M0;refine zW tyF ?_;exact q4.out _ _ (k4.out _ _ (fin (1) _ _ qp qe (g2.gr g3) (hr.out)))
 have U0:i=l.length:=aa;refine zW tyF ?_;apply k2.out;rw[U0,ct]at hr;by_cases G4:l.length<k.length
 ·have N9:((l.length:Int)<(k.length:Int)):=aa;have hdk:k.drop l.length=k[l.length]::k.drop (l.length+1):=List.drop_eq_getElem_cons G4;rw[hdk,pn]at hr;replace hr:=ay hr;clear hdk U0 G4 hc;refine zW tyF ?_;exact fin (-1) _ _ qp qe (g2) (hr.out)
 have N9:¬((l.length:Int)<(k.length:Int)):=aa;have hdk:k.drop l.length=[]:=pU aa;rw[hdk,pn]at hr;replace hr:=ay hr;clear hdk U0 G4 hc;refine zW tyF ?_;exact fin (0) _ _ qp qe (g2) (hr.out)
theorem IS(H:Hp)(v w:AC)(l k:List Fx)(hv:SlF H v l)(hw:SlF H w k)(hl:∀x∈l,FxB x)(hk:∀x∈k,FxB x)(hL:l.length<=1000000)(hM:k.length<=1000000):
  Con E2 146 [.one v,.one w] H (λ_=>False) λr _=>r=.one (.i .i64 (pn l k)):=by
 refine Con.qw (λH=>SlF H v l) hv (λH=>SlF H w k) hw λH hv hw=>?_;refine C1.fD 8 [.tmp 4] Tryz.func146 λtm h0 h1=>?_;refine zG (qA tyF Oh) λK hK=>?_;apply hK.out;refine zG (qA tyF Oh) λK hK=>?_;refine WE.con (TX H v w l k hv hw hl hk hL hM) λw' H2 g2 hq=>?_;subst hq;refine zK tyF ?_;exact⟨_,_,aw (.i .i64 (pn l k)) (.inr rfl) qe qp,g2,λ_=>rfl⟩
theorem aaD:ao prog 145=true:=ae
theorem tyR:type_of% (zDm tyU OZ Qe sP Pf NY Pb Qh Eb Ec Ed (zDm Ee Ef Eg JK Lh Vg Xg Vf Xf Vj Xh (zDe VG Vu Vh Vi))):=
 zDm tyU OZ Qe sP Pf NY Pb Qh Eb Ec Ed (zDm Ee Ef Eg JK Lh Vg Xg Vf Xf Vj Xh (zDe VG Vu Vh Vi))
def FnR(H:Hp)(c:List AC)(f:List Fx):Prop:=∃v,c=[v]/\SlF H v f
theorem Ov{u:AC}:vA [u]=(AV.one u).ids:=by simp only[DI,IP,List.append_nil]
theorem FnR.gr{H H':Hp}{c:List AC}{f:List Fx}(h:FnR H c f)(hg:Gr H H'):FnR H' c f:=let ⟨u,h1,h2⟩:=h;⟨u,h1,h2.gr hg⟩
theorem pt:FrR FnR:=λY H H' c x⟨u,h1,h2⟩hf hi=>by subst h1;rw[Ov]at hi;exact⟨u,rfl,SlC.fr h2 hf hi⟩
theorem nY:LtR FnR:=λH c x⟨u,h1,h2⟩i hi=>by subst h1;rw[Ov]at hi;exact h2.lt i hi
def iR(H:Hp)(v:AC)(l:List (List Fx)):Prop:=SlR FnR 1 H v l
theorem iR.gr{H H':Hp}{v:AC}{l:List (List Fx)}(h:iR H v l)(hg:Gr H H'):iR H' v l:=SlR.fI h hg.nx (λi hi=>hg.get i hi aE) λ_ _ h=>h.gr hg
theorem iR.len{H:Hp}{v:AC}{l:List (List Fx)}(h:iR H v l):eD H 1 (.one v)=.val (.one (.i .i64 (l.length:Int))) H:=SlR.len h
theorem iR.lt{H:Hp}{v:AC}{l:List (List Fx)}(h:iR H v l):ltV (.one v) H.nx:=SlR.lt h
theorem iR.open{H:Hp}{v:AC}{l:List (List Fx)}(h:iR H v l)(hn:0<l.length):∃id g off cells,v=.o (.sl id g off l.length 1)/\id<H.nx/\rowOf (H.get id) g=some cells/\∀(i:Nat)(x:List Fx),l[i]?=some x->∃u,SlF H u x/\(cells.drop (off+i*1)).headD (.b false)=u/\off+i*1+1<=cells.length:=by
 obtain⟨id,g,off,cells,h1,h2,h3,h4⟩:=SlR.open h hn;refine⟨id,g,off,cells,h1,h2,h3,λi x hx=>?_⟩;obtain⟨h5,c,h6,h7,u,rfl,h8⟩:=h4 i x hx;refine⟨u,h8,?_,h5⟩;cases hd:cells.drop (off+i*1)with
 |nil=>rw[hd]at h6;cases h6
 |cons a l=>rw[hd]at h6;have:[a]=[u]:=h6;cases this;rfl
theorem La{found:List (List Fx)}{f:List Fx}(hs:xh found){i j:Nat}{g h:List Fx}(hij:i<=j)(hg:found[i]?=some g)(hh:found[j]?=some h):(cm h f=true->cm g f=true)/\(cm g f=false->cm h f=false):=by
 have key:cm h f=true->cm g f=true:=λhb=>by
  rcases cL i j with h1|h1
  ·obtain⟨a,rfl⟩:=List.getElem?_eq_some_iff.1 hg;obtain⟨b,rfl⟩:=List.getElem?_eq_some_iff.1 hh;exact iC (List.pairwise_iff_getElem.1 hs i j a b h1) hb
  have:i=j:=aa;subst this;rw[hg]at hh;cases hh;exact hb
 refine⟨key,λhb=>?_⟩;cases hk:cm h f with
 |false=>rfl
 |true=>rw[key hk]at hb;cases hb
theorem Ye(H:Hp)(v w:AC)(l:List (List Fx))(f:List Fx)(hv:iR H v l)(hw:SlF H w f)(hs:xh l)(hb:∀g∈l,(∀x∈g,FxB x)/\g.length<=1000000)(hf:∀x∈f,FxB x)(Q8:f.length<=1000000)(hL:l.length<=1000000):
  Con E2 145 [.one v,.one w,.one (.o (.clo 146 []))] H (λ_=>False) λr _=>∃(i:Nat)(b:Bool),r=.tup [(false,[.i .i64 (i:Int)]),(false,[.b b])]/\aav l f i/\(b=true↔∃g,l[i]?=some g/\ig g=ig f):=by
 refine Con.qw (λH=>iR H v l) hv (λH=>SlF H w f) hw λH hv hw=>?_;refine C1.yV 49 [.tmp 6,.tmp 7] Tryz.func145 λtm h0 h1 h2=>?_;have l1:=hv.len;have l3:=hv.lt;refine zW tyR ?_;refine R1.dL λK k1 k2 k3 k4=>?_;refine R1.loop (λm A H2=>∃i j:Nat,m=j-i/\i<=j/\j<=l.length/\(∀q g,q<i->l[q]?=some g->cm g f=true)/\(∀q g,j<=q->l[q]?=some g->cm g f=false)/\Gr H H2/\ky A.tm 0 1 2 (v) (w) (.o (.clo 146 [])) (lK A l.length (slot A.tm 9=.one (.i .i64 (i:Int))/\lI A j (A.nt=49/\A.dfr=[])))) ?_ l.length
  ⟨0,l.length,rfl,Nat.zero_le _,ai _,λq g h=>absurd h (Nat.not_lt_zero q),λq g h hg=>(by rw[iY h]at hg;cases hg),Fr.refl _,zL⟩
 clear h0 h1 h2 tm l1 l3 k3;rintro m A H2 ⟨i,j,rfl,hij,hjl,L7,hhi,g2,t0,t1,t2,t8,t9,t10,z0,A0⟩;have G5:=hv.gr g2;have Z':=hw.gr g2;have m1:=G5.len;have m3:=G5.lt;replace L7:=ay L7;replace hhi:=ay hhi;by_cases hc:i<j
 ·have M9:(i:Int)<(j:Int):=aa;have e0:shF .shr .u64 ((i+j:Nat):Int) 1=(((i+j)/2:Nat):Int):=WL (k:=1) aU;have e1:IntKind.i64.wrap ((i:Int)+(j:Int))=((i+j:Nat):Int):=by rw[gE aa aa];omega
  have e2:IntKind.u64.wrap ((i+j:Nat):Int)=((i+j:Nat):Int):=Xx aa;have e3:=cB (((i+j)/2:Nat):Int);obtain⟨h,hh⟩:∃h,h=(i+j)/2:=⟨_,rfl⟩;have hih:i<=h:=aa;have hhj:h<j:=aa;rw[<-hh]at e0 e3;clear hh;have B0:h<l.length:=aa;have ex:=aA B0;have D0:=bW B0;generalize l[h]=g at ex D0;obtain⟨bg,bgl⟩:=hb g D0;obtain⟨id,gg,off,cells,rfl,hid,W0,J0⟩:=G5.open aa;obtain⟨u,hu,y1,y2⟩:=J0 h g ex;have e4:=bB h;replace ex:=ay ex;clear J0 D0;refine zW (qA tyR (shI (op:=.shr) (show(0:Int)<=1 by decide))) ?_;refine R1.mD λK2 q1 q2 q3 q4=>?_;refine zW (zDf tyR (shI (op:=.shr) (show(0:Int)<=1 by decide)) ixS (cvQ oh HF) (cvQ HF oh)) ?_;refine zG (zDd tyR (ixC B0) Og) λK5 V0=>?_;refine WE.con (IS H2 u w g f hu Z' bg hf bgl Q8) λw' H3 g3 hq=>?_;subst hq;obtain⟨c1,c2⟩:=AW g f;generalize pn g f=c at c1 c2;replace c1:=ay c1;replace c2:=ay c2;by_cases hcn:c<0
  ·refine zK tyR ?_;apply q1.out;refine⟨j-(h+1),aa,h+1,j,rfl,aa,hjl,λq g' hq Q2=>?_,hhi.out,g2.gr g3,zL⟩;exact(La hs (show q<=h by omega) Q2 ex.out).1 (c1.out.1 hcn)
  refine zK tyR ?_;apply q1.out;refine⟨h-i,aa,i,h,rfl,hih,aa,L7.out,λq g' hq Q2=>?_,g2.gr g3,zL⟩;refine(La hs hq ex.out Q2).2 ?_;cases hk:cm g f with
  |false=>rfl
  |true=>exact absurd (c1.out.2 hk) hcn
 have M9:¬(i:Int)<(j:Int):=aa;have hij2:i=j:=aa;subst hij2;refine zW tyR ?_;apply k2.out;have fin:∀(b:Bool)(A:ag)(H3:Hp),slot A.tm 6=.one (.i .i64 (i:Int))->slot A.tm 7=.one (.b b)->A.dfr=[]->Gr H H3->(b=true↔∃g,l[i]?=some g/\ig g=ig f)->∃w H4,aK E2 [.tmp 6,.tmp 7] (.ret,A,H3)=.ok [(w,H4)]/\Gr H H4/\∀_:List Nat,∃(i:Nat)(b:Bool),w=.tup [(false,[.i .i64 (i:Int)]),(false,[.b b])]/\aav l f i/\(b=true↔∃g,l[i]?=some g/\ig g=ig f):=λb A H3 h1 h2 h3 h4 h5=>
  ⟨_,H3,bP (.i .i64 (i:Int)) (.b b) (.inr rfl) h3 h1 h2,h4,λ_=>⟨i,b,rfl,⟨hjl,L7.out,hhi.out⟩,h5⟩⟩
 by_cases B0:i<l.length
 ·have hlti:(i:Int)<(l.length:Int):=aa;have ex:=aA B0;have D0:=bW B0;generalize l[i]=g at ex D0;obtain⟨bg,bgl⟩:=hb g D0;obtain⟨id,gg,off,cells,rfl,hid,W0,J0⟩:=G5.open aa;obtain⟨u,hu,y1,y2⟩:=J0 i g ex;replace ex:=ay ex;replace fin:=ay fin;clear J0 D0;refine zG (zDd tyR (ixC B0) Og) λK5 V0=>?_;refine WE.con (IS H2 u w g f hu Z' bg hf bgl Q8) λw' H3 g3 hq=>?_;subst hq;obtain⟨c1,c2⟩:=AW g f;generalize pn g f=c at c1 c2;replace c1:=ay c1;replace c2:=ay c2;refine zK tyR ?_;refine fin.out (c==0) _ _ qp qp qe (g2.gr g3) ?_;rw[jr];refine c2.out.trans ⟨λh=>⟨g,ex.out,h⟩,λ⟨g',h1,h2⟩=>?_⟩;rw[ex.out]at h1;cases h1;exact h2
 have hlti:¬(i:Int)<(l.length:Int):=aa;have ex:l[i]?=none:=iY aa;replace ex:=ay ex;replace fin:=ay fin;refine zW tyR ?_;refine fin.out false _ _ qp qp qe g2 ⟨λh=>(by cases h),λ⟨g',h1,_⟩=>?_⟩;rw[ex.out]at h1;cases h1
theorem Dw:ao prog 101=true:=ae
theorem XV:ao prog 144=true:=ae
theorem Lm:prog.underlying 30=some (.slice 80):=ae
theorem Iq:dE prog 30=1:=ae
theorem wv:type_of% (Pv Iq Lm):=Pv Iq Lm
def lk(H:Hp)(v:AC)(l:List Fx)(r:Option Nat):Prop:=dA H v 80 4 l.length (l.flatMap fxC) r
theorem lk.slF{H:Hp}{v:AC}{l:List Fx}{r:Option Nat}(h:lk H v l r):SlF H v l:=dA.slc h
theorem AU(H:Hp)(v:AC)(l:List Fx)(hv:SlF H v l)(hL:l.length*32<=140737488355328):
  Con E2 101 [.one v] H (λ_=>False) λr H'=>∃v' q,r=.one v'/\lk H' v' l q/\∀i,q=some i->H.nx<=i:=by
 refine Con.BB (λH=>SlF H v l) hv λH e hv=>?_;rw[<-e];clear e;refine C1.jR 8 [.tmp 2] Tryz.func101 λtm h0=>?_;obtain⟨z,hz,Q1⟩:=xV;have I5:SlC H v 4 l.length (l.flatMap fxC):=hv;have B0:=hv.lt;rcases id I5 with⟨hc,⟨rfl,Z2⟩|⟨id,g,off,rfl,hid,hr⟩⟩
 ·have hl:l=[]:=List.eq_nil_of_length_eq_zero Z2;subst hl;clear hz Q1 z I5 hc Z2 hv;refine zW (qA tyF wv) ?_;exact⟨_,_,aw (.o .nilS) (.inr rfl) qe qp,Fr.refl _,λ_=>⟨_,none,rfl,.inl ⟨rfl,rfl,rfl,rfl⟩,λi h=>by cases h⟩⟩
 obtain⟨v',H',B1,ho,hf⟩:=Dt (P:=prog) (H:=H.new (.arr [] 80 0 0)) (t:=30) (id:=H.nx) jb uk hz Q1 aU (aC rfl) (ba _) (I5.gr ((Fr.refl _).new _)) aa;have hg:Gr H H':=((Fr.refl _).new _).then hf λi h=>.inl aa;clear hz Q1 z hc;replace hv:=ay hv;replace I5:=ay I5;replace hr:=ay hr;replace hf:=ay hf;refine zW (zDd tyF wv aaq) ?_;exact⟨_,_,aw v' (.inr rfl) qe qp,hg,λ_=>⟨v',some H.nx,rfl,ho,λi h=>by cases h;exact ai _⟩⟩
abbrev FxN:={x:Fx // 0<=x.1/\x.1<=64}
instance:Inhabited FxN:=⟨⟨(0,0,0,0),⟨ot _,aU⟩⟩⟩
def fxN(x:FxN):List AC:=fxC x.1
def cfX(x y:FxN):Int:=x.1.1-y.1.1
theorem TY(H:Hp)(x y:FxN):Con E2 144 [.agg (fxN x),.agg (fxN y)] H (λ_=>False) λr _=>r=.one (.i .i64 (cfX x y)):=by refine Con.xw λH=>?_;obtain⟨⟨x1,x2,x3,x4⟩,hx⟩:=x;obtain⟨⟨y1,y2,y3,y4⟩,hy⟩:=y;replace hx:0<=x1/\x1<=64:=hx;replace hy:0<=y1/\y1<=64:=hy;have hw:=cB (x1-y1);show C1 E2 _ [.agg [.i .i64 x1,.i .i64 x2,.i .i64 x3,.i .i64 x4],.agg [.i .i64 y1,.i .i64 y2,.i .i64 y3,.i .i64 y4]] H λv h'=>Fr _ H h'/\∀_:List Nat,v=.one (.i .i64 (x1-y1));clear hx hy;refine C1.fD 10 [.tmp 4] Tryz.func144 λtm h0 h1=>?_;refine zW tyF ?_;exact⟨_,_,aw (.i .i64 (x1-y1)) (.inr rfl) qe qp,((Fr.refl _).new _).new _,λ_=>rfl⟩
theorem cmpT:Cmp fxN cfX 144 0 where
 len:=λx=>rfl
 lt:=λx i hi=>by obtain⟨⟨x1,x2,x3,x4⟩,hx⟩:=x;have:i∈([]:List Nat):=hi;cases this
 bd:=XV
 con:=λH x y _=>TY H x y
theorem swoT:Go.Sort.SWO (ltF cfX)where
 irrefl:=λx=>by unfold ltF cfX;exact bJ aa
 trans:=λx y z h1 h2=>by unfold ltF cfX at *;rw[bI]at *;omega
 ntrans:=λx y z h1 h2=>by unfold ltF cfX at *;rw[qf]at *;omega
theorem UO(H:Hp)(cl:FuncId):Con E2 182 [.one (.o .nilS),.one (.i .i64 0),.one (.i .i64 0),.one (.o (.clo cl []))] H (λ_=>False) λr _=>r=.tup []:=by refine Con.xw λH=>?_;refine C1.QJ 53 [] Tryz.func182 λtm h0 h1 h2 h3=>?_;have hw:IntKind.i64.wrap (0+1)=1:=aU;refine zW tyF ?_;refine R1.mD λK k1 k2 k3 k4=>?_;refine R1.loop (λz A H1=>Gr H H1/\nu A 2 8 (.i .i64 (0:Int)) (.i .i64 (1:Int)) 53 []) ?_ 0 ⟨Fr.refl _,zL⟩;clear h0 h1 h2 h3 tm k3;rintro z A H1 ⟨g1,t2,t8,z0,A0⟩;have hc:¬(1:Int)<0:=aU;refine zW tyF ?_;apply k2.out;exact⟨_,_,cS (.inl rfl) qe,g1,λ_=>rfl⟩
theorem VY(H:Hp)(cl:FuncId):Con E2 169 [.one (.o .nilS),.one (.i .i64 0),.one (.i .i64 0),.one (.i .i64 0),.one (.o (.clo cl []))] H (λ_=>False) λr _=>r=.tup []:=by refine Con.xw λH=>?_;refine C1.QK 148 [] Tryz.func169 λtm h0 h1 h2 h3 h4=>?_;have hw:IntKind.i64.wrap (0-0)=0:=aU;refine zW tyF ?_;refine R1.mD λK k1 k2 k3 k4=>?_;refine R1.loop (λz A H1=>Gr H H1/\xe A 0 1 2 4 (.o .nilS) (.i .i64 (0:Int)) (.i .i64 (0:Int)) (.o (.clo cl [])) 148 []) ?_ 0 ⟨Fr.refl _,zL⟩;clear h0 h1 h2 h3 h4 tm k3;rintro z A H1 ⟨g1,t0,t1,t2,t4,z0,A0⟩;have hc:(0:Int)<=12:=aU;refine R1.mD λK2 q1 q2 q3 q4=>?_;refine zW tyF ?_;refine zG (qA tyF Tt) λK5 V0=>?_;refine WE.con (UO H1 cl) λw' H2 g2 N4=>?_;subst N4;refine zK tyF ?_;exact q4.out _ _ (k4.out _ _ ⟨_,_,cS (.inr rfl) qe,g1.gr g2,λ_=>rfl⟩)
theorem Sn(H:Hp)(cl:FuncId):Con E2 143 [.one (.o .nilS),.one (.o (.clo cl []))] H (λ_=>False) λr _=>r=.tup []:=by refine Con.xw λH=>?_;refine C1.fD 14 [] Tryz.func143 λtm h0 h1=>?_;have e1:IntKind.u64.wrap 0=0:=Xx (x:=0) aU;have hlen:=Pe H 0 aU;rw[show((0:Nat):Int)=0 from rfl,show((Go.Sort.bitsLen 0:Nat):Int)=0 from rfl]at hlen;replace hlen:=ay hlen;refine zW tyF ?_;refine zG (zDe tyU ixS (cvQ oh HF) Tu) λK hK=>?_;refine WE.con hlen.out λw' H1 g1 hw=>?_;subst hw;clear hlen;refine zS (qA tyF Tw) ?_;refine WE.con (VY H1 cl) λw' H2 g2 hw=>?_;subst hw;refine zK tyF ?_;exact⟨_,_,cS (.inl rfl) qe,g1.gr g2,λ_=>rfl⟩
def YN:(l:List Fx)->(∀x∈l,0<=x.1/\x.1<=64)->List FxN
 |[],_=>[]
 |x::l,h=>⟨x,h x (aT ..)⟩::YN l λy hy=>h y (aR _ hy)
theorem wa:∀(l:List Fx)(h:∀x∈l,0<=x.1/\x.1<=64),(YN l h).map Subtype.val=l
 |[],_=>rfl
 |x::l,h=>by rw[YN,List.map_cons,wa l]
theorem xv:∀(l:List FxN),l.flatMap fxN=(l.map Subtype.val).flatMap fxC
 |[]=>rfl
 |x::l=>by rw[List.flatMap_cons,xv l,List.map_cons,List.flatMap_cons];rfl
theorem Sl(H:Hp)(v:AC)(l:List Fx)(r:Option Nat)(hv:lk H v l r)(hl:∀x∈l,0<=x.1/\x.1<=64)(hn:l.length<=12):
  Con E2 143 [.one v,.one (.o (.clo 144 []))] H (λk=>r=some k) λq H'=>q=.tup []/\∃out,lk H' v out r/\out.Perm l/\List.Pairwise (λx y:Fx=>¬y.1<x.1) out:=by
 rcases hv with⟨rfl,h0,_,rfl⟩|⟨id,lo,gen,rfl,rfl,hg,L7,hlen,hid⟩
 ·have I6:l=[]:=List.eq_nil_of_length_eq_zero h0;subst I6;intro lg;refine N1.mono (Sn H 144 lg) λw h'⟨h1,h2⟩=>⟨h1.mono λ_ h=>h.elim,λlg'=>⟨h2 lg',[],.inl ⟨rfl,rfl,rfl,rfl⟩,Af _,List.Pairwise.nil⟩⟩
 have hd:Srt fxN H id gen l.length (YN l hl).toArray:=by
  refine⟨?_,⟨lo,L7,?_⟩,hid⟩
  ·have:=congrArg List.length (wa l hl);rw[cP]at this;rw[sA];exact this
  rw[hg];unfold jB;rw[List.toList_toArray,xv,wa]
 intro lg;refine N1.mono (Sk cmpT swoT H id gen l.length _ hd (Nat.zero_le _) aa lg) λw h'⟨h1,h2⟩=>⟨h1.mono λk h=>by rw[h],λlg'=>?_⟩;obtain⟨h3,d',h4,h5,h6⟩:=h2 lg';refine⟨h3,d'.toList.map Subtype.val,?_,?_,?_⟩
 ·obtain⟨lo',hlo',Q2⟩:=h4.row;have B2:(d'.toList.map Subtype.val).length=l.length:=by rw[cP,uO];exact h4.sz
  refine .inr ⟨id,lo',gen,rfl,by rw[B2],?_,hlo',by rw[oS Gx],h4.lt⟩;rw[Q2];unfold jB;rw[xv]
 ·have:=h5.map Subtype.val;rw[List.toList_toArray,wa]at this;exact this
 rw[List.pairwise_map,List.pairwise_iff_getElem];intro i j hi hj hij;rw[uO,h4.sz]at hi hj;have h7:=h6 i j (Nat.zero_le _) hij hj;have hi':i<d'.size:=by rw[h4.sz];exact hi
 have y7:j<d'.size:=by rw[h4.sz];exact hj
 rw[Ae d' i hi',Ae d' j y7]at h7;unfold ltF cfX at h7;rw[qf]at h7;rw[Array.getElem_toList,Array.getElem_toList];omega
theorem XY:ao prog 147=true:=ae
def Fnd(X:Nat->Prop)(H:Hp)(F:AC)(l:List (List Fx))(r:Option Nat):Prop:=
 (F=.o .nilS/\l=[]/\r=none)\/∃id gen lo us ex,F=.o (.sl id gen 0 l.length 1)/\r=some id/\H.get id=some (.arr (us++ex) 30 lo gen)/\lo<=gen/\id<H.nx/\¬X id/\0<l.length /\
  Al (λu f=>SlF H u f/\∀k∈(AV.one u).ids,¬X k/\k≠id) us l
theorem Fnd.nil{X:Nat->Prop}{H:Hp}:Fnd X H (.o .nilS) [] none:=.inl ⟨rfl,rfl,rfl⟩
theorem Fnd.fr{X Y:Nat->Prop}{H H':Hp}{F:AC}{l:List (List Fx)}{r:Option Nat}(h:Fnd X H F l r)(hf:Fr Y H H')(hy:∀i,Y i->X i\/H.nx<=i):Fnd X H' F l r:=by
 rcases h with h|⟨id,gen,lo,us,ex,h1,h2,h3,h4,h5,h6,h7,h8⟩
 ·exact .inl h
 refine .inr ⟨id,gen,lo,us,ex,h1,h2,(hf.get id h5 λhh=>?_).trans h3,h4,ax h5 hf.nx,h6,h7,h8.mono λu f⟨a,b⟩=>⟨SlC.fr a hf λk hk hh=>?_,b⟩⟩
 ·rcases hy _ hh with h|h
  ·exact h6 h
  omega
 rcases hy _ hh with h|h
 ·exact(b k hk).1 h
 have:k<H.nx:=a.lt k hk;omega
theorem Fnd.gr{X:Nat->Prop}{H H':Hp}{F:AC}{l:List (List Fx)}{r:Option Nat}(h:Fnd X H F l r)(hf:Gr H H'):Fnd X H' F l r:=h.fr hf λ_ h=>h.elim
theorem Fnd.lt{X:Nat->Prop}{H:Hp}{F:AC}{l:List (List Fx)}{r:Option Nat}(h:Fnd X H F l r):ltV (.one F) H.nx:=by
 rcases h with⟨rfl,_⟩|⟨id,gen,lo,us,ex,rfl,_,_,_,h5,_⟩
 ·intro i hi;cases hi
 intro i hi;rw[List.mem_singleton.1 hi];exact h5
theorem Oc{H:Hp}{Q:AC->List Fx->Prop}:∀{us:List AC}{l:List (List Fx)},Al (λu f=>SlF H u f/\Q u f) us l->Al (λc f=>c.length=1/\FnR H c f) (us.map λu=>[u]) l
 |[],[],_=>trivial
 |u::us,f::l,h=>⟨⟨rfl,u,rfl,h.1.1⟩,Oc h.2⟩
 |[],_::_,h=>h.elim
 |_::_,[],h=>h.elim
theorem Fnd.len{X:Nat->Prop}{H:Hp}{F:AC}{l:List (List Fx)}{r:Option Nat}(h:Fnd X H F l r):eD H 1 (.one F)=.val (.one (.i .i64 (l.length:Int))) H:=by rcases h with⟨rfl,rfl,_⟩|⟨id,gen,lo,us,ex,rfl,_⟩<;>rfl
theorem Bt:∀us:List AC,(us.map λu=>[u]).flatMap id=us
 |[]=>rfl
 |u::us=>by rw[List.map_cons,List.flatMap_cons,Bt us];rfl
theorem Fnd.acx{X:Nat->Prop}{H:Hp}{F:AC}{l:List (List Fx)}{r:Option Nat}(h:Fnd X H F l r):iR H F l:=by
 rcases h with⟨rfl,rfl,_⟩|⟨id,gen,lo,us,ex,rfl,_,h3,h4,h5,_,_,h8⟩
 ·exact⟨[],⟨by simp,.inl ⟨rfl,rfl⟩⟩,trivial⟩
 have hl:=h8.len;refine⟨us.map λu=>[u],⟨?_,.inr ⟨id,gen,0,rfl,h5,us++ex,?_,?_,?_⟩⟩,Oc h8⟩
 ·rw[Bt];omega
 ·rw[h3];exact cH h4 (ai _)
 ·rw[aI];omega
 rw[List.drop_zero,Bt,cr,<-hl,Am];rfl
theorem Ti{R:AC->List Fx->Prop}{u:AC}{f:List Fx}(hu:R u f):∀{us:List AC}{l:List (List Fx)}(i:Nat),Al R us l->Al R (us.take i++u::us.drop i) (l.take i++f::l.drop i)
 |[],[],i,_=>by simp only[List.take_nil,List.drop_nil,iz];exact⟨hu,trivial⟩
 |a::us,b::l,0,h=>⟨hu,h⟩
 |a::us,b::l,i+1,h=>⟨h.1,Ti hu i h.2⟩
 |[],_::_,_,h=>h.elim
 |_::_,[],_,h=>h.elim
theorem Fnd.cut{X:Nat->Prop}{H:Hp}{id gen n:Nat}{l:List (List Fx)}{r:Option Nat}(h:Fnd X H (.o (.sl id gen 0 n 1)) l r):1<=n/\Fnd X H (.o (.sl id gen 0 1 1)) (l.take 1) r:=by
 rcases h with⟨h,_⟩|⟨id',gen',lo,us,ex,he,h2,h3,h4,h5,h6,h7,h8⟩
 ·cases h
 cases he
 refine⟨h7,?_⟩;cases us with
 |nil=>cases l with|nil=>exact absurd h7 (Nat.lt_irrefl 0)|cons f l=>exact h8.elim
 |cons u us=>cases l with|nil=>exact h8.elim|cons f l=>exact .inr ⟨id,gen,lo,[u],us++ex,rfl,h2,h3,h4,h5,h6,Nat.one_pos,h8.1,trivial⟩
theorem YE{H:Hp}{id vid n i vg lo vlo gen:Nat}{cells:List AC}{c:AC}(h1:H.get id=some (.arr cells 30 lo gen))(h2:H.get vid=some (.arr [c] 30 vlo vg))(h3:lo<=gen)(h4:vlo<=vg)(h5:id≠vid)(h6:i<n)(h7:n<=cells.length)(h8:(n+1)*24<=140737488355328):
  insA H [.one (.o (.sl id gen 0 n 1)),.one (.i .i64 (i:Nat)),.one (.o (.sl vid vg 0 1 1))]=some (.one (.o (.sl id (gen+1) 0 (n+1) 1)),id,.arr (insL cells n i c) 30 (gen+1) (gen+1)):=by
 unfold insA;have e1:((i:Int)).toNat=i:=uM i;have e2:(0:Int)<=(i:Int):=aa;simp only[h1,h2,e1,e2,h3,h4,h5,h6,h7,h8,and_self,ne_eq,not_false_eq_true,if_true]
theorem UN{H:Hp}{id vid n i vg lo vlo gen:Nat}{cells:List AC}{c:AC}(h1:H.get id=some (.arr cells 30 lo gen))(h2:H.get vid=some (.arr [c] 30 vlo vg))(h3:lo<=gen)(h4:vlo<=vg)(h5:id≠vid)(h6:i<n)(h7:n<=cells.length)(h8:(n+1)*24<=140737488355328):
  Con E2 147 [.one (.o (.sl id gen 0 n 1)),.one (.i .i64 (i:Nat)),.one (.o (.sl vid vg 0 1 1))] H (λk=>k=id) λr H'=>r=.one (.o (.sl id (gen+1) 0 (n+1) 1))/\H'.nx=H.nx/\H'.get id=some (.arr (insL cells n i c) 30 (gen+1) (gen+1)):=
 Con.eN (v:=.one (.o (.sl id (gen+1) 0 (n+1) 1))) (o:=.arr (insL cells n i c) 30 (gen+1) (gen+1)) rfl (λlg=>YE (H:=⟨H.t,H.nx,lg⟩) h1 h2 h3 h4 h5 h6 h7 h8) λ_=>⟨rfl,rfl,aq rfl⟩
def Kh(H:Hp)(alt:ah)(x i:AV):ah:=
 match x,i with
 |.one (.o .nilS),.one (.i .i64 n)=>if n=0 then .val (.one (.o .nilS)) H else alt
 |_,_=>alt
theorem ZG:aH prog (Sem.bind (Instr.sliceAt 67 (.slice none 0 0) (some (.int .i64 0)) none none) λv=>Sem.pure (Next.value v))=some (.value (.slice none 0 0)):=ae
theorem RW{tm:PT AV}{H:Hp}{d:Option Tmp}{x i:Operand}{ty:TypeId}{pos:String}{af:Array Edge}{g:Option (Nat×Bool)}:
  aD prog tm H ⟨d,.slice 67 x (some i) none none,ty,pos,af,g⟩=Kh H (cI prog tm H ⟨d,.slice 67 x (some i) none none,ty,pos,af,g⟩) (ev tm x) (ev tm i):=by
 unfold Kh;split
 ·rename_i n hx hi
  by_cases h:n=0
  ·subst h;rw[ad rfl];have vx:(ev tm x).val?=some (.slice none 0 0):=by rw[hx];rfl
   have vi:(ev tm i).val?=some (.int .i64 0):=by rw[hi];rfl
   have dx:cq (ev tm x)=.slice none 0 0:=by unfold cq;rw[vx]
   have di:cq (ev tm i)=.int .i64 0:=by unfold cq;rw[vi]
   refine oY (v:=.slice none 0 0) ?_ ?_ rfl
   ·show([x,i].all λx=>(ev tm x).val?.isSome)=true;simp only[List.all_cons,List.all_nil,vx,vi];rfl
   show aH prog (Sem.bind (Instr.sliceAt 67 (cq (ev tm x)) (some (cq (ev tm i))) none none) λv=>Sem.pure (Next.value v))=_;rw[dx,di];exact ZG
  rw[ab h];rfl
 rfl
theorem Nj:(∀(H:Hp)(sz:Nat)(lo hi:Option AV)(alt:ah),eU H sz (.one (.o .nilS)) lo hi alt=alt) /\
  (∀(tm:PT AV)(H:Hp)(d:Option Tmp)(x i:Operand)(ty:TypeId)(pos:String)(af:Array Edge)(g:Option (Nat×Bool)),aD prog tm H ⟨d,.slice 67 x (some i) none none,ty,pos,af,g⟩=Kh H (cI prog tm H ⟨d,.slice 67 x (some i) none none,ty,pos,af,g⟩) (ev tm x) (ev tm i)) /\
  (∀(H:Hp)(alt:ah),Kh H alt (.one (.o .nilS)) (.one (.i .i64 0))=.val (.one (.o .nilS)) H):=⟨λ_ _ _ _ _=>rfl,λ_ _ _ _ _ _ _ _ _=>RW,λ_ _=>by simp[Kh]⟩
theorem Jw(H:Hp)(F c:AC)(n vid vg vlo:Nat)(hF:(F=.o .nilS/\n=0)\/∃id gen lo cells,F=.o (.sl id gen 0 n 1)/\H.get id=some (.arr cells 30 lo gen)/\lo<=gen/\id<H.nx/\n<=cells.length/\0<n)(hv:H.get vid=some (.arr [c] 30 vlo vg))(Z1:vlo<=vg)(hvx:vid<H.nx)(hn:(n+1)*24<=140737488355328):
  Con E2 147 [.one F,.one (.i .i64 (n:Nat)),.one (.o (.sl vid vg 0 1 1))] H (λk=>∃g m,F=.o (.sl k g 0 m 1)) λr H'=>
   (F=.o .nilS/\∃id,H.nx<=id/\id<H'.nx/\r=.one (.o (.sl id 0 0 1 1))/\H'.get id=some (.arr [c] 30 0 0)) \/
   ∃id gen lo cells,F=.o (.sl id gen 0 n 1)/\H.get id=some (.arr cells 30 lo gen)/\∃lo',lo'<=gen+1/\r=.one (.o (.sl id (gen+1) 0 (n+1) 1))/\H'.get id=some (.arr (cells.take n++[c]) 30 lo' (gen+1)):=by
 refine Con.of rfl (λlg=>?_) (λlg=>?_)
 case _=>
  have e0:H.nx=(⟨H.t,H.nx,lg⟩:Hp).nx:=rfl;rw[e0]at hvx |-;have hv:(⟨H.t,H.nx,lg⟩:Hp).get vid=some (.arr [c] 30 vlo vg):=hv;have hF:(F=.o .nilS/\n=0)\/∃id gen lo cells,F=.o (.sl id gen 0 n 1)/\(⟨H.t,H.nx,lg⟩:Hp).get id=some (.arr cells 30 lo gen)/\lo<=gen/\id<(⟨H.t,H.nx,lg⟩:Hp).nx/\n<=cells.length/\0<n:=hF;show C1 E2 _ _ _ λv h'=>Fr _ _ h'/\∀lg':List Nat,(F=.o .nilS/\∃id,(⟨H.t,H.nx,lg⟩:Hp).nx<=id/\id<h'.nx/\v=.one (.o (.sl id 0 0 1 1))/\h'.get id=some (.arr [c] 30 0 0)) \/
   ∃id gen lo cells,F=.o (.sl id gen 0 n 1)/\(⟨H.t,H.nx,lg⟩:Hp).get id=some (.arr cells 30 lo gen)/\∃lo',lo'<=gen+1/\v=.one (.o (.sl id (gen+1) 0 (n+1) 1))/\h'.get id=some (.arr (cells.take n++[c]) 30 lo' (gen+1))
  clear e0;generalize(⟨H.t,H.nx,lg⟩:Hp)=H at hv hvx hF |-
  refine C1.yV 95 [.tmp 6] Tryz.func147 λtm h0 h1 h2=>?_;obtain⟨z,hz,Q1⟩:=CJ;have hsrc:lO H 1 (.one (.o (.sl vid vg 0 1 1)))=some (1,[c]):=by rw[mo (cells:=[c]) (by rw[hv];exact cH Z1 (ai _)) (by show 0+1*1<=1;omega)];rfl
  rcases hF with⟨rfl,rfl⟩|⟨id,gen,lo,cells,rfl,h1,h2,h3,h4,h5⟩
  ·have B1:=mw (P:=prog) (t:=67) sP vq hz Q1 aU hsrc aU aU;rw[ab aU]at B1;clear hz Q1 z hsrc hn hv;refine zW (qA tyR Nj) ?_;exact⟨_,_,aw (.o (.sl H.nx 0 0 1 1)) (.inr rfl) qe qp,(Fr.refl _).new _,λ_=>.inl ⟨rfl,H.nx,ai _,ba _,rfl,aC rfl⟩⟩
  obtain⟨lo',hlo',B1⟩:=AD (P:=prog) (t:=67) (at_:=n) sP vq hz Q1 aU h1 h2 aa hsrc aU aa aa;have hnn:((n:Int)==(n:Int))=true:=dk _;clear hz Q1 z hsrc hn hv;rw[cr]at B1;replace h1:=ay h1;refine zW (qA tyR (slL (ai n))) ?_;exact⟨_,_,aw (.o (.sl id (gen+1) 0 (n+1) 1)) (.inr rfl) qe qp,(Fr.refl _).mod _ (.inr ⟨gen,n,rfl⟩),λ_=>.inr ⟨id,gen,lo,cells,rfl,h1.out,lo',hlo',rfl,aq rfl⟩⟩
 case _=>
  show insA _ _=none;rcases hF with⟨rfl,_⟩|⟨id,gen,lo,cells,rfl,h1,_⟩
  ·rfl
  cases hx:insA ⟨H.t,H.nx,lg⟩ [.one (.o (.sl id gen 0 n 1)),.one (.i .i64 (n:Nat)),.one (.o (.sl vid vg 0 1 1))]with
  |none=>rfl
  |some x=>obtain⟨_,_,_,i,_,_,_,_,_,_,_,he,_,_,⟨_,_,_,_,hi,_⟩,_⟩:=insA_some hx;simp only[tE,AV.one.injEq,AC.i.injEq,AC.o.injEq,AO.sl.injEq,true_and,and_true]at he;omega
theorem HA{us ex:List AC}{n i:Nat}(u:AC)(hl:us.length=n)(hi:i<=n):insL (us++ex) n i u=us.take i++u::us.drop i:=by unfold insL;rw[tw aa,<-hl,Am];rfl
theorem UM{X:Nat->Prop}{H:Hp}{F:AC}{l:List (List Fx)}{r:Option Nat}(hF:Fnd X H F l r)(hX:∀k,X k->k<H.nx){vid vg vlo:Nat}{u:AC}{f:List Fx}(hv:H.get vid=some (.arr [u] 30 vlo vg))(Z1:vlo<=vg)(hvx:vid<H.nx)(hvr:r≠some vid)(hu:SlF H u f)(E9:∀k∈(AV.one u).ids,¬X k/\some k≠r){i:Nat}(hi:i<=l.length)(hn:(l.length+1)*24<=140737488355328):
  Con E2 147 [.one F,.one (.i .i64 (i:Nat)),.one (.o (.sl vid vg 0 1 1))] H (λk=>r=some k) λq H'=>∃id gen n,q=.one (.o (.sl id gen 0 n 1))/\Fnd X H' (.o (.sl id gen 0 n 1)) (l.take i++f::l.drop i) (some id)/\(r=some id\/H.nx<=id):=by
 have I9:(l.take i++f::l.drop i).length=l.length+1:=by rw[aI,List.length_cons,dM,iW];omega
 rcases hF with⟨rfl,rfl,rfl⟩|⟨id,gen,lo,us,ex,rfl,rfl,h3,h4,h5,h6,h7,h8⟩
 ·have h0:i=0:=Nat.le_zero.1 hi;subst h0;intro lg;refine N1.mono (Jw H (.o .nilS) u 0 vid vg vlo (.inl ⟨rfl,rfl⟩) hv Z1 hvx hn lg) λw h'⟨a,b⟩=>⟨a.mono λk⟨g,m,e⟩=>(by cases e),λlg'=>?_⟩;rcases b lg' with⟨_,id,b1,b2,rfl,b3⟩|⟨id,_,_,_,e,_⟩
  ·have i_:SlF h' u f:=SlC.fr (H:=⟨H.t,H.nx,lg⟩) hu a λk _⟨g,m,e⟩=>(by cases e);refine⟨id,0,1,rfl,.inr ⟨id,0,0,[u],[],rfl,rfl,b3,ai _,b2,λhh=>by have:=hX _ hh;omega,Nat.one_pos,⟨i_,λk hk=>⟨(E9 k hk).1,λe=>?_⟩⟩,trivial⟩,.inr b1⟩;have:=hu.lt k hk;omega
  cases e
 have Y4:=h8.len;have Q0:id≠vid:=λe=>hvr (by rw[e]);have kR:∀{H':Hp}{lg:List Nat},Fr (λk=>k=id) ⟨H.t,H.nx,lg⟩ H'->Al (λu f=>SlF H' u f/\∀k∈(AV.one u).ids,¬X k/\k≠id) (us.take i++u::us.drop i) (l.take i++f::l.drop i):=λ{H' lg}hf=>Ti ⟨SlC.fr (H:=⟨H.t,H.nx,lg⟩) hu hf λk hk e=>(E9 k hk).2 (by rw[e]),λk hk=>⟨(E9 k hk).1,λe=>(E9 k hk).2 (by rw[e])⟩⟩ i (h8.mono λv g⟨a,b⟩=>⟨SlC.fr (H:=⟨H.t,H.nx,lg⟩) a hf λk hk=>(b k hk).2,b⟩)
 rcases cL i l.length with B0|hge
 ·intro lg;refine N1.mono (UN h3 hv h4 Z1 Q0 B0 (by rw[aI];omega) hn lg) λw h'⟨a,b⟩=>⟨a.mono λk e=>by rw[e],λlg'=>?_⟩;obtain⟨rfl,b2,b3⟩:=b lg';have ka:=kR a;refine⟨id,gen+1,l.length+1,rfl,.inr ⟨id,gen+1,gen+1,us.take i++u::us.drop i,[],by rw[I9],rfl,?_,ai _,?_,h6,aa,ka⟩,.inl rfl⟩
  ·rw[List.append_nil,b3,HA u Y4 hi]
  show id<h'.nx;have:H.nx<=h'.nx:=a.nx;omega
 have U0:i=l.length:=aa;subst U0;intro lg;refine N1.mono (Jw H (.o (.sl id gen 0 l.length 1)) u l.length vid vg vlo (.inr ⟨id,gen,lo,us++ex,rfl,h3,h4,h5,by rw[aI];omega,h7⟩) hv Z1 hvx hn lg) λw h'⟨a,b⟩=>⟨a.mono λk⟨g,m,e⟩=>(by cases e;rfl),λlg'=>?_⟩;rcases b lg' with⟨e,_⟩|⟨id',gen',lo1,cells,e,hg,lo',b1,rfl,b2⟩
 ·cases e
 cases e
 have Z7:cells=us++ex:=by have h3':H.get id=some (.arr (us++ex) 30 lo gen):=h3;rw[h3']at hg;cases hg;rfl
 subst Z7;have hf:Fr (λk=>k=id) ⟨H.t,H.nx,lg⟩ h':=a.mono λk⟨g,m,e⟩=>(by cases e;rfl);have ka:=kR hf;refine⟨id,gen+1,l.length+1,rfl,.inr ⟨id,gen+1,lo',us.take l.length++u::us.drop l.length,[],by rw[I9],rfl,?_,b1,?_,h6,aa,ka⟩,.inl rfl⟩
 ·have b2':h'.get id=some (.arr ((us++ex).take l.length++[u]) 30 lo' (gen+1)):=b2;show h'.get id=_;rw[b2',List.append_nil,tw aa,pU aa]
 show id<h'.nx;have:H.nx<=h'.nx:=a.nx;omega
def kF(ld:List Lad)(v:List Int)(i to:Int):Int:=iO (gM (ld.getD i.toNat ([],[])).2 (az (ld.getD i.toNat ([],[])).2 (v.getD i.toNat 0)) (eY (ld.getD i.toNat ([],[])).1 (ld.getD i.toNat ([],[])).2) (v.getD i.toNat 0)) to
theorem vT{m:Int}:∀{S:List Sp},iO S m≠0->∃x∈S,x.2.2=m/\x.1=iO S m
 |[],h=>absurd rfl h
 |x::S,h=>by
  rw[iO]at h |-;by_cases c:x.2.2=m
  ·rw[ad c];exact⟨x,aT ..,c,rfl⟩
  rw[ab c]at h;rw[ab c];obtain⟨y,hy,a,b⟩:=vT h;exact⟨y,aR _ hy,a,b⟩
structure mu(ld:List Lad)(lr:List Rl)(v:List Int):Prop where
 vl:v.length=ld.length
 v64:v.length<=64
 r64:lr.length<=64
 ck:∀x∈ld,aP x.1 x.2=0
 vr:∀n∈v,1<=n/\n<=1099511627776
 rp:gI v lr (kF ld v)
theorem mu.lad{ld:List Lad}{lr:List Rl}{v:List Int}(h:mu ld lr v){i:Int}(h0:0<=i)(h1:i<v.length):aP (ld.getD i.toNat ([],[])).1 (ld.getD i.toNat ([],[])).2=0/\(1<=v.getD i.toNat 0/\v.getD i.toNat 0<=1099511627776):=by have hv:=h.vl;have a:i.toNat<ld.length:=aa;have b:i.toNat<v.length:=aa;rw[bt,aA a,bt,aA b];exact⟨h.ck _ (bW a),h.vr _ (bW b)⟩
theorem aa9{ld:List Lad}{v:List Int}(hl:v.length=ld.length)(L0:∀x∈ld,aP x.1 x.2=0)(hv:∀n∈v,1<=n/\n<=1099511627776)(i to:Int)(hk:kF ld v i to≠0):(1<=to/\to<=1099511627776)/\to≠v.getD i.toNat 0/\kF ld v i to≠5:=by
 by_cases hi:i.toNat<ld.length
 ·have hc:aP (ld.getD i.toNat ([],[])).1 (ld.getD i.toNat ([],[])).2=0:=by rw[bt,aA hi];exact L0 _ (bW hi)
  have hn:1<=v.getD i.toNat 0:=by rw[bt,aA (show i.toNat<v.length by omega)];exact(hv _ (bW (show i.toNat<v.length by omega))).1
  obtain⟨x,hx,a,b⟩:=vT hk;obtain⟨k1,k2,k3,k4⟩:=Fy hc hn hx;have hb:x.1=kF ld v i to:=b;rw[<-hb,<-a];exact⟨⟨k3,k4⟩,k2,aa⟩
 exfalso;apply hk;unfold kF;have e:ld.getD i.toNat ([],[])=([],[]):=by rw[bt,iY aa];rfl
 rw[e];rfl
section
variable{v:List Int}{lr:List Rl}{K:Int->Int->Int}
def Sol.fxb(E0:gI v lr K){c:Nat}{f:List Fx}(h:Sol v lr K c f):(∀x∈f,FxB x)/\f.length<=c:=by
 obtain⟨I,T,h1,h2,h3,h4,_⟩:=h;have Z1:=E0.vl;refine⟨λx hx=>?_,?_⟩
 ·rcases List.mem_append.1 (h4.mem_iff.1 hx)with hx|hx
  ·obtain⟨a,_,b,d,_⟩:=h1.ok x hx;rw[b]at d;have:=(E0.kb _ _ d).1;exact⟨aa,this⟩
  obtain⟨s,hs,e4,e5,_,e6,e7⟩:=zZ lr T h2 x hx;have:=E0.tr s hs;exact⟨aa,aa⟩
 rw[h4.length_eq,aI];have:=ma T;omega
structure kM(v:List Int)(lr:List Rl)(K:Int->Int->Int)(now:List Int)(items f:List Fx)(cost:Nat)(rest:List Rl)(T0:List Fx):Prop where
 fe:f=items++T0
 co:cost=items.length+cT T0
 to:dX v K now lr=(dX v K now rest).map (T0++·)
def kM.start{now:List Int}{items:List Fx}:kM v lr K now items items items.length lr []:=
 ⟨(List.append_nil _).symm,rfl,by cases dX v K now lr<;>rfl⟩
variable{now:List Int}{items f:List Fx}{cost:Nat}{rest:List Rl}{T0:List Fx}
def kM.skip{x:Rl}(h:kM v lr K now items f cost (x::rest) T0)(e:bN now 0 x.2=v.getD x.1.toNat 0):kM v lr K now items f cost rest T0:=
 ⟨h.fe,h.co,by rw[h.to,dX,ad e]⟩
def kM.none{x:Rl}(h:kM v lr K now items f cost (x::rest) T0)(e:bN now 0 x.2≠v.getD x.1.toNat 0)(b:bN now 0 x.2<1\/1099511627776<bN now 0 x.2):dX v K now lr=none:=by rw[h.to,dX,ab e,ad b];rfl
def xl:∀(a b:List Fx),cT (a++b)=cT a+cT b
 |[],b=>(Nat.zero_add _).symm
 |x::a,b=>by rw[Ag,cT,cT,xl a b];omega
def kM.push(E0:gI v lr K){x:Rl}(h:kM v lr K now items f cost (x::rest) T0)(e:bN now 0 x.2≠v.getD x.1.toNat 0)(b:¬(bN now 0 x.2<1\/1099511627776<bN now 0 x.2)){k:Int}(hk:k=K x.1 (bN now 0 x.2)):
  kM v lr K now items (f++[(x.1,v.getD x.1.toNat 0,bN now 0 x.2,if k=0 then 5 else k)]) (cost+if k=0 then 2 else 1) rest (T0++[(x.1,v.getD x.1.toNat 0,bN now 0 x.2,if k=0 then 5 else k)]):=by
 subst hk;refine⟨by rw[h.fe,bL],?_,?_⟩
 ·rw[xl,h.co];show _=items.length+(cT T0+((if(if K x.1 (bN now 0 x.2)=0 then(5:Int)else K x.1 (bN now 0 x.2))=5 then 2 else 1)+0));by_cases c:K x.1 (bN now 0 x.2)=0
  ·rw[ad c,ad c,ad rfl];omega
  rw[ab c,ab c,ab (E0.kb _ _ c).2.2];omega
 rw[h.to,dX,ab e,ab b];cases dX v K now rest with
 |none=>rfl
 |some T=>show some (T0++_::T)=some ((T0++[_])++T);rw[bL];rfl
def kM.big{c:Nat}(h:kM v lr K now items f cost rest T0)(hc:c<cost){T:List Fx}(ht:dX v K now lr=some T):items.length+cT T≠c:=by
 rw[h.to]at ht;cases hr:dX v K now rest with
 |none=>rw[hr]at ht;cases ht
 |some T1=>
  rw[hr]at ht;cases ht
  have e:cT (T0++T1)=cT T0+cT T1:=xl T0 T1;have hco:=h.co;show items.length+cT (T0++T1)≠c;omega
def kM.done(h:kM v lr K now items f cost [] T0):dX v K now lr=some T0:=by rw[h.to];show some (T0++[])=_;rw[List.append_nil]
structure ja(v:List Int)(lr:List Rl)(K:Int->Int->Int)(c limit:Nat)(items:List Fx)(found found':List (List Fx)):Prop where
 ok:FOk v lr K c limit found'
 le:found'.length<=limit+1
 st:oG limit found found'
 go:∀T f,dX v K (aY v items) lr=some T->items.length+cT T=c->qz f->f.Perm (items++T)->Got limit found' f
def ja.same{c limit:Nat}{found:List (List Fx)}(hF:FOk v lr K c limit found)(hl:found.length<=limit+1)(hn:∀T,dX v K (aY v items) lr=some T->items.length+cT T≠c):ja v lr K c limit items found found:=
 ⟨hF,hl,oG.ZC,λT f h1 h2 _ _=>absurd h2 (hn T h1)⟩
def aaA(E0:gI v lr K)(hI:cN v lr K items)(ht:dX v K (aY v items) lr=some T0){out:List Fx}(hp:out.Perm (items++T0))(ho:List.Pairwise (λx y:Fx=>¬y.1<x.1) out):qz out:=by have Q0:List.Pairwise (λx y:Fx=>x.1≠y.1) (items++T0):=List.pairwise_append.2 ⟨Wl (λx hx=>(hI.ok x hx).1.1) hI.pw,HD E0 ht,λx hx y hy=>wP E0 hI ht y hy x hx⟩;have hne2:List.Pairwise (λx y:Fx=>x.1≠y.1) out:=(hp.pairwise_iff λ{x y}h=>λe=>h e.symm).2 Q0;exact(ho.and hne2).imp λ{x y}⟨a,b⟩=>aa
def ja.ins(E0:gI v lr K){c limit i:Nat}{found:List (List Fx)}{out:List Fx}(hF:FOk v lr K c limit found)(hl:limit=0\/found.length<=limit)(hI:cN v lr K items)(ht:dX v K (aY v items) lr=some T0)(hc:items.length+cT T0=c)(hp:out.Perm (items++T0))(ho:qz out)(hi:aav found out i)(hn:¬∃g,found[i]?=some g/\ig g=ig out):ja v lr K c limit items found (GF limit found i out):=by
 have hs:Sol v lr K c out:=⟨items,T0,hI,ht,hc,hp,ho⟩;obtain⟨a,b,d⟩:=YG E0 hF hs hi.1 hi.2.1 hi.2.2 λg hg e=>hn ⟨g,hg,e⟩;refine⟨a,?_,d,λT f h1 h2 h3 h4=>?_⟩
 ·unfold GF;have hlen:(found.take i++out::found.drop i).length=found.length+1:=by rw[aI,List.length_cons,dM,iW];have:=hi.1;omega
  by_cases c0:limit=0
  ·rw[ad c0,dM];omega
  rw[ab c0,hlen];have:=hl.resolve_left c0;omega
 rw[ht]at h1;cases h1;rw[zg h3 ho (h4.trans hp.symm)];exact b
def ja.had(E0:gI v lr K){c limit i:Nat}{found:List (List Fx)}{out:List Fx}(hF:FOk v lr K c limit found)(hl:found.length<=limit+1)(hI:cN v lr K items)(ht:dX v K (aY v items) lr=some T0)(hc:items.length+cT T0=c)(hp:out.Perm (items++T0))(ho:qz out)(hn:∃g,found[i]?=some g/\ig g=ig out):ja v lr K c limit items found found:=by have hs:Sol v lr K c out:=⟨items,T0,hI,ht,hc,hp,ho⟩;obtain⟨g,hg,e⟩:=hn;have hgm:=gN hg;have:g=out:=GI ((hF.so g hgm).fix E0) (hs.fix E0) e;subst this;refine⟨hF,hl,oG.ZC,λT f h1 h2 h3 h4=>?_⟩;rw[ht]at h1;cases h1;rw[zg h3 ho (h4.trans hp.symm)];exact Got.mem hgm
end
theorem hd{p:Prop}(h:p):Hd p:=h
theorem Yb:ao prog 103=true:=ae
structure SrF(H:Hp)(pc pr la vv:AC)(lc:List Cl)(lr:List Rl)(ld:List Lad)(v:List Int):Prop where
 cl:dD H pc lc
 rl:ei H pr lr
 la:iN H la ld
 vi:SlI H vv v
def SrX(S N:Nat)(k:Nat):Prop:=k=S\/N<=k
def SrD(S N:Nat)(H:Hp)(pc pr la vv:AC)(lc:List Cl)(lr:List Rl)(ld:List Lad)(v:List Int):Prop:=
 N<=H.nx/\∀H',H.nx<=H'.nx->(∀i,i<H.nx->¬SrX S N i->H'.get i=H.get i)->SrF H' pc pr la vv lc lr ld v
theorem SrD.now{S N:Nat}{H:Hp}{pc pr la vv:AC}{lc:List Cl}{lr:List Rl}{ld:List Lad}{v:List Int}(h:SrD S N H pc pr la vv lc lr ld v):SrF H pc pr la vv lc lr ld v:=h.2 H (ai _) λ_ _ _=>rfl
theorem SrD.fr{S N:Nat}{H H':Hp}{pc pr la vv:AC}{lc:List Cl}{lr:List Rl}{ld:List Lad}{v:List Int}{Y:Nat->Prop}(h:SrD S N H pc pr la vv lc lr ld v)(hf:Fr Y H H')(hy:∀k,Y k->SrX S N k):SrD S N H' pc pr la vv lc lr ld v:=
 ⟨aS h.1 hf.nx,λH2 h1 h2=>h.2 H2 (aS hf.nx h1) λi hi hx=>(h2 i (ax hi hf.nx) hx).trans (hf.get i hi λhh=>hx (hy i hh))⟩
theorem SrD.gr{S N:Nat}{H H':Hp}{pc pr la vv:AC}{lc:List Cl}{lr:List Rl}{ld:List Lad}{v:List Int}(h:SrD S N H pc pr la vv lc lr ld v)(hf:Gr H H'):SrD S N H' pc pr la vv lc lr ld v:=h.fr hf λ_ h=>h.elim
def SrR(H:Hp)(S:Nat)(pc pr la vv F:AC)(c limit:Nat):Prop:=S<H.nx/\H.get S=some (.arr [pc,pr,la,vv,.i .i64 (c:Int),.i .i64 (limit:Int),F] 129 0 0)
theorem SrR.fr{H H':Hp}{S:Nat}{pc pr la vv F:AC}{c limit:Nat}{X:Nat->Prop}(h:SrR H S pc pr la vv F c limit)(hf:Fr X H H')(hx:¬X S):SrR H' S pc pr la vv F c limit:=⟨ax h.1 hf.nx,(hf.get S h.1 hx).trans h.2⟩
theorem SrR.gr{H H':Hp}{S:Nat}{pc pr la vv F:AC}{c limit:Nat}(h:SrR H S pc pr la vv F c limit)(hf:Gr H H'):SrR H' S pc pr la vv F c limit:=h.fr hf aE
def TkQ(X:Nat->Prop)(n0 S:Nat)(pc pr la vv:AC)(c limit:Nat)(r:Option Nat)(P:List (List Fx)->Prop)(H':Hp):Prop:=
 ∃F' r' found',SrR H' S pc pr la vv F' c limit/\Fnd X H' F' found' r'/\(∀k,r'=some k->r=some k\/n0<=k)/\P found'
theorem vU{H:Hp}{la:AC}{ld:List Lad}(h:iN H la ld){i:Int}(h0:0<=i)(h1:i<ld.length):∃id g off cells u,la=.o (.sl id g off ld.length 2)/\id<H.nx/\rowOf (H.get id) g=some cells/\SlP H u (ld.getD i.toNat ([],[])).2/\(cells.drop (off+i.toNat*2)).take 2=[.o (.str (ld.getD i.toNat ([],[])).1),u]/\off+i.toNat*2+2<=cells.length:=by
 obtain⟨id,g,off,cells,e1,hid,hg,J0⟩:=h.open aa;have B0:i.toNat<ld.length:=aa;have ex:ld[i.toNat]?=some (ld.getD i.toNat ([],[])):=by rw[bt,aA B0];rfl
 obtain⟨u,a,b,d,_⟩:=J0 _ _ ex;exact⟨id,g,off,cells,u,e1,hid,hg,a,b,d⟩
theorem nS{H:Hp}{vv:AC}{v:List Int}(h:SlI H vv v){i:Int}(h0:0<=i)(h1:i<v.length):∃id g off cells,vv=.o (.sl id g off v.length 1)/\id<H.nx/\rowOf (H.get id) g=some cells/\(cells.drop (off+i.toNat*1)).headD (.b false)=.i .i64 (v.getD i.toNat 0)/\off+i.toNat*1+1<=cells.length:=by
 obtain⟨id,g,off,cells,e1,hid,hg,J0⟩:=h.open aa;have ex:v[i.toNat]?=some (v.getD i.toNat 0):=by rw[bt,aA (show i.toNat<v.length by omega)];rfl
 obtain⟨e3,e4⟩:=J0 _ _ ex;exact⟨id,g,off,cells,e1,hid,hg,e3,e4⟩
theorem xz{ld:List Lad}{lr:List Rl}{v:List Int}(E0:mu ld lr v)(H:Hp)(i to:Int)(ul:AC)(h0:0<=i)(h1:i<v.length)(Y4:SlP H ul (ld.getD i.toNat ([],[])).2):
  Con E2 52 [.agg [.o (.str (ld.getD i.toNat ([],[])).1),ul],.one (.i .i64 to),.one (.i .i64 (v.getD i.toNat 0))] H (λ_=>False) λr _=>r=.one (.i .i64 (kF ld v i to)):=by
 obtain⟨L0,G7,G5⟩:=E0.lad h0 h1;exact Va H (ld.getD i.toNat ([],[])).1 ul (ld.getD i.toNat ([],[])).2 to (v.getD i.toNat 0) Y4 L0 G7 G5 (zN L0 (show 0<=v.getD i.toNat 0 by omega) G5)
theorem slH1{len:Nat}(h:1<=len):∀(H:Hp)(id g off sz:Nat)(k:IntKind)(alt:ah),eU H sz (.one (.o (.sl id g off len sz))) none (some (.one (.i k (1:Int)))) alt=.val (.one (.o (.sl id g off 1 sz))) H:=λ_ _ _ _ _ _ _=>KV h
theorem Xl{ld:List Lad}{lr:List Rl}{v:List Int}(E0:mu ld lr v)(H:Hp)(S N:Nat)(pc pr la vv F iv nv:AC)(lc:List Cl)(c limit:Nat)(found:List (List Fx))(r:Option Nat)(items:List Fx)
  (hS:SrR H S pc pr la vv F c limit) (hD:SrD S N H pc pr la vv lc lr ld v) {X:Nat->Prop} (hXS:X S) (hXn:∀k,X k->k<H.nx) (hF:Fnd X H F found r) (hi:SlF H iv items) (hn:SlI H nv (aY v items))
  (hI:cN v lr (kF ld v) items) (U3:items.length<=3) (hc:c<=3) (Y5:limit<=100) (D9:FOk v lr (kF ld v) c limit found) (hl:limit=0\/found.length<=limit):
  Con E2 103 [.one (.o (.ptr S 0 0 7)),.one iv,.one nv] H (λk=>k=S\/r=some k) λq H'=>q=.tup []/\TkQ X H.nx S pc pr la vv c limit r (ja v lr (kF ld v) c limit items found) H':=by
 have hlen1:found.length<=limit+1:=hl.elim (λh=>by have:=D9.on h;omega) λh=>aa;refine Con.hdb6 (λH=>SrR H S pc pr la vv F c limit) hS (λH=>SrD S N H pc pr la vv lc lr ld v) hD (λH=>∀k,X k->k<H.nx) hXn (λH=>Fnd X H F found r) hF (λH=>SlF H iv items) hi (λH=>SlI H nv (aY v items)) hn λH e hS hD hXn hF hi hn=>?_;rw[<-e];clear e;refine C1.yV 139 [] Tryz.func103 λtm h0 h1 h2=>?_;replace hXS:=hd hXS;replace hXn:=hd hXn;have hrp:=E0.rp;have h64:=E0.v64;have r64:=E0.r64;have Z1:Hd _:=E0.vl;have hD0:=hD.now;have i1:=hi.len;have i3:=hi.lt;refine zG (qA tyR Dw) λK hK=>?_;refine WE.con (AU H iv items hi aa) λw' H1 g1⟨u0,q0,hw,hf0,j_⟩=>?_;subst hw;have lu:=hf0.slF.lt;replace hf0:=hd hf0;replace j_:=hd j_;have i1:=(hi.gr g1).len;have i3:=(hi.gr g1).lt;have hD1:=hD0.rl.gr g1;have p1:=hD1.len;have p3:=hD1.lt;obtain⟨S7,U5⟩:=hS.gr g1;refine zK tyR ?_;have fin:∀(A:ag)(H3:Hp),A.dfr=[]->Gr H H3->ja v lr (kF ld v) c limit items found found->∃w H4,aK E2 [] (.ret,A,H3)=.ok [(w,H4)]/\Fr (λk=>k=S\/r=some k) H H4/\∀lg':List Nat,w=.tup []/\TkQ X H.nx S pc pr la vv c limit r (ja v lr (kF ld v) c limit items found) ⟨H4.t,H4.nx,lg'⟩:=λA H3 h1 h2 h3=>
  have a:=hS.gr h2;have b:=hF.gr h2
  ⟨_,H3,cS (.inr rfl) h1,h2.mono λ_ h=>h.elim,λlg'=>⟨rfl,F,r,found,a,b,λk h=>.inl h,h3⟩⟩
 refine R1.dL λK k1 k2 k3 k4=>?_;refine R1.loop (λm A H2=>∃(i:Nat)(T0 f:List Fx)(cost:Nat)(u:AC)(q:Option Nat),m=lr.length-i/\i<=lr.length/\Gr H H2/\Hd (lk H2 u f q)/\Hd (∀k,q=some k->H.nx<=k)/\Hd (kM v lr (kF ld v) (aY v items) items f cost (lr.drop i) T0)/\Hd (cost<=c\/T0=[])/\cost<=3+2*i/\ky A.tm 0 2 6 (.o (.ptr S 0 0 7)) (nv) (u) (gU A cost (slot A.tm 22=.one (pr)/\qi A lr.length i (A.nt=139/\A.dfr=[])))) ?_ lr.length
  ⟨0,[],items,items.length,u0,q0,rfl,Nat.zero_le _,g1,hf0,j_,kM.start,.inr rfl,aa,zL⟩
 clear h0 h1 h2 tm i1 i3 p1 p3 lu S7 U5 hf0 j_ hD1 hK k3;rintro m A H2 ⟨i,T0,f,cost,u,q,rfl,hil2,g2,hf,hq,hT,S2,hcost,t0,t2,t6,t7,t22,t23,t24,z0,A0⟩;obtain⟨S7,U5⟩:=hS.gr g2;have hD2:=hD.gr g2;have hDn:=hD2.now;have W3:=hn.gr g2;have p1:=hDn.rl.len;have p3:=hDn.rl.lt;have lu:=hf.out.slF.lt;refine zW tyR ?_;refine zI tyR (λM9=>?_) (λM9=>?_)
 ·have B0:i<lr.length:=aa;have ex:=aA B0;have M0:=List.drop_eq_getElem_cons B0;have Y1:=cK B0;have D0:=bW B0;generalize lr[i]=x at ex M0 Y1 D0;have X1:=bB i;have G6:=hrp.tr x D0;have hpr:=hrp.pr x D0;obtain⟨id,g,off,cells,rfl,hid,W0,J0⟩:=hDn.rl.open aa;obtain⟨u1,O0⟩:=J0 i x ex;obtain⟨J2,y1,y2,_,_,_,_⟩:=O0;rw[M0]at hT;have G9:=hrp.pl x D0;clear J0 ex Y1 D0 M0;refine zW tyR ?_;refine R1.dL λK2 q1 q2 q3 q4=>?_;refine zG (qA tyR (ixC B0)) λK hK=>?_;apply hK.out;refine R1.gen (λA4 H4=>Gr H2 H4/\H2.nx<H4.nx/\H4.get H2.nx=some (.arr [.i .i64 x.1,u1] 82 0 0)/\ky A4.tm 0 2 6 (.o (.ptr S 0 0 7)) (nv) (u) (gU A4 cost (eQ A4.tm 9 22 (.o (.ptr H2.nx 0 0 2)) (.o (.sl id g off lr.length 2)) (qi A4 lr.length i (A4.nt=139/\A4.dfr=[])))))
   ⟨((Fr.refl _).new _).mod _ (.inl (ai _)),ba _,aq rfl,zL⟩ ?_
  clear t0 t2 t6 t7 t22 t23 t24 z0 A0 A W0 hid y1 y2 hK K lu p1 p3 S7 U5;rintro A H4 ⟨g4,n4,rx,t0,t2,t6,t7,t9,t22,t23,t24,z0,A0⟩;have g14:=g2.gr g4;refine zG (qA tyR AL) λK hK=>?_;refine WE.con (xL H4 u1 nv x.1 x.2 (aY v items) (J2.gr g4) (W3.gr g4) (by rw[dH];exact hpr) aa) λw' H5 g5 v_=>?_;subst v_;have g15:=g14.gr g5;generalize Z2:bN (aY v items) 0 x.2=n;have hT:=hT.out;obtain⟨S7,U5⟩:=hS.gr g15;have P9:=(hD.gr g15).now;obtain⟨rx,n5⟩:=bD g5 n4 rx;obtain⟨idv,gv,offv,cellsv,rfl,T4,V4,e3,e4⟩:=nS P9.vi G6.1 G6.2;by_cases e:n=v.getD x.1.toNat 0
  ·have ce:=beq_iff_eq.2 e;have hT2:=hT.skip (Z2.trans e);replace e:=hd e;replace Z2:=hd Z2;replace hT:=hd hT;refine zK (qA tyR (ixI G6.1 G6.2)) ?_;apply q2.out;refine zW tyR ?_;exact⟨lr.length-(i+1),aa,i+1,T0,f,cost,u,q,rfl,B0,g15,dA.fr hf.out (g4.gr g5) (λ_ _=>aE),hq,hT2,S2,aa,zL⟩
  have ce:(n==v.getD x.1.toNat 0)=false:=aF e;have e':bN (aY v items) 0 x.2≠v.getD x.1.toNat 0:=λh=>e (Z2.symm.trans h);replace e:=hd e;by_cases b:n<1\/1099511627776<n
  ·have E4:dX v (kF ld v) (aY v items) lr=none:=hT.none e' (by rw[Z2];exact b);have hp:ja v lr (kF ld v) c limit items found found:=ja.same D9 hlen1 λT h=>by rw[E4]at h;cases h
   replace Z2:=hd Z2;replace E4:=hd E4;replace hp:=hd hp;replace hT:=hd hT;by_cases b1:n<1
   ·clear b;refine zK (qA tyR (ixI G6.1 G6.2)) ?_;exact q4.out _ _ (k4.out _ _ (fin _ _ qe g15 hp.out))
   have b2:=b.resolve_left b1;clear b;refine zK (qA tyR (ixI G6.1 G6.2)) ?_;exact q4.out _ _ (k4.out _ _ (fin _ _ qe g15 hp.out))
  have b1:¬n<1:=λh=>b (.inl h);have b2:¬1099511627776<n:=λh=>b (.inr h);have hTp:=λk hk=>hT.push hrp e' (by rw[Z2];exact b) (k:=k) hk;rw[Z2]at hTp;replace hTp:=hd hTp;replace Z2:=hd Z2;replace hT:=hd hT;clear b;refine zK (qA tyR (ixI G6.1 G6.2)) ?_;refine R1.lq (λA5=>ky A5.tm 0 2 6 (.o (.ptr S 0 0 7)) (nv) (u) (gU A5 cost (slot A5.tm 9=.one (.o (.ptr H2.nx 0 0 2))/\lI A5 n (slot A5.tm 22=.one (.o (.sl id g off lr.length 2))/\qi A5 lr.length i (A5.nt=139/\A5.dfr=[]))))) zL ?_;clear t0 t2 t6 t7 t9 t22 t23 t24 z0 A0 A hK K;rintro A ⟨t0,t2,t6,t7,t9,t10,t22,t23,t24,z0,A0⟩;have htl:x.1<ld.length:=by have:=Z1.out;omega
  obtain⟨idl,gl,offl,cellsl,ul,rfl,W7,B7,Y4,f3,f4⟩:=vU P9.la G6.1 htl;replace hTp:=hTp.out (kF ld v x.1 n) rfl;replace hTp:=hd hTp;refine zH (zDe tyR (ixI G6.1 G6.2) (ixI G6.1 htl) FZ) λK hK=>?_;refine WE.po (xz E0 H5 x.1 n ul G6.1 G6.2 Y4) λw' H6 g6 L'=>?_;subst L';generalize kF ld v x.1 n=kk at hTp;have g16:=g15.gr g6;obtain⟨S7,U5⟩:=hS.gr g16;refine zS tyR ?_;apply hK.out;refine R1.gen (λA7 H7=>Gr H6 H7/\H6.nx<H7.nx/\H7.get H6.nx=some (.arr [.i .i64 x.1,.i .i64 (v.getD x.1.toNat 0),.i .i64 n,.i .i64 kk] 80 0 0)/\ky A7.tm 0 2 6 (.o (.ptr S 0 0 7)) (nv) (u) (gU A7 cost (eQ A7.tm 11 22 (.o (.ptr H6.nx 0 0 4)) (.o (.sl id g off lr.length 2)) (qi A7 lr.length i (A7.nt=139/\A7.dfr=[])))))
   ⟨((Fr.refl _).new _).mod _ (.inl (ai _)),ba _,aq rfl,zL⟩ ?_
  clear t0 t2 t6 t7 t9 t10 t22 t23 t24 z0 A0 A hK K B7 W7 f3 f4 V4 T4 e3 e4 S7 U5 rx Y4;rintro A H7 ⟨g7,n7,rx,t0,t2,t6,t7,t11,t22,t23,t24,z0,A0⟩;have g17:=g16.gr g7;have hf7:lk H7 u f q:=dA.fr hf.out ((g4.gr g5).gr (g6.gr g7)) (λ_ _=>aE);obtain⟨M,hM⟩:=dI H6.nx;rw[<-hM]at n7 rx t11;have hMM:H2.nx<=M:=by have:=g4.nx;have:=g5.nx;have:=g6.nx;omega
  clear hM;have w1:=bB cost;have w2:IntKind.i64.wrap (((cost+1:Nat):Int)+1)=((cost+2:Nat):Int):=by rw[gE aa aa];omega
  have hqM:∀k,q=some k->k<H2.nx:=λk hk=>by subst hk;exact dA.rlt hf.out
  replace hqM:=hd hqM;refine zW tyR ?_;repeat refine R1.aJ ?_
  refine R1.tV (λB H8=>∃(kf:Int)(cost':Nat),Gr H H8/\Hd (lk H8 u f q)/\M<H8.nx/\H8.get M=some (.arr [.i .i64 x.1,.i .i64 (v.getD x.1.toNat 0),.i .i64 n,.i .i64 kf] 80 0 0)/\Hd (kM v lr (kF ld v) (aY v items) items (f++[(x.1,v.getD x.1.toNat 0,n,kf)]) cost' (lr.drop (i+1)) (T0++[(x.1,v.getD x.1.toNat 0,n,kf)]))/\cost'<=cost+2 /\
   slot B.tm 0=.one ((.o (.ptr S 0 0 7)))/\slot B.tm 2=.one (nv)/\slot B.tm 6=.one (u)/\slot B.tm 7=.one (.i .i64 (cost':Int))/\slot B.tm 11=.one ((.o (.ptr M 0 0 4)))/\slot B.tm 22=.one ((.o (.sl id g off lr.length 2)))/\slot B.tm 23=.one (.i .i64 (lr.length:Int))/\slot B.tm 24=.one (.i .i64 (i:Int))/\B.nt=139/\B.dfr=[]) (λK4 m1 m2 m3=>?_) ?_
  ·by_cases M4:kk=0
   ·have ce:=beq_iff_eq.2 M4;have hT3:=hTp.out;rw[ad M4,ad M4]at hT3;replace hT3:=hd hT3;replace M4:=hd M4;refine zW tyR ?_;refine m1.out _ _ ⟨5,cost+2,g17.then ((Fr.refl (X:=λk=>k=M) H7).mod _ (.inr rfl)) (λk(hk:k=M)=>.inl (by subst hk;have:=g2.nx;omega)),dA.fr hf7 ((Fr.refl (X:=λk=>k=M) H7).mod _ (.inr rfl)) (λk hk(e:k=M)=>by have:=hqM.out k hk;omega),n7,aq rfl,hT3,ai _,zL⟩
   have ce:(kk==0)=false:=aF M4;have hT3:=hTp.out;rw[ab M4,ab M4]at hT3;replace hT3:=hd hT3;replace M4:=hd M4;refine zW tyR ?_;exact m1.out _ _ ⟨kk,cost+1,g17,hf7,n7,rx,hT3,aa,zL⟩
  clear t0 t2 t6 t7 t11 t22 t23 t24 z0 A0 A rx n7 hTp;rintro A H8 ⟨kf,cost',g18,hf8,n8,rx,hT8,hc8,t0,t2,t6,t7,t11,t22,t23,t24,z0,A0⟩;obtain⟨S7,U5⟩:=hS.gr g18;by_cases S5:c<cost'
  ·have hcbi:(c:Int)<(cost':Int):=aa;refine zW tyR ?_;exact q4.out _ _ (k4.out _ _ (fin _ _ qe g18 (ja.same D9 hlen1 λT h=>hT8.out.big S5 h)))
  have hcbi:¬(c:Int)<(cost':Int):=aa;obtain⟨z,hz,Q1⟩:=xV;have lf:f.length<=3+2*64:=by have h1:=hT8.out.fe;have h2:=hT8.out.co;have h3:=ma (T0++[(x.1,v.getD x.1.toNat 0,n,kf)]);have h4:=congrArg List.length h1;rw[aI,aI,aI]at h4;rw[aI]at h3;omega
  obtain⟨R6,u9,H9,r9,B1,Q7,j5,P7⟩:=gA jb uk hz Q1 aU hf8.out [.i .i64 x.1,.i .i64 (v.getD x.1.toNat 0),.i .i64 n,.i .i64 kf] rfl aa;clear hz Q1 z;replace S5:=hd S5;refine zW tyR ?_;refine zG (qA tyR jU) λK hK=>?_;refine⟨R6,?_⟩;refine zK tyR ?_;apply q1.out;refine zW tyR ?_;refine⟨lr.length-(i+1),aa,i+1,T0++[(x.1,v.getD x.1.toNat 0,n,kf)],f++[(x.1,v.getD x.1.toNat 0,n,kf)],cost',u9,some r9,rfl,B0,g18.then j5 (λk hk=>.inl (hq.out k hk)),?_,λk hk=>?_,hT8,.inl (Nat.le_of_not_lt S5.out),aa,zL⟩
  ·show dA _ _ _ _ _ _ _;rw[aI,iX];exact Q7
  cases hk
  rcases P7 with h|h
  ·exact hq.out _ h
  have:=g18.nx;omega
 have U0:i=lr.length:=aa;rw[U0,ct]at hT;clear M9 hil2 U0;refine zW tyR ?_;apply k2.out;by_cases hce:cost=c
 ·have ce:((cost:Int)==(c:Int))=true:=beq_iff_eq.2 aa;replace hce:=hd hce;refine zW tyR ?_;have hfe:=hT.out.fe;have hTd:=hT.out.done;have hco:=hT.out.co;have hcT:items.length+cT T0=c:=by rw[<-hco];exact hce.out
  replace hfe:=hd hfe;replace hTd:=hd hTd;replace hcT:=hd hcT;replace hco:=hd hco;have hfx:∀x∈f,0<=x.1/\x.1<=64:=λx hx=>by
   rw[hfe.out]at hx;rcases List.mem_append.1 hx with hx|hx
   ·have:=(hI.ok x hx).1;omega
   obtain⟨s,hs,e,_⟩:=zZ lr T0 hTd.out x hx;have:=hrp.tr s hs;omega
  have Q8:f.length<=12:=by have h3:=ma T0;rw[hfe.out,aI];have:=hcT.out;omega
  refine zG (qA tyR TE) λK hK=>?_;refine WE.con (Sl H2 u f q hf.out hfx Q8) λw' H3 f3⟨O3,out,X_,hp3,s7⟩=>?_;subst O3;have g3:Gr H H3:=g2.then f3 λk hk=>.inl (hq.out k hk);have hp4:out.Perm (items++T0):=by rw[<-hfe.out];exact hp3
  have hasc:=aaA hrp hI hTd.out hp4 s7;have R4:Sol v lr (kF ld v) c out:=⟨items,T0,hI,hTd.out,hcT.out,hp4,hasc⟩;obtain⟨W6,hol⟩:=R4.fxb hrp;obtain⟨S7,U5⟩:=hS.gr g3;have J6:=hF.gr g3;have lu3:=X_.slF.lt;have huq:∀k∈(AV.one u).ids,H.nx<=k:=λk hk=>by
   rcases X_ with⟨rfl,_⟩|⟨id,lo,gen,h1,rfl,_⟩
   ·cases hk
   rw[List.mem_singleton.1 hk];exact hq.out _ h1
  have hfb:∀g∈found,(∀x∈g,FxB x)/\g.length<=1000000:=λg hg=>by obtain⟨a,b⟩:=(D9.so g hg).fxb hrp;exact⟨a,aa⟩
  replace huq:=hd huq;replace hfb:=hd hfb;replace hfx:=hd hfx;replace hp3:=hd hp3;replace s7:=hd s7;replace hp4:=hd hp4;replace hasc:=hd hasc;replace W6:=hd W6;replace X_:=hd X_;refine zK tyR ?_;refine zG (qA tyR aaD) λK hK=>?_;refine WE.con (Ye H3 F u found out J6.acx (lk.slF X_.out) D9.st hfb.out W6.out aa aa) λw' H4 g4⟨j,b,hw4,C5,hbb⟩=>?_;subst hw4;have g34:=g3.gr g4;obtain⟨S7,U5⟩:=hS.gr g34;have G8:=hF.gr g34;have ho4:lk H4 u out q:=dA.fr X_.out g4 (λ_ _=>aE);replace C5:=hd C5;replace ho4:=hd ho4;have fin2:Hd (∀(A:ag)(H5:Hp)(e:au)(F':AC)(r':Option Nat)(found':List (List Fx)),(e=.normal\/e=.ret)->A.dfr=[]->Fr (λk=>k=S\/r=some k) H H5->SrR H5 S pc pr la vv F' c limit->Fnd X H5 F' found' r'->(∀k,r'=some k->r=some k\/H.nx<=k)->ja v lr (kF ld v) c limit items found found' ->
   ∃w H4,aK E2 [] (e,A,H5)=.ok [(w,H4)]/\Fr (λk=>k=S\/r=some k) H H4/\∀lg':List Nat,w=.tup []/\TkQ X H.nx S pc pr la vv c limit r (ja v lr (kF ld v) c limit items found) ⟨H4.t,H4.nx,lg'⟩):=λA H5 e F' r' found' he h1 h2 h3 h4 h5 h6=>
   ⟨_,H5,cS he h1,h2,λlg'=>⟨rfl,F',r',found',h3,h4,h5,h6⟩⟩
  cases b with
  |true=>have hp:ja v lr (kF ld v) c limit items found found:=ja.had hrp D9 hlen1 hI hTd.out hcT.out hp4.out hasc.out (hbb.1 rfl);replace hp:=hd hp;replace hbb:=hd hbb;refine zK tyR ?_;exact fin2.out _ _ _ F r found (.inl rfl) qe (g34.mono λ_ h=>h.elim) ⟨S7,U5⟩ G8 (λk h=>.inl h) hp.out
  |false=>
   have E4:¬∃g,found[j]?=some g/\ig g=ig out:=λh=>by cases hbb.2 h
   have hp:ja v lr (kF ld v) c limit items found (GF limit found j out):=ja.ins hrp D9 hl hI hTd.out hcT.out hp4.out hasc.out C5.out E4;replace hp:=hd hp;replace E4:=hd E4;replace hbb:=hd hbb;refine zK tyR ?_;refine R1.lq (λA5=>eQ A5.tm 0 6 (.o (.ptr S 0 0 7)) (u) (ng A5 j (A5.nt=139/\A5.dfr=[]))) zL ?_;clear t0 t2 t6 t7 t22 t23 t24 z0 A0 A hK K;rintro A ⟨t0,t6,t12,z0,A0⟩;have hrS:r≠some S:=λh=>by
    rcases G8 with⟨_,_,e⟩|⟨id,_,_,_,_,_,e,_,_,_,h6,_⟩
    ·rw[h]at e;cases e
    rw[h]at e;cases e;exact h6 hXS.out
   have u6:∀k,r=some k->k<H.nx:=λk h=>by
    rcases hF with⟨_,_,e⟩|⟨id,_,_,_,_,_,e,_,_,h5,_⟩
    ·rw[h]at e;cases e
    rw[h]at e;cases e;exact h5
   have o6:SlF (H4.new (.arr [u] 30 0 0)) u out:=(lk.slF ho4.out).gr ((Fr.refl _).new _);have O9:Fnd X (H4.new (.arr [u] 30 0 0)) F found r:=G8.gr ((Fr.refl _).new _);have hrv:r≠some H4.nx:=λh=>by have:=u6 _ h;have:=g34.nx;omega
   have E9:∀k∈(AV.one u).ids,¬X k/\some k≠r:=λk hk=>by have h1:=huq.out k hk;exact⟨λhh=>by have:=hXn.out k hh;omega,λe=>by have:=u6 _ e.symm;omega⟩
   have hj:j<=found.length:=C5.out.1;replace hrS:=hd hrS;replace u6:=hd u6;replace o6:=hd o6;replace O9:=hd O9;replace hrv:=hd hrv;replace E9:=hd E9;refine zG (zDd tyR jU XY) λK hK=>?_;refine WE.con (UM O9.out (λk hk=>by have:=hXn.out k hk;have:=g34.nx;show k<H4.nx+1;omega) (aC rfl) (ai 0) (ba _) hrv.out o6.out E9.out hj aa) λw' H6 f6⟨id,gen,n,hw6,hF6,hr6⟩=>?_;subst hw6;have hS6:SrR H6 S pc pr la vv F c limit:=((hS.gr g34).gr ((Fr.refl _).new _)).fr f6 hrS.out;obtain⟨S7,U5⟩:=hS6;have f46:Fr (λk=>k=S\/r=some k) H H6:=((g34.mono λ_ h=>h.elim).then ((Fr.refl (X:=λ_=>False) H4).new _) λ_ h=>h.elim).then f6 λk h=>.inr (.inr h);replace hF6:=hd hF6;replace f46:=hd f46;refine zS tyR ?_;apply hK.out;refine R1.gen (λA7 H7=>Fr (λk=>k=S) H6 H7/\SrR H7 S pc pr la vv (.o (.sl id gen 0 n 1)) c limit/\eO A7 0 (.o (.ptr S 0 0 7)) 139 []) ⟨(Fr.refl _).mod _ (.inr rfl),⟨S7,aq rfl⟩,zL⟩ ?_;clear t0 t6 t12 z0 A0 A hK K S7 U5;rintro A H7 ⟨f7,hS7,t0,z0,A0⟩;have f47:Fr (λk=>k=S\/r=some k) H H7:=f46.out.then f7 λk h=>.inr (.inl h);have hF7:Fnd X H7 (.o (.sl id gen 0 n 1)) (found.take j++out::found.drop j) (some id):=hF6.out.fr f7 λk h=>.inl (by rw[h];exact hXS.out);obtain⟨S7,U5⟩:=hS7;have W_:∀k,some id=some k->r=some k\/H.nx<=k:=λk h=>by
    cases h
    exact hr6.imp (λh=>h) λh=>by have:=g34.nx;have h:H4.nx+1<=id:=h;omega
   by_cases I6:limit=0
   ·have ce:((limit:Int)==0)=true:=beq_iff_eq.2 aa;have u7:=hp.out;have he:GF limit found j out=(found.take j++out::found.drop j).take 1:=ad I6;rw[he]at u7;obtain⟨J3,hF8⟩:=hF7.cut;replace u7:=hd u7;replace hF8:=hd hF8;replace I6:=hd I6;replace he:=hd he;replace hF7:=hd hF7;replace f47:=hd f47;replace W_:=hd W_;refine zW (qA tyR (slH1 J3)) ?_;exact fin2.out _ _ _ (.o (.sl id gen 0 1 1)) (some id) _ (.inl rfl) qe (f47.out.mod _ (.inr (.inl rfl))) ⟨S7,aq rfl⟩ (hF8.out.fr ((Fr.refl (X:=λk=>k=S) H7).mod _ (.inr rfl)) λk h=>.inl (by rw[h];exact hXS.out)) W_.out u7.out
   have ce:((limit:Int)==0)=false:=aF aa;have u7:=hp.out;have he:GF limit found j out=found.take j++out::found.drop j:=ab I6;rw[he]at u7;replace u7:=hd u7;replace I6:=hd I6;replace he:=hd he;replace hF7:=hd hF7;replace f47:=hd f47;replace W_:=hd W_;refine zW tyR ?_;exact fin2.out _ _ _ (.o (.sl id gen 0 n 1)) (some id) _ (.inl rfl) qe f47.out ⟨S7,U5⟩ hF7.out W_.out u7.out
 have ce:((cost:Int)==(c:Int))=false:=aF aa;have hp:ja v lr (kF ld v) c limit items found found:=ja.same D9 hlen1 λT h=>by rw[hT.out.done]at h;cases h;rw[<-hT.out.co];exact hce
 replace hp:=hd hp;replace hce:=hd hce;refine zW tyR ?_;exact fin _ _ qe g2 hp.out
section
variable(v:List Int)(lr:List Rl)(K:Int->Int->Int)(c limit:Nat)(items:List Fx)(given:List Nat)
structure Lp(found found':List (List Fx))(due:List Fx->List Fx->Prop):Prop where
 ok:FOk v lr K c limit found'
 le:found'.length<=limit+1
 st:oG limit found found'
 go:∀I T rest f,fB v lr K c I T items rest given->qz f->f.Perm (I++T)->Got limit found' f\/due I T
def abp(w:Option Nat)(n:Nat):Prop:=match w with|some m=>n=m|none=>n∈given
def acs(w:Option Nat)(I:List Fx)(r:Rl):Prop:=w≠none->bN (aY v I) 0 r.2=v.getD r.1.toNat 0
def FO(w:Option Nat)(i:Nat)(I T:List Fx):Prop:=∃n r x rest',i<=n/\abp given w n/\lr[n]?=some r/\x.1∈r.2/\fB v lr K c I T (items++[x]) rest' given/\acs v w I r
def uT(w:Option Nat)(i:Nat)(r:Rl)(ps:List Int)(I T:List Fx):Prop:=(∃x rest',x.1∈ps/\fB v lr K c I T (items++[x]) rest' given/\acs v w I r)\/FO v lr K c items given w (i+1) I T
def SB(w:Option Nat)(i:Nat)(r:Rl)(ps:List Int)(p:Int)(S:List Int)(I T:List Fx):Prop:=(∃x rest',x.1=p/\x.2.2.1∈S/\fB v lr K c I T (items++[x]) rest' given)\/uT v lr K c items given w i r ps I T
end
def vI(v:List Int)(K:Int->Int->Int)(p to:Int):Fx:=(p,v.getD p.toNat 0,to,K p to)
abbrev qD(v:List Int)(lr:List Rl)(K:Int->Int->Int)(c limit:Nat)(items:List Fx)(given:List Nat)(found found':List (List Fx)):Prop:=Lp v lr K c limit items given found found' λ_ _=>False
section
variable{v:List Int}{lr:List Rl}{K:Int->Int->Int}{c limit:Nat}{items:List Fx}{given:List Nat}{found f1 f2:List (List Fx)}{due due':List Fx->List Fx->Prop}
def Lp.CC(h:Lp v lr K c limit items given found f1 due)(hd:∀I T rest,fB v lr K c I T items rest given->due I T->due' I T):Lp v lr K c limit items given found f1 due':=
 ⟨h.ok,h.le,h.st,λI T rest f a b d=>(h.go I T rest f a b d).imp id (hd I T rest a)⟩
def Lp.next{items':List Fx}{given':List Nat}(h:Lp v lr K c limit items given found f1 due)(k:qD v lr K c limit items' given' f1 f2)(hd:∀I T,due I T->(∃rest',fB v lr K c I T items' rest' given')\/due' I T):Lp v lr K c limit items given found f2 due':=
 ⟨k.ok,k.le,h.st.trans k.st,λI T rest f a b d=>(h.go I T rest f a b d).elim (λg=>.inl (k.st _ g)) λhu=>(hd I T hu).elim (λ⟨r',hw⟩=>.inl ((k.go I T r' f hw b d).resolve_right id)) .inr⟩
def Lp.full(ok:FOk v lr K c limit found)(le:found.length<=limit+1)(h0:limit≠0)(h1:limit<found.length):Lp v lr K c limit items given found found due:=
 ⟨ok,le,oG.ZC,λI T rest f a b d=>.inl (by unfold Got;rw[ab h0];exact .inr h1)⟩
def Lp.start(ok:FOk v lr K c limit found)(le:found.length<=limit+1):Lp v lr K c limit items given found found λ_ _=>True:=
 ⟨ok,le,oG.ZC,λI T rest f a b d=>.inr trivial⟩
def Lp.Xz(E0:gI v lr K)(h:Lp v lr K c limit items given found found λ_ _=>True){w:Nat}{r:Rl}(hr:lr[w]?=some r)(hg:w∉given)(hw:bN (aY v items) 0 r.2≠v.getD r.1.toNat 0):
  Lp v lr K c limit items given found found λI T=>items.length+given.length+1<=c/\((∃rest,fB v lr K c I T items rest (w::given))\/FO v lr K c items given (some w) 0 I T):=
 h.CC λI T rest ho _=>by obtain⟨h1,h2⟩:=ho.Xz E0 hr hg hw;refine⟨h1,h2.imp (λh=>⟨rest,h⟩) λ⟨x,rest',hm,_,hx,hs⟩=>⟨w,r,x,rest',Nat.zero_le _,rfl,hr,hm,hx,λ_=>hs⟩⟩
def Lp.right(E0:gI v lr K)(Q6:LD v lr K c)(hw:∀n,n∉given->¬ny v lr (aY v items) n)(ht:ja v lr K c limit items found f1):
  Lp v lr K c limit items given found f1 λI T=>items.length+given.length+1<=c/\FO v lr K c items given none 0 I T:=
 ⟨ht.ok,ht.le,ht.st,λI T rest f ho ha hp=>by
  rcases ho.right E0 Q6 hw with h0|⟨h1,n,hn,r,hr,x,rest',hm,_,hx⟩
  ·subst h0;have hnow:=ho.now;have hpe:=ho.pe;rw[List.append_nil]at hpe;have ht2:=ho.to;rw[hnow]at ht2;refine .inl (ht.go T f ht2 ?_ ha (hp.trans (hpe.append_right T)));rw[<-hpe.length_eq];exact ho.co
  exact .inr ⟨h1,n,r,x,rest',Nat.zero_le _,hn,hr,hm,hx,λh=>absurd rfl h⟩⟩
def Lp.ach(h:Lp v lr K c limit items given found f1 λI T=>items.length+given.length+1<=c/\due I T)(hc:items.length+given.length=c):qD v lr K c limit items given found f1:=
 h.CC λ_ _ _ _ hd=>by have:=hd.1;omega
def Lp.aci(h:Lp v lr K c limit items given found f1 λI T=>items.length+given.length+1<=c/\due I T):Lp v lr K c limit items given found f1 due:=h.CC λ_ _ _ _ hd=>hd.2
variable{w:Option Nat}{i:Nat}{r:Rl}{ps:List Int}{p:Int}{S:List Int}
def Lp.over(h:Lp v lr K c limit items given found f1 (FO v lr K c items given w i))(hi:lr.length<=i):qD v lr K c limit items given found f1:=
 h.CC λI T _ _⟨n,r,x,rest',h1,_,h3,_⟩=>by have:=(List.getElem?_eq_some_iff.1 h3).1;omega
def Lp.skip(h:Lp v lr K c limit items given found f1 (FO v lr K c items given w i))(hi:¬abp given w i):Lp v lr K c limit items given found f1 (FO v lr K c items given w (i+1)):=
 h.CC λI T _ _⟨n,r,x,rest',h1,h2,h3⟩=>by
  rcases cL i n with hh|hh
  ·exact⟨n,r,x,rest',hh,h2,h3⟩
  have:n=i:=aa;subst this;exact absurd h2 hi
def Lp.open(h:Lp v lr K c limit items given found f1 (FO v lr K c items given w i))(hr:lr[i]?=some r):Lp v lr K c limit items given found f1 (uT v lr K c items given w i r r.2):=
 h.CC λI T _ _⟨n,r',x,rest',h1,h2,h3,h4,h5,h6⟩=>by
  rcases cL i n with hh|hh
  ·exact .inr ⟨n,r',x,rest',hh,h2,h3,h4,h5,h6⟩
  have:n=i:=aa;subst this;rw[hr]at h3;cases h3
  exact .inl ⟨x,rest',h4,h5,h6⟩
def Lp.close(h:Lp v lr K c limit items given found f1 (uT v lr K c items given w i r [])):Lp v lr K c limit items given found f1 (FO v lr K c items given w (i+1)):=
 h.CC λI T _ _ hd=>hd.elim (λ⟨x,rest',h1,_⟩=>absurd h1 List.not_mem_nil) id
def Mu{x:Fx}(h:cN v lr K (items++[x])):x=vI v K x.1 x.2.2.1/\K x.1 x.2.2.1≠0:=by obtain⟨_,h2,h3,h4,_⟩:=h.ok x (du _ (aT ..));obtain⟨a,b,d,e⟩:=x;exact⟨by unfold vI;rw[show b=v.getD a.toNat 0 from h2,show e=K a d from h3],by rw[<-h3];exact h4⟩
def Rn{x:Fx}(h:cN v lr K (items++[x])):(aY v items).getD x.1.toNat 0=v.getD x.1.toNat 0:=
 kK items v x.1.toNat λy hy=>(List.pairwise_append.1 h.pw).2.2 y hy x (aT ..)
def Ro(E0:gI v lr K)(hI:cN v lr K items){to:Int}(hr:r∈lr)(hm:p∈r.2)(hn:(aY v items).getD p.toNat 0=v.getD p.toNat 0)(hk:K p to≠0):cN v lr K (items++[vI v K p to]):=by
 have hp:=E0.pr r hr p hm;refine⟨λx hx=>?_,List.pairwise_append.2 ⟨hI.pw,List.pairwise_singleton ..,λy hy z hz=>?_⟩⟩
 ·rcases List.mem_append.1 hx with hx|hx
  ·exact hI.ok x hx
  rw[List.mem_singleton.1 hx];exact⟨hp,rfl,rfl,hk,r,hr,hm⟩
 rw[List.mem_singleton.1 hz];intro e;have e:y.1.toNat=p.toNat:=e;obtain⟨y1,y2,y3,y4,_⟩:=hI.ok y hy;have h1:=tj items v hI.pw y hy aa;have hy5:K y.1 y.2.2.1≠0:=by rw[<-y3];exact y4
 have h2:=(E0.kb y.1 y.2.2.1 hy5).2.1;rw[e]at h1;rw[h1,<-e]at hn;exact h2 hn
def WI(to:Int):aY v (items++[vI v K p to])=(aY v items).set p.toNat to:=Cq ..
def Lp.had(h:Lp v lr K c limit items given found f1 (uT v lr K c items given w i r (p::ps)))(hn:(aY v items).getD p.toNat 0≠v.getD p.toNat 0):Lp v lr K c limit items given found f1 (uT v lr K c items given w i r ps):=
 h.CC λI T _ _ hd=>hd.elim (λ⟨x,rest',h1,h2,h3⟩=>by
  rcases List.mem_cons.1 h1 with h1|h1
  ·have:=Rn h2.itm;rw[h1]at this;exact absurd this hn
  exact .inl ⟨x,rest',h1,h2,h3⟩) .inr
def Bd(E0:gI v lr K){m:Nat}(hc:items.length+given.length+1=c)(hr:r∈lr)(hm:p∈r.2){I T:List Fx}(hd:uT v lr K c items given (some m) i r (p::ps) I T):
  (K p (v.getD p.toNat 0+v.getD r.1.toNat 0-bN (aY v items) 0 r.2)≠0/\∃rest',fB v lr K c I T (items++[vI v K p (v.getD p.toNat 0+v.getD r.1.toNat 0-bN (aY v items) 0 r.2)]) rest' given)\/uT v lr K c items given (some m) i r ps I T:=
 hd.elim (λ⟨x,rest',h1,h2,h3⟩=>by
  rcases List.mem_cons.1 h1 with h1|h1
  ·left;obtain⟨_,e⟩:=h2.forced E0 hc hr (by rw[h1];exact hm) (h3 (by simp));obtain⟨e1,e2⟩:=Mu h2.itm;rw[h1]at e e1 e2;rw[e]at e1 e2;exact⟨e2,rest',by rw[<-e1];exact h2⟩
  exact .inr (.inl ⟨x,rest',h1,h2,h3⟩)) λh=>.inr (.inr h)
def Lp.no(E0:gI v lr K){m:Nat}(h:Lp v lr K c limit items given found f1 (uT v lr K c items given (some m) i r (p::ps)))(hc:items.length+given.length+1=c)(hr:r∈lr)(hm:p∈r.2)
  (hk:K p (v.getD p.toNat 0+v.getD r.1.toNat 0-bN (aY v items) 0 r.2)=0):Lp v lr K c limit items given found f1 (uT v lr K c items given (some m) i r ps):=
 h.CC λI T _ _ hd=>(Bd E0 hc hr hm hd).elim (λh=>absurd hk h.1) id
def Lp.yes(E0:gI v lr K){m:Nat}{to:Int}(h:Lp v lr K c limit items given found f1 (uT v lr K c items given (some m) i r (p::ps)))(hc:items.length+given.length+1=c)(hr:r∈lr)(hm:p∈r.2)
  (ht:to=v.getD p.toNat 0+v.getD r.1.toNat 0-bN (aY v items) 0 r.2) (k:qD v lr K c limit (items++[vI v K p to]) given f1 f2):Lp v lr K c limit items given found f2 (uT v lr K c items given (some m) i r ps):=
 h.next k λI T hd=>by subst ht;exact(Bd E0 hc hr hm hd).imp And.right id
def Lp.acz(h:Lp v lr K c limit items given found f1 (uT v lr K c items given w i r (p::ps)))(hS:∀to,K p to≠0->to∈S):Lp v lr K c limit items given found f1 (SB v lr K c items given w i r ps p S):=
 h.CC λI T _ _ hd=>hd.elim (λ⟨x,rest',h1,h2,h3⟩=>by
  rcases List.mem_cons.1 h1 with h1|h1
  ·obtain⟨_,e2⟩:=Mu h2.itm;rw[h1]at e2;exact .inl ⟨x,rest',h1,hS _ e2,h2⟩
  exact .inr (.inl ⟨x,rest',h1,h2,h3⟩)) λh=>.inr (.inr h)
def Lp.slip{to:Int}(h:Lp v lr K c limit items given found f1 (SB v lr K c items given w i r ps p (to::S)))(k:qD v lr K c limit (items++[vI v K p to]) given f1 f2):Lp v lr K c limit items given found f2 (SB v lr K c items given w i r ps p S):=
 h.next k λI T hd=>hd.elim (λ⟨x,rest',h1,h2,h3⟩=>by
  rcases List.mem_cons.1 h2 with h2|h2
  ·obtain⟨e1,_⟩:=Mu h3.itm;rw[h1,h2]at e1;exact .inl ⟨rest',by rw[<-e1];exact h3⟩
  exact .inr (.inl ⟨x,rest',h1,h2,h3⟩)) λh=>.inr (.inr h)
def Lp.abf(h:Lp v lr K c limit items given found f1 (SB v lr K c items given w i r ps p [])):Lp v lr K c limit items given found f1 (uT v lr K c items given w i r ps):=
 h.CC λI T _ _ hd=>hd.elim (λ⟨x,rest',h1,h2,h3⟩=>absurd h2 List.not_mem_nil) id
end
structure Sg where
 S:Nat
 N:Nat
 C1:Nat
 C2:Nat
 C3:Nat
 pc:AC
 pr:AC
 la:AC
 vv:AC
 lc:List Cl
 ld:List Lad
 lr:List Rl
 v:List Int
 c:Nat
 limit:Nat
def SrC(S:Nat)(r:Option Nat)(k:Nat):Prop:=k=S\/r=some k
structure Clo(z:Sg)(H:Hp):Prop where
 n:(z.C1<z.N/\z.C2<z.N/\z.C3<z.N)/\z.N<=H.nx
 s:z.C1≠z.S/\z.C2≠z.S/\z.C3≠z.S
 g1:H.get z.C1=some (.arr [.o (.ptr z.S 0 0 7)] 127 0 0)
 g2:H.get z.C2=some (.arr [.o (.clo 102 [(z.C1,0,0,1),(z.C2,0,0,1),(z.C3,0,0,1)])] 193 0 0)
 g3:H.get z.C3=some (.arr [.o (.clo 100 [(z.C2,0,0,1),(z.C1,0,0,1)])] 196 0 0)
section
variable{z:Sg}{H H':Hp}{X Y:Nat->Prop}
def Clo.fr(h:Clo z H)(hf:Fr Y H H')(hy:∀k,Y k->k=z.S\/z.N<=k):Clo z H':=by obtain⟨⟨⟨a1,a2,a3⟩,a4⟩,⟨b1,b2,b3⟩,g1,g2,g3⟩:=h;have hn:=hf.nx;have key:∀k,k<z.N->k≠z.S->H'.get k=H.get k:=λk hk hs=>hf.get k aa λhh=>(hy k hh).elim hs aa;exact⟨⟨⟨a1,a2,a3⟩,aa⟩,⟨b1,b2,b3⟩,(key _ a1 b1).trans g1,(key _ a2 b2).trans g2,(key _ a3 b3).trans g3⟩
structure SrS(z:Sg)(X:Nat->Prop)(H:Hp)(F:AC)(found:List (List Fx))(r:Option Nat):Prop where
 own:SrR H z.S z.pc z.pr z.la z.vv F z.c z.limit
 dat:SrD z.S z.N H z.pc z.pr z.la z.vv z.lc z.lr z.ld z.v
 fnd:Fnd X H F found r
 xs:X z.S
 xn:∀k,X k->k<H.nx
 rn:∀k,r=some k->z.N<=k
 clo:Clo z H
 ok:FOk z.v z.lr (kF z.ld z.v) z.c z.limit found
 le:found.length<=z.limit+1
variable{F:AC}{found:List (List Fx)}{r:Option Nat}{P:List (List Fx)->Prop}
def SrS.gr(h:SrS z X H F found r)(hg:Gr H H'):SrS z X H' F found r:=
 ⟨h.own.gr hg,h.dat.gr hg,h.fnd.gr hg,h.xs,λk hk=>ax (h.xn k hk) hg.nx,h.rn,h.clo.fr hg λ_ h=>h.elim,h.ok,h.le⟩
def Fnd.rlt{l:List (List Fx)}{q:Nat}(h:Fnd X H F l (some q)):q<H.nx/\¬X q:=by
 rcases h with⟨_,_,e⟩|⟨id,gen,lo,us,ex,_,e,_,_,h5,h6,_⟩
 ·cases e
 cases e;exact⟨h5,h6⟩
def SrS.lg(h:SrS z X H F found r)(lg:List Nat):SrS z X ⟨H.t,H.nx,lg⟩ F found r:=⟨h.own,h.dat,h.fnd,h.xs,h.xn,h.rn,⟨h.clo.n,h.clo.s,h.clo.g1,h.clo.g2,h.clo.g3⟩,h.ok,h.le⟩
def SrS.rlt(h:SrS z X H F found r):∀k,r=some k->k<H.nx:=λk hk=>by subst hk;exact h.fnd.rlt.1
def FrQ(z:Sg)(X:Nat->Prop)(n0:Nat)(r:Option Nat)(P:List (List Fx)->Prop)(H':Hp):Prop:=∃F' r' found',SrS z X H' F' found' r'/\(∀k,r'=some k->r=some k\/n0<=k)/\P found'
def SrS.took(h:SrS z X H F found r)(hf:Fr (SrC z.S r) H H')(q:TkQ X H.nx z.S z.pc z.pr z.la z.vv z.c z.limit r P H')(hP:∀f,P f->FOk z.v z.lr (kF z.ld z.v) z.c z.limit f/\f.length<=z.limit+1):FrQ z X H.nx r P H':=by obtain⟨F',r',found',h1,h2,h3,h4⟩:=q;have hy:∀k,SrC z.S r k->k=z.S\/z.N<=k:=λk hk=>hk.imp id (h.rn k);exact⟨F',r',found',⟨h1,h.dat.fr hf hy,h2,h.xs,λk hk=>ax (h.xn k hk) hf.nx,λk hk=>(h3 k hk).elim (h.rn k) λh5=>aS h.clo.n.2 h5,h.clo.fr hf hy,(hP _ h4).1,(hP _ h4).2⟩,h3,h4⟩
def FrQ.lg{n0:Nat}(h:FrQ z X n0 r P H')(lg:List Nat):FrQ z X n0 r P ⟨H'.t,H'.nx,lg⟩:=by obtain⟨F',r',found',h1,h2,h3⟩:=h;exact⟨F',r',found',h1.lg lg,h2,h3⟩
def FrQ.low{n0 n1:Nat}(h:FrQ z X n1 r P H')(hn:n0<=n1):FrQ z X n0 r P H':=by obtain⟨F',r',found',h1,h2,h3⟩:=h;exact⟨F',r',found',h1,λk hk=>(h2 k hk).imp id (aS hn),h3⟩
def FrQ.mono{n0:Nat}{Q:List (List Fx)->Prop}(h:FrQ z X n0 r P H')(hq:∀f,P f->Q f):FrQ z X n0 r Q H':=by obtain⟨F',r',found',h1,h2,h3⟩:=h;exact⟨F',r',found',h1,h2,hq _ h3⟩
end
def jc(G:List Nat):List (Int×AC):=G.map λm:Nat=>((m:Int),AC.b true)
def BN(G:List Nat)(n:Int):Option AV:=(atG (jc G) n).map AV.one
def Giv(H:Hp)(mv:AC)(G:List Nat):Prop:=(mv=.o .nilM/\G=[])\/∃id,mv=.o (.mp id)/\id<H.nx/\tZ H id (BN G)/\(G.length<=2->H.get id=some (lz (λx:Int=>.one (.i .i64 x)) (jc G)))
theorem Giv.lt{H:Hp}{mv:AC}{G:List Nat}(h:Giv H mv G):ltV (.one mv) H.nx:=by
 rcases h with⟨rfl,_⟩|⟨id,rfl,h,_⟩
 ·intro i hi;cases hi
 intro i hi;rw[List.mem_singleton.1 hi];exact h
structure KpF(z:Sg)(H:Hp)(iv nv mv:AC)(items:List Fx)(given:List Nat):Prop where
 it:SlF H iv items
 nw:SlI H nv (aY z.v items)
 gv:Giv H mv given
def Kp(z:Sg)(X:Nat->Prop)(H:Hp)(iv nv mv:AC)(items:List Fx)(given:List Nat):Prop:=∀H',H.nx<=H'.nx->(∀i,i<H.nx->¬X i->H'.get i=H.get i)->KpF z H' iv nv mv items given
section
variable{z:Sg}{H H':Hp}{X Y W:Nat->Prop}{iv nv mv:AC}{items:List Fx}{given:List Nat}
def Kp.now(h:Kp z X H iv nv mv items given):KpF z H iv nv mv items given:=h H (ai _) λ_ _ _=>rfl
def Kp.next(h:Kp z X H iv nv mv items given)(hf:Fr W H H')(hw:∀k,W k->X k\/H.nx<=k)(hy:∀k,Y k->X k\/H.nx<=k):Kp z Y H' iv nv mv items given:=λH2 n g=>h H2 (aS hf.nx n) λi hi hx=>(g i (ax hi hf.nx) λhh=>(hy i hh).elim hx aa).trans (hf.get i hi λhh=>(hw i hh).elim hx aa)
def Kp.gr(h:Kp z X H iv nv mv items given)(hg:Gr H H'):Kp z X H' iv nv mv items given:=h.next hg (λ_ h=>h.elim) λ_ h=>.inl h
def Kp.own{q q2:Option Nat}{items2:List Fx}{iv2 nv2:AC}(h:Kp z X H iv nv mv items given)(hi:lk H iv2 items2 q)(hq:∀k,q=some k->¬X k)(hn:As H nv2 (aY z.v items2) q2)(hq2:∀k,q2=some k->¬X k):Kp z X H iv2 nv2 mv items2 given:=λH2 n g=>by have hf:Fr X H ⟨H2.t,H2.nx,H.log⟩:=⟨n,g,[],rfl,λ_ h=>by cases h⟩;have a:lk ⟨H2.t,H2.nx,H.log⟩ iv2 items2 q:=dA.fr hi hf hq;have b:As ⟨H2.t,H2.nx,H.log⟩ nv2 (aY z.v items2) q2:=dA.fr hn hf hq2;exact⟨a.slF,b.slI,(h H2 n g).gv⟩
end
def xY(z:Sg)(left:Nat):Prop:=∀(X:Nat->Prop)(H:Hp)(iv nv mv F:AC)(items:List Fx)(given:List Nat)(found:List (List Fx))(r:Option Nat),SrS z X H F found r->Kp z (SrC z.S r) H iv nv mv items given->cN z.v z.lr (kF z.ld z.v) items->given.Nodup->(∀n∈given,n<z.lr.length)->items.length+given.length+left=z.c ->
 Con E2 102 [.one iv,.one nv,.one mv,.one (.i .i64 (left:Int)),.one (.o (.ptr z.C1 0 0 1)),.one (.o (.ptr z.C2 0 0 1)),.one (.o (.ptr z.C3 0 0 1))] H (SrC z.S r) λq H'=>q=.tup []/\FrQ z X H.nx r (qD z.v z.lr (kF z.ld z.v) z.c z.limit items given found) H'
theorem Tr:ao prog 100=true:=ae
theorem FY:ao prog 102=true:=ae
theorem Ow{z:Sg}(E0:mu z.ld z.lr z.v)(hc:z.c<=3){left:Nat}(W4:xY z left)(X:Nat->Prop)(H:Hp)(iv nv mv F:AC)(items:List Fx)(given:List Nat)(found:List (List Fx))(r:Option Nat)(p to:Int)(rl:Rl)
  (hs:SrS z X H F found r) (hk:Kp z (SrC z.S r) H iv nv mv items given) (hI:cN z.v z.lr (kF z.ld z.v) items) (Q5:given.Nodup) (S':∀n∈given,n<z.lr.length) (S2:items.length+given.length+(left+1)=z.c)
  (hr:rl∈z.lr) (hm:p∈rl.2) (hn:(aY z.v items).getD p.toNat 0=z.v.getD p.toNat 0) (X9:kF z.ld z.v p to≠0):
  Con E2 100 [.one (.i .i64 p),.one (.i .i64 to),.one iv,.one nv,.one mv,.one (.i .i64 ((left+1:Nat):Int)),.one (.o (.ptr z.C2 0 0 1)),.one (.o (.ptr z.C1 0 0 1))] H (SrC z.S r) λq H'=>q=.tup []/\FrQ z X H.nx r (qD z.v z.lr (kF z.ld z.v) z.c z.limit (items++[vI z.v (kF z.ld z.v) p to]) given found) H':=by
 have hI2:=Ro E0.rp hI hr hm hn X9;have C4:=E0.rp.pr rl hr p hm;have hv64:=E0.v64;have U3:items.length<=3:=aa;have hcc2:(items++[vI z.v (kF z.ld z.v) p to]).length+given.length+left=z.c:=by rw[aI,List.length_singleton];omega
 have Y3:aY z.v (items++[vI z.v (kF z.ld z.v) p to])=(aY z.v items).set p.toNat to:=WI to;have Z1:Hd _:=E0.vl;have hlb:left<=3:=aa;replace hn:=hd hn;replace X9:=hd X9;replace S2:=hd S2;replace hcc2:=hd hcc2;replace Y3:=hd Y3;refine Con.of rfl λlg=>?_;have hs:=hs.lg lg;have hk:Kp z (SrC z.S r) ⟨H.t,H.nx,lg⟩ iv nv mv items given:=hk;have e0:H.nx=(⟨H.t,H.nx,lg⟩:Hp).nx:=rfl;rw[e0];clear e0;generalize(⟨H.t,H.nx,lg⟩:Hp)=H at hs hk |-
 refine C1.bdy8 57 [] Tryz.func100 λtm h0 h1 h2 h3 h4 h5 h6 h7=>?_;have M4:=hk.now;refine zG (qA tyR QB) λK hK=>?_;refine WE.con (Mc H nv (aY z.v items) M4.nw (by rw[dH];omega)) λw' H1 g1⟨u0,q0,hw,hf0,j_⟩=>?_;subst hw;have O6:=dH items z.v;rcases hf0 with⟨_,h0,_⟩|⟨rid,lo,gen,hqe,rfl,hrg,L7,u6,O8⟩
 ·omega
 have hrH:H.nx<=rid:=j_ rid hqe;have S4:=putI (acc:=aY z.v items) (a:=to) C4.1 (by rw[dH];exact C4.2);have hle:p.toNat+1<=((aY z.v items).map (AC.i .i64)).length:=by rw[cP,dH];omega
 replace hqe:=hd hqe;replace u6:=hd u6;replace j_:=hd j_;have hxa:p<(aY z.v items).length:=by rw[dH];exact C4.2
 generalize hacc:aY z.v items=acc at *;replace hacc:=hd hacc;replace O6:=hd O6;refine zS tyR ?_;apply hK.out;refine zW (zDf tyR (ixI C4.1 hxa) S4 cr hle) ?_;refine R1.gen (λA2 H2=>Gr H H2/\As H2 (.o (.sl rid gen 0 acc.length 1)) (acc.set p.toNat to) (some rid)/\slot A2.tm 0=.one (.i .i64 (p:Int))/\dm A2 to (eQ A2.tm 2 4 (iv) (mv) (fu A2 (left+1:Nat) (oA A2 6 7 14 (.o (.ptr z.C2 0 0 1)) (.o (.ptr z.C1 0 0 1)) (.o (.sl rid gen 0 acc.length 1)) 57 []))))
  ⟨g1.mod _ (.inl hrH),.inr ⟨rid,gen,gen,rfl,by rw[fl],aq rfl,ai _,by rw[cP,cr],O8⟩,zL⟩ ?_
 clear h0 h1 h2 h3 h4 h5 h6 h7 tm hK K S4 hle hrg O8;rintro A H2 ⟨g2,G0,t0,t1,t2,t4,t5,t6,t7,t14,z0,A0⟩;have L1:=hs.gr g2;have B3:=hk.gr g2;have hkn2:=B3.now;obtain⟨S7,U5⟩:=L1.own;have c1:z.C1<H2.nx:=by have:=L1.clo.n;omega
 have c2:z.C2<H2.nx:=by have:=L1.clo.n;omega
 have G2:=L1.clo.g2;have hwl:IntKind.i64.wrap (((left+1:Nat):Int)-1)=(left:Int):=by rw[gE aa aa];omega
 repeat refine R1.aJ ?_
 refine R1.e_q 31 ae λK hK=>?_;refine zQ (qA tyR Dw) ?_;refine WE.po (AU H2 iv items hkn2.it aa) λw' H3 g3⟨u1,q1,hw,L9,hq1⟩=>?_;subst hw;have s7:=L1.gr g3;have hn23:=g3.nx;obtain⟨C_,hS4⟩:=s7.own;obtain⟨idv,gv,offv,cellsv,U_,T4,V4,e3,e4⟩:=nS L1.dat.now.vi C4.1 C4.2;have htl:p<z.ld.length:=by have:=Z1.out;omega
 obtain⟨idl,gl,offl,cellsl,ul,J8,W7,B7,Y4,f3,f4⟩:=vU L1.dat.now.la C4.1 htl;rw[U_,J8]at U5 hS4;have hgrv3:rowOf (H3.get idv) gv=some cellsv:=by rw[g3.get _ T4 aE];exact V4
 have hgrl3:rowOf (H3.get idl) gl=some cellsl:=by rw[g3.get _ W7 aE];exact B7
 have hidv3:idv<H3.nx:=aa;have hidl3:idl<H3.nx:=aa;have c13:z.C1<H3.nx:=aa;have G13:=s7.clo.g1;replace hq1:=hd hq1;replace L9:=hd L9;replace G0:=hd G0;replace Y4:=hd Y4;replace J8:=hd J8;replace U_:=hd U_;replace hn23:=hd hn23;refine zQ (zDe tyR (ixI C4.1 C4.2) (ixI C4.1 htl) FZ) ?_;refine WE.po (xz E0 H3 p to ul C4.1 C4.2 (Y4.out.gr g3)) λw' H4 g4 hq4=>?_;subst hq4;have hn34:=g4.nx;have hf4:lk H4 u1 items q1:=dA.fr L9.out g4 (λ_ _=>aE);have g24:Gr H2 H4:=g3.gr g4;obtain⟨zz,hz,Q1⟩:=xV;obtain⟨R6,u9,H9,r9,B1,Q7,j5,P7⟩:=gA jb uk hz Q1 aU hf4 [.i .i64 p,.i .i64 (z.v.getD p.toNat 0),.i .i64 to,.i .i64 (kF z.ld z.v p to)] rfl aa;clear hz Q1 zz;have hq1':∀i,q1=some i->H2.nx<=i:=hq1.out;have Q8:FrL H2.nx (H4.new (.arr [.i .i64 p,.i .i64 (z.v.getD p.toNat 0),.i .i64 to,.i .i64 (kF z.ld z.v p to)] 80 0 0)) H9:=FrL.new j5 (by have:=hn23.out;omega) hq1';have g49:Gr H2 H9:=g24.then j5 λi hi=>.inl (hq1' i hi);have L6:lk H9 u9 (items++[vI z.v (kF z.ld z.v) p to]) (some r9):=by show dA _ _ _ _ _ _ _;rw[aI,iX];exact Q7
 have hrw9:As H9 (.o (.sl rid gen 0 acc.length 1)) (aY z.v (items++[vI z.v (kF z.ld z.v) p to])) (some rid):=by rw[Y3.out];exact dA.fr G0.out g49 (λ_ _=>aE)
 have Q9:H2.nx<=r9:=P7.elim (hq1' r9) λh=>by have:=hn23.out;omega
 have hridn:H.nx<=rid:=hrH;have hgH9:Gr H H9:=g2.gr g49;have hs9:=hs.gr hgH9;have hnotX:∀k,H.nx<=k->¬SrC z.S r k:=λk hk hh=>by
  rcases hh with hh|hh
  ·have:=hs.own.1;omega
  have:=hs.rlt k hh;omega
 have hk9:Kp z (SrC z.S r) H9 u9 (.o (.sl rid gen 0 acc.length 1)) mv (items++[vI z.v (kF z.ld z.v) p to]) given:=
  (hk.gr hgH9).own L6 (λk hk=>by cases hk;exact hnotX _ (by have:=g2.nx;omega)) hrw9 λk hk=>by cases hk;exact hnotX _ hridn
 clear j5 P7 Q7 hf4;replace hs9:=hd hs9;replace hk9:=hd hk9;replace hnotX:=hd hnotX;replace L6:=hd L6;replace hrw9:=hd hrw9;replace hq1':=hd hq1';replace Q9:=hd Q9;replace hridn:=hd hridn;replace hgH9:=hd hgH9;replace Q8:=hd Q8;refine zQ (zDd tyR FY jU) ?_;refine⟨R6,Q8.out,?_⟩;refine WE.con (W4 X H9 u9 (.o (.sl rid gen 0 acc.length 1)) mv F (items++[vI z.v (kF z.ld z.v) p to]) given found r hs9.out hk9.out hI2 Q5 S' hcc2.out) λw' H10 f10⟨hw,hq⟩=>?_;subst hw;replace hq:=hd hq;replace f10:=hd f10;refine zQ tyR ?_;apply hK.out;exact⟨_,_,cS (.inl rfl) qe,(Fr.none hgH9.out).then f10.out λk h=>.inr h,λlg'=>⟨rfl,(hq.out.low hgH9.out.nx).lg lg'⟩⟩
theorem vj(n:Nat):∀G:List Nat,atG (jc G) (n:Int)=if n∈G then some (.b true)else none
 |[]=>rfl
 |m::G=>by
  have e:atG (jc (m::G)) (n:Int)=if(m:Int)=(n:Int)then some (.b true)else atG (jc G) (n:Int):=rfl;rw[e,vj n G];by_cases h:m=n
  ·subst h;rw[ad rfl,ad (aT ..)]
  rw[ab aa];by_cases h2:n∈G
  ·rw[ad h2,ad (aR _ h2)]
  rw[ab h2,ab λhh=>(List.mem_cons.1 hh).elim (λe=>h e.symm) h2]
theorem Giv.look{H:Hp}{mv:AC}{G:List Nat}(h:Giv H mv G)(n:Nat):bR prog H 3 (.one (.b false)) (.one mv) (.one (.i .i64 (n:Int))) false=.val (.one (.b (decide (n∈G)))) H:=by
 rcases h with⟨rfl,rfl⟩|⟨id,rfl,_,hm,_⟩
 ·rw[lookup_nil (GJ GK) (k:=(n:Int))];rfl
 rw[Vz GK hm];unfold BN;rw[vj];by_cases hn:n∈G
 ·rw[ad hn,bp hn];rfl
 rw[ab hn,bJ hn];rfl
def Nx(X:Nat->Prop)(H H':Hp):Prop:=H.nx<=H'.nx/\∀i,i<H.nx->¬X i->H'.get i=H.get i
section
variable{X Y:Nat->Prop}{H1 H2 H3:Hp}
def Nx.refl(H:Hp):Nx X H H:=⟨ai _,λ_ _ _=>rfl⟩
def Nx.fr(h:Nx X H1 H2):Fr X H1 ⟨H2.t,H2.nx,H1.log⟩:=⟨h.1,h.2,[],rfl,λ_ h=>by cases h⟩
def Nx.of(h:Fr X H1 H2):Nx X H1 H2:=⟨h.nx,h.get⟩
def Nx.then(h:Nx X H1 H2)(k:Nx Y H2 H3)(hy:∀i,Y i->X i\/H1.nx<=i):Nx X H1 H3:=
 ⟨aS h.1 k.1,λi hi hx=>(k.2 i (ax hi h.1) λhh=>(hy i hh).elim hx aa).trans (h.2 i hi hx)⟩
def Nx.gr(h:Nx X H1 H2)(k:Gr H2 H3):Nx X H1 H3:=h.then (Nx.of k) λ_ h=>h.elim
end
structure Bs(z:Sg)(H1:Hp)(b:Nat)(iv nv mv:AC)(left:Nat)(items:List Fx)(given:List Nat)(r0:Option Nat):Prop where
 kp:Kp z (SrC z.S r0) H1 iv nv mv items given
 b0:H1.get b=some (.arr [iv] 30 0 0)
 b1:H1.get (b+1)=some (.arr [nv] 27 0 0)
 b2:H1.get (b+2)=some (.arr [mv] 194 0 0)
 b3:H1.get (b+3)=some (.arr [.i .i64 (left:Int)] 3 0 0)
 n:b+3<H1.nx
 ne:∀j,b<=j->¬SrC z.S r0 j
 nb:z.N<=b
 I:cN z.v z.lr (kF z.ld z.v) items
 nd:given.Nodup
 gl:∀n∈given,n<z.lr.length
 cc:items.length+given.length+left=z.c
structure Wk(z:Sg)(X:Nat->Prop)(H1:Hp)(r0:Option Nat)(H:Hp)(F:AC)(found:List (List Fx))(r:Option Nat):Prop where
 nx:Nx (SrC z.S r0) H1 H
 st:SrS z X H F found r
 rr:∀k,r=some k->r0=some k\/H1.nx<=k
section
variable{z:Sg}{X:Nat->Prop}{H1 H H':Hp}{b:Nat}{iv nv mv F:AC}{left:Nat}{items:List Fx}{given:List Nat}{r0 r:Option Nat}{found:List (List Fx)}
def Wk.gr(h:Wk z X H1 r0 H F found r)(g:Gr H H'):Wk z X H1 r0 H' F found r:=⟨h.nx.gr g,h.st.gr g,h.rr⟩
structure BxF(H:Hp)(b:Nat)(iv nv mv:AC)(left:Nat):Prop where
 b0:H.get b=some (.arr [iv] 30 0 0)
 b1:H.get (b+1)=some (.arr [nv] 27 0 0)
 b2:H.get (b+2)=some (.arr [mv] 194 0 0)
 b3:H.get (b+3)=some (.arr [.i .i64 (left:Int)] 3 0 0)
 n:(b<H.nx/\b+1<H.nx)/\b+2<H.nx/\b+3<H.nx
def Bs.box(h:Bs z H1 b iv nv mv left items given r0)(k:Nx (SrC z.S r0) H1 H):BxF H b iv nv mv left:=by have hn:=h.n;have hk:=k.1;exact⟨(k.2 _ aa (h.ne _ aa)).trans h.b0,(k.2 _ aa (h.ne _ aa)).trans h.b1,(k.2 _ aa (h.ne _ aa)).trans h.b2,(k.2 _ aa (h.ne _ aa)).trans h.b3,aa⟩
def Bs.now(h:Bs z H1 b iv nv mv left items given r0)(k:Nx (SrC z.S r0) H1 H):KpF z H iv nv mv items given:=h.kp H k.1 k.2
def Bs.kpn(h:Bs z H1 b iv nv mv left items given r0)(k:Nx (SrC z.S r0) H1 H)(hr:∀j,r=some j->r0=some j\/H1.nx<=j):Kp z (SrC z.S r) H iv nv mv items given:=λH2 n g=>
 h.kp H2 (aS k.1 n) λi hi hx=>(g i (ax hi k.1) λhh=>by
  rcases hh with hh|hh
  ·exact hx (.inl hh)
  exact(hr i hh).elim (λh=>hx (.inr h)) aa).trans (k.2 i hi hx)
def Wk.call(h:Wk z X H1 r0 H F found r)(f:Fr (SrC z.S r) H H'){P:List (List Fx)->Prop}(q:FrQ z X H.nx r P H'):∃F' r' found',Wk z X H1 r0 H' F' found' r'/\P found':=by obtain⟨F',r',found',h1,h2,h3⟩:=q;have hn:=h.nx.1;exact⟨F',r',found',⟨h.nx.then (Nx.of f) λi hi=>hi.elim (λe=>.inl (.inl e)) λe=>(h.rr i e).imp .inr id,h1,λk hk=>(h2 k hk).elim (h.rr k) λh4=>.inr (aS hn h4)⟩,h3⟩
end
def wI(w:Option Nat):Int:=match w with|some n=>(n:Int)|none=>-1
def aax(z:Sg)(items:List Fx)(given:List Nat)(w:Option Nat):Prop:=match w with|none=>∀n,n∉given->¬ny z.v z.lr (aY z.v items) n|some n=>n∉given/\∃r,z.lr[n]?=some r/\bN (aY z.v items) 0 r.2≠z.v.getD r.1.toNat 0
theorem srch{c:Code}(hc:atF Tryz.f102 [1,0,1,1,1,0,1]=some c){z:Sg}(E0:mu z.ld z.lr z.v){X:Nat->Prop}{H1:Hp}{b:Nat}{iv nv mv F:AC}{left:Nat}{items:List Fx}{given:List Nat}{r0 r:Option Nat}{found:List (List Fx)}{rn:Option Nat}{H:Hp}{A:ag}{K:au->ag->Hp->Prop}
  (hB:Bs z H1 b iv nv mv left items given r0) (hW:Wk z X H1 r0 H F found r)
  (hs:slot A.tm 4=.one (.o (.ptr z.C1 0 0 1))/\slot A.tm 5=.one (.o (.ptr z.C2 0 0 1))/\slot A.tm 6=.one (.o (.ptr z.C3 0 0 1))/\slot A.tm 7=.one (.o (.ptr b 0 0 1))/\slot A.tm 8=.one (.o (.ptr (b+1) 0 0 1))/\slot A.tm 9=.one (.o (.ptr (b+2) 0 0 1))/\slot A.tm 10=.one (.o (.ptr (b+3) 0 0 1)) /\
   slot A.tm 11=.one (.i .i64 (-1))/\slot A.tm 43=.one z.pr/\slot A.tm 44=.one (.i .i64 (z.lr.length:Int))/\slot A.tm 45=.one (.i .i64 0)/\A.nt=228/\A.dfr=[])
  (hK:∀(A2:ag)(H2:Hp)(w:Option Nat),Gr H H2->aax z items given w->slot A2.tm 4=.one (.o (.ptr z.C1 0 0 1))/\slot A2.tm 5=.one (.o (.ptr z.C2 0 0 1))/\slot A2.tm 6=.one (.o (.ptr z.C3 0 0 1))/\slot A2.tm 7=.one (.o (.ptr b 0 0 1))/\slot A2.tm 8=.one (.o (.ptr (b+1) 0 0 1))/\slot A2.tm 9=.one (.o (.ptr (b+2) 0 0 1))/\slot A2.tm 10=.one (.o (.ptr (b+3) 0 0 1)) /\
   slot A2.tm 11=.one (.i .i64 (wI w))/\A2.nt=228/\A2.dfr=[]->K .normal A2 H2):R1 E2 none c A H K:=by
 cases hc
 obtain⟨t4,t5,t6,t7,t8,t9,t10,t11,t43,t44,t45,z0,A0⟩:=hs;replace hK:=hd hK;replace hB:=hd hB;replace hW:=hd hW;refine R1.mD λK1 k1 k2 k3 k4=>?_;refine R1.loop (λm A H2=>∃i:Nat,m=z.lr.length-i/\i<=z.lr.length/\Gr H H2/\Hd (∀n,n<i->n∉given->¬ny z.v z.lr (aY z.v items) n)/\dR A z.C1 z.C2 z.C3 b (b+1) (b+2) (b+3) (-1) (oA A 43 44 45 (z.pr) (.i .i64 (z.lr.length:Int)) (.i .i64 (i:Int)) 228 [])) ?_ z.lr.length
  ⟨0,rfl,Nat.zero_le _,Fr.refl _,λn h=>absurd h (Nat.not_lt_zero n),t4,t5,t6,t7,t8,t9,t10,t11,t43,t44,t45,z0,A0⟩
 clear t4 t5 t6 t7 t8 t9 t10 t11 t43 t44 t45 z0 A0 A;rintro m A H2 ⟨i,rfl,hil2,g2,E4,t4,t5,t6,t7,t8,t9,t10,t11,t43,t44,t45,z0,A0⟩;have W8:=hW.out.gr g2;have hD2:=W8.st.dat.now;have p1:=hD2.rl.len;have p3:=hD2.rl.lt;have hr64:=E0.r64;refine zW tyR ?_;refine zI tyR (λM9=>?_) (λM9=>?_)
 ·have B0:i<z.lr.length:=aa;have ex:=aA B0;have M0:=List.drop_eq_getElem_cons B0;have Y1:=cK B0;have D0:=bW B0;generalize z.lr[i]=x at ex M0 Y1 D0;have X1:=bB i;have G6:=E0.rp.tr x D0;have hpr:=E0.rp.pr x D0;have G9:=E0.rp.pl x D0;obtain⟨idr,g,off,cells,Y8,hid,W0,J0⟩:=hD2.rl.open aa;obtain⟨u1,O0⟩:=J0 i x ex;obtain⟨J2,y1,y2,_,_,_,_⟩:=O0;clear J0 Y1 D0 M0;rw[Y8]at t43 p1 p3;replace Y8:=hd Y8;replace ex:=hd ex;replace W8:=hd W8;replace hD2:=hd hD2;refine zW tyR ?_;refine R1.dL λK2 q1 q2 q3 q4=>?_;refine zG (qA tyR (ixC B0)) λK hK'=>?_;apply hK'.out;refine R1.gen (λA4 H4=>Gr H2 H4/\H2.nx<H4.nx/\H4.get H2.nx=some (.arr [.i .i64 x.1,u1] 82 0 0)/\dR A4 z.C1 z.C2 z.C3 b (b+1) (b+2) (b+3) (-1) (ng A4 i (xe A4 13 43 44 45 (.o (.ptr H2.nx 0 0 2)) (.o (.sl idr g off z.lr.length 2)) (.i .i64 (z.lr.length:Int)) (.i .i64 (i:Int)) 228 [])))
   ⟨((Fr.refl _).new _).mod _ (.inl (ai _)),ba _,aq rfl,zL⟩ ?_
  clear t4 t5 t6 t7 t8 t9 t10 t11 t43 t44 t45 z0 A0 A hid W0 y1 y2 hK' K p1 p3;rintro A H4 ⟨g4,n4,rx,t4,t5,t6,t7,t8,t9,t10,t11,t12,t13,t43,t44,t45,z0,A0⟩;have g24:=g2.gr g4;have X2:=hW.out.gr g24;obtain⟨x0,x1,x2,x3,⟨m0,m1⟩,m2,m3⟩:=hB.out.box X2.nx;have hkp:=hB.out.now X2.nx;have G4:=hkp.gv.look i;have hmv:=hkp.gv.lt;have hcn:=X2.st.clo.n;have c1:z.C1<H4.nx:=aa;obtain⟨S7,U5⟩:=X2.st.own;clear hcn x0 x3 m0 m3;by_cases hgi:i∈given
  ·rw[bp hgi]at G4;have Z8:Hd (∀n,n<i+1->n∉given->¬ny z.v z.lr (aY z.v items) n):=λn hn hg=>by
    rcases cL n i with h|h
    ·exact E4.out n h hg
    have:n=i:=aa;subst this;exact absurd hgi hg
   replace hgi:=hd hgi;replace hkp:=hd hkp;replace X2:=hd X2;refine zO (qA tyR jO) λK hK'=>?_;apply hK'.out;refine R1.lq (λA5=>dR A5 z.C1 z.C2 z.C3 b (b+1) (b+2) (b+3) (-1) (xe A5 43 44 45 67 (.o (.sl idr g off z.lr.length 2)) (.i .i64 (z.lr.length:Int)) (.i .i64 (i:Int)) (.b false) 228 [])) zL ?_;clear t4 t5 t6 t7 t8 t9 t10 t11 t12 t13 t43 t44 t45 z0 A0 A hK' K;rintro A ⟨t4,t5,t6,t7,t8,t9,t10,t11,t43,t44,t45,t67,z0,A0⟩;rw[<-Y8.out]at t43;refine zW tyR ?_;apply q1.out;refine zW tyR ?_;exact⟨z.lr.length-(i+1),aa,i+1,rfl,B0,g24,Z8,zL⟩
  rw[bJ hgi]at G4;replace hgi:=hd hgi;replace hkp:=hd hkp;replace X2:=hd X2;refine zO (zDd tyR jO AL) λK hK'=>?_;refine WE.po (xL H4 u1 nv x.1 x.2 (aY z.v items) ((J2.gr g4)) hkp.out.nw (by rw[dH];exact hpr) aa) λw' H5 g5 v_=>?_;subst v_;have S8:=X2.out.gr g5;have hn45:=g5.nx;generalize Z2:bN (aY z.v items) 0 x.2=n;obtain⟨C_,hS4⟩:=S8.st.own;obtain⟨idv,gv,offv,cellsv,U_,T4,V4,e3,e4⟩:=nS X2.out.st.dat.now.vi G6.1 G6.2;have hgrv5:rowOf (H5.get idv) gv=some cellsv:=by rw[g5.get _ T4 aE];exact V4
  have hidv5:idv<H5.nx:=aa;have c15:z.C1<H5.nx:=aa;have G15:=S8.st.clo.g1;have rx5:=(g5.get _ n4 aE).trans rx;have n45:H2.nx<H5.nx:=aa;rw[U_]at hS4 U5;replace U_:=hd U_;replace hn45:=hd hn45;replace S8:=hd S8;by_cases e:n=z.v.getD x.1.toNat 0
  ·have ce:=beq_iff_eq.2 e;have Z8:Hd (∀n,n<i+1->n∉given->¬ny z.v z.lr (aY z.v items) n):=λm hm hg=>by
    rcases cL m i with h|h
    ·exact E4.out m h hg
    have:m=i:=aa;subst this;rintro⟨r',h1,h2⟩;rw[ex.out]at h1;cases h1
    exact h2 (Z2.trans e)
   replace e:=hd e;replace Z2:=hd Z2;refine zQ (zDd tyR jO (ixI G6.1 G6.2)) ?_;apply hK'.out;refine R1.lq (λA5=>dR A5 z.C1 z.C2 z.C3 b (b+1) (b+2) (b+3) (-1) (xe A5 43 44 45 67 (.o (.sl idr g off z.lr.length 2)) (.i .i64 (z.lr.length:Int)) (.i .i64 (i:Int)) (.b false) 228 [])) zL ?_;clear t4 t5 t6 t7 t8 t9 t10 t11 t12 t13 t43 t44 t45 z0 A0 A hK' K;rintro A ⟨t4,t5,t6,t7,t8,t9,t10,t11,t43,t44,t45,t67,z0,A0⟩;rw[<-Y8.out]at t43;refine zW tyR ?_;apply q1.out;refine zW tyR ?_;exact⟨z.lr.length-(i+1),aa,i+1,rfl,B0,g24.gr g5,Z8,zL⟩
  have ce:(n==z.v.getD x.1.toNat 0)=false:=aF e;have O3:Hd (aax z items given (some i)):=⟨hgi.out,x,ex.out,λh=>e (Z2.symm.trans h)⟩;replace e:=hd e;replace Z2:=hd Z2;refine zQ (zDd tyR jO (ixI G6.1 G6.2)) ?_;apply hK'.out;refine R1.lq (λA5=>dR A5 z.C1 z.C2 z.C3 b (b+1) (b+2) (b+3) (-1) (ng A5 i (eO A5 67 (.b true) 228 []))) zL ?_;clear t4 t5 t6 t7 t8 t9 t10 t11 t12 t13 t43 t44 t45 z0 A0 A hK' K;rintro A ⟨t4,t5,t6,t7,t8,t9,t10,t11,t12,t67,z0,A0⟩;refine zW tyR ?_;refine q3.out _ _ _ aU ?_;apply k2.out;exact hK.out _ _ (some i) (g24.gr g5) O3.out zL
 have O3:Hd (aax z items given none):=λn hg hw=>by obtain⟨r',h1,h2⟩:=hw;have:=(List.getElem?_eq_some_iff.1 h1).1;exact E4.out n aa hg ⟨r',h1,h2⟩
 refine zW tyR ?_;apply k2.out;exact hK.out _ _ none g2 O3.out zL
abbrev kvI:Int->AV:=λx=>.one (.i .i64 x)
theorem FX{x:Int}(hx:x<0):∀G:List Nat,atG (jc G) x=none
 |[]=>rfl
 |m::G=>by have e:atG (jc (m::G)) x=if(m:Int)=x then some (.b true)else atG (jc G) x:=rfl;rw[e,ab aa,FX hx G]
theorem EF{G G':List Nat}(h:∀m,m∈G↔m∈G'):BN G=BN G':=funext λx=>by
 unfold BN;rcases Int.lt_or_le x 0 with hx|hx
 ·rw[FX hx,FX hx]
 obtain⟨m,rfl⟩:=jL hx;rw[vj,vj];by_cases hm:m∈G
 ·rw[ad hm,ad ((h m).1 hm)]
 rw[ab hm,ab λhh=>hm ((h m).2 hh)]
theorem acI{G:List Nat}{m:Nat}(h:m∉G):uJ (jc G) (m:Int) (.b true)=jc (G++[m]):=by rw[Lr (by rw[vj,ab h])];unfold jc;rw[List.map_append];rfl
theorem Yr{G:List Nat}{i:Nat}{p:Int×AC}(h:(jc G)[i]?=some p):∃m,G[i]?=some m/\p=((m:Int),.b true):=by
 unfold jc at h;rw[pV]at h;cases hg:G[i]? with
 |none=>rw[hg]at h;cases h
 |some m=>rw[hg]at h;exact⟨m,rfl,(eh h).symm⟩
theorem RI{l:List Nat}{n:Nat}(h:l.Nodup)(hb:∀i∈l,i<n):l.length<=n:=by have:=sD (l₁:=l) (l₂:=List.range n) h λi hi=>List.mem_range.2 (hb i hi);rw[wX]at this;exact this
theorem SD{id:Nat}{Q:au->ag->Hp->Prop}{A:ag}{H:Hp}(h:Q .normal A H):InB id Q (.exit id) A H:=by show(if id=id then Q .normal A H else Q (.exit id) A H);rw[ad rfl];exact h
structure CpQ(H:Hp)(M I n:Nat)(given:List Nat)(H2:Hp):Prop where
 nx:H2.nx=H.nx
 get:∀i,i≠M->i≠I->H2.get i=H.get i
 it:∃x,H2.get I=some (.oth x)
 mp:∃G,H2.get M=some (lz kvI (jc G))/\(∀m,m∈G↔m=n\/m∈given)/\(given.length<=1->G=n::given)
 log:∃l,H2.log=l++H.log/\∀k∈l,k=M\/k=I
theorem blk2{c:Code}(hc:atF Tryz.f102 [1,0,1,1,1,1,1,1,0,1,0,1,0,1]=some c){z:Sg}{b n M I:Nat}{given:List Nat}{H:Hp}{A:ag}{mv:AC}{K:au->ag->Hp->Prop}
  (hg:(mv=.o .nilM/\given=[]/\H.get I=some (.oth (.iter none 0 [] 0)))\/∃id,mv=.o (.mp id)/\id≠M/\id≠I/\H.get id=some (lz kvI (jc given))/\H.get I=some (qk id given.length []))
  (Q5:given.Nodup) (hn:n∉given) (hM:H.get M=some (lz kvI (jc [n]))) (hMI:M≠I) (hMn:M<H.nx) (hIn:I<H.nx)
  (hs:dR A z.C1 z.C2 z.C3 b (b+1) (b+2) (b+3) n (nu A 14 84 (.o (.mp M)) (.o (.it I)) 228 []))
  (hK:∀(A2:ag)(H2:Hp),Fr (λk=>k=M\/k=I) H H2->tZ H2 M (BN (n::given))->(given.length<=1->H2.get M=some (lz kvI (jc (n::given))))->dR A2 z.C1 z.C2 z.C3 b (b+1) (b+2) (b+3) n (eO A2 14 (.o (.mp M)) 228 [])->K .normal A2 H2):R1 E2 none c A H K:=by
 cases hc
 refine R1.aaL (nt:=228) (df:=[]) (λA2 H2=>(abL A2.tm 4 5 6 7 8 9 10 11 14 (.o (.ptr z.C1 0 0 1)) (.o (.ptr z.C2 0 0 1)) (.o (.ptr z.C3 0 0 1)) (.o (.ptr b 0 0 1)) (.o (.ptr (b+1) 0 0 1)) (.o (.ptr (b+2) 0 0 1)) (.o (.ptr (b+3) 0 0 1)) (.i .i64 (n:Int)) (.o (.mp M)))/\CpQ H M I n given H2) rfl ?_ ?_ ?_
 ·refine RA.mono (Q:=λe A' H'=>e=.exit 2/\CpQ H M I n given H'/\dR A' z.C1 z.C2 z.C3 b (b+1) (b+2) (b+3) n (eO A' 14 (.o (.mp M)) 228 [])) ?_ λe A' H' hq=>?_;rotate_left
  ·obtain⟨rfl,h0,h1,h2,h3,h4,h5,h6,h7,h8,h9,h10,h11⟩:=hq;refine SD ?_;exact⟨rfl,h10,h11,⟨h1,h2,h3,h4,h5,h6,h7,h8,h9⟩,h0⟩
  clear hK;obtain⟨t4,t5,t6,t7,t8,t9,t10,t11,t14,t84,z0,A0⟩:=hs;rcases hg with⟨rfl,rfl,Q4⟩|⟨id,rfl,hidM,hidI,hmp,Q4⟩
  ·have hov:ib H (.one (.o (.it I)))=.val qq H:=VJ Q4;refine RA.round ?_;refine RA.seq ?_;refine RA.region ?_;refine OA.val (v:=qq) (H':=H) (λ_ _=>rfl) (by rw[z0];rfl) (by show ib H (slot A.tm 84)=_;rw[t84];exact hov) ?_;refine OA.val (v:=.one (.b false)) (H':=H) (λ_ _=>rfl) (by rw[bq,z0];rfl) (by show eI H (slot (cU A (some 85) qq).tm 85) 0=_;simp only[ak,reduceIte];rfl) ?_;refine OA.nil ?_;refine RA.seq ?_;refine RA.cond (b:=false) (by show slot (cU (cU A (some 85) qq) (some 86) (.one (.b false))).tm 86=_;simp only[ak,reduceIte]) ?_;refine RA.exit ?_;exact⟨rfl,⟨rfl,λ_ _ _=>rfl,⟨_,Q4⟩,⟨[n],hM,λm=>by simp,λ_=>rfl⟩,⟨[],rfl,λ_ h=>by cases h⟩⟩,zL⟩
  refine RA.loop (λk A H8=>∃(seen picked:List Nat),k=given.length-seen.length/\seen.Nodup/\(∀i∈seen,i<given.length)/\(∀m,m∈picked↔∃i∈seen,given[i]?=some m)/\(given.length<=1->picked=seen.map λi=>given.getD i 0)/\H8.nx=H.nx/\(∀i,i≠M->i≠I->H8.get i=H.get i)/\H8.get I=some (qk id given.length seen)/\H8.get M=some (lz kvI (jc (n::picked)))/\(∃l,H8.log=l++H.log/\∀k∈l,k=M\/k=I)/\dR A z.C1 z.C2 z.C3 b (b+1) (b+2) (b+3) n (nu A 14 84 (.o (.mp M)) (.o (.it I)) 228 [])) ?_ given.length
   ⟨[],[],rfl,List.nodup_nil,λ_ h=>absurd h List.not_mem_nil,λm=>⟨λh=>absurd h List.not_mem_nil,λ⟨i,hi,_⟩=>absurd hi List.not_mem_nil⟩,λ_=>rfl,rfl,λ_ _ _=>rfl,Q4,hM,⟨[],rfl,λ_ h=>by cases h⟩,t4,t5,t6,t7,t8,t9,t10,t11,t14,t84,z0,A0⟩
  clear t4 t5 t6 t7 t8 t9 t10 t11 t14 t84 z0 A0 A Q4 hM;rintro k A H8 ⟨seen,picked,rfl,snd,sbd,hpk,hex,n8,g8,Q4,hM8,hlog,t4,t5,t6,t7,t8,t9,t10,t11,t14,t84,z0,A0⟩;have hmp8:H8.get id=some (lz kvI (jc given)):=(g8 id hidM hidI).trans hmp;have hel:(jc given).length=given.length:=cP ..;rw[<-hel]at Q4;refine RA.seq ?_;by_cases V2:∀i,i<given.length->i∈seen
  ·have hov:ib H8 (.one (.o (.it I)))=.val qq H8:=RD Q4 hmp8 λi hi=>V2 i (by rwa [hel]at hi);refine RA.region ?_;refine OA.val (v:=qq) (H':=H8) (λ_ _=>rfl) (by rw[z0];rfl) (by show ib H8 (slot A.tm 84)=_;rw[t84];exact hov) ?_;refine OA.val (v:=.one (.b false)) (H':=H8) (λ_ _=>rfl) (by rw[bq,z0];rfl) (by show eI H8 (slot (cU A (some 85) qq).tm 85) 0=_;simp only[ak,reduceIte];rfl) ?_;refine OA.nil ?_;refine RA.seq ?_;refine RA.cond (b:=false) (by show slot (cU (cU A (some 85) qq) (some 86) (.one (.b false))).tm 86=_;simp only[ak,reduceIte]) ?_;refine RA.exit ?_;have hmm:∀m,m∈picked↔m∈given:=λm=>by
    rw[hpk];constructor
    ·rintro⟨i,_,h⟩;exact gN h
    intro h;obtain⟨i,hi⟩:=List.mem_iff_getElem?.1 h;exact⟨i,V2 i (List.getElem?_eq_some_iff.1 hi).1,hi⟩
   refine⟨rfl,⟨n8,g8,⟨_,Q4⟩,⟨n::picked,hM8,λm=>by rw[List.mem_cons,hmm],λhl=>?_⟩,hlog⟩,zL⟩;rw[hex hl];congr 1
   cases given with
   |nil=>
    cases seen with
    |nil=>rfl
    |cons a l=>have:=sbd a (aT ..);cases this
   |cons g gs=>
    cases gs with
    |cons g2 gs=>simp at hl
    |nil=>
     cases seen with
     |nil=>exact absurd (V2 0 (by simp)) List.not_mem_nil
     |cons a l=>
      have ha:a=0:=by have:=sbd a (aT ..);simp at this;exact this
      subst ha;cases l with
      |nil=>rfl
      |cons a2 l=>
       have R8:a2=0:=by have:=sbd a2 (aR _ (aT ..));simp at this;exact this
       subst R8;exact absurd (aT ..) (List.nodup_cons.1 snd).1
  obtain⟨i0,A6,hi0s⟩:∃i,i<given.length/\i∉seen:=fL λhn=>V2 λi hi=>fL λh=>hn ⟨i,hi,h⟩;obtain⟨ws,hws,Q0,hall2⟩:=RE (kv:=kvI) Q4 hmp8 ⟨i0,by rw[hel];exact A6,hi0s⟩;refine RA.region ?_;refine OA.tN (vs:=ws) (λ_ _=>rfl) (by rw[z0];rfl) (by show ib H8 (slot A.tm 84)=_;rw[t84];exact hws) Q0 λx hx=>?_;obtain⟨i,pe,hp,hni,rfl⟩:=hall2 x hx;obtain⟨m,hm,rfl⟩:=Yr hp;refine OA.val (v:=.one (.b true)) (H':=H8.mod I (qk id (jc given).length (seen++[i]))) (λ_ _=>rfl) (by rw[bq,z0];rfl) (by show eI _ (slot (cU A (some 85) _).tm 85) 0=_;simp only[ak,reduceIte];rfl) ?_;refine OA.nil ?_;refine RA.seq ?_;refine RA.cond (b:=true) (by show slot (cU (cU A (some 85) _) (some 86) (.one (.b true))).tm 86=_;simp only[ak,reduceIte]) ?_;refine RA.skip ?_;refine RA.of ?_;have hilt:i<given.length:=(List.getElem?_eq_some_iff.1 hm).1;have snd2:(seen++[i]).Nodup:=List.pairwise_append.2 ⟨snd,List.pairwise_singleton _ _,λa ha b hb e=>hni (by rw[<-List.mem_singleton.1 hb,<-e];exact ha)⟩;have sbd2:∀q∈seen++[i],q<given.length:=λq hq=>by
   rcases List.mem_append.1 hq with hq|hq
   ·exact sbd q hq
   rw[List.mem_singleton.1 hq];exact hilt
  have hle2:=RI snd2 sbd2;rw[aI,List.length_singleton]at hle2;have hpk2:∀y,y∈picked++[m]↔∃q∈seen++[i],given[q]?=some y:=λy=>by
   rw[iU,hpk];constructor
   ·rintro(⟨q,hq,e⟩|hz)
    ·exact⟨q,dC _ hq,e⟩
    rw[List.mem_singleton.1 hz];exact⟨i,du _ (List.mem_singleton.2 rfl),hm⟩
   rintro⟨q,hq,e⟩;rcases List.mem_append.1 hq with hq|hq
   ·exact .inl ⟨q,hq,e⟩
   rw[List.mem_singleton.1 hq,hm]at e;exact .inr (List.mem_singleton.2 (eh e).symm)
  have hex2:given.length<=1->picked++[m]=(seen++[i]).map λi=>given.getD i 0:=λhl=>by rw[hex hl,List.map_append];show _=_++[given.getD i 0];rw[bt,hm];rfl
  have hmp2:m∉n::picked:=λh=>by
   rcases List.mem_cons.1 h with h|h
   ·subst h;exact hn (gN hm)
   obtain⟨q,hq,e⟩:=(hpk m).1 h;have hqi:q≠i:=λe=>hni (by rw[<-e];exact hq);obtain⟨l1,e1⟩:=List.getElem?_eq_some_iff.1 e;obtain⟨l2,e2⟩:=List.getElem?_eq_some_iff.1 hm;exact hqi ((List.getElem_inj (h₀:=l1) (h₁:=l2) Q5).1 (e1.trans e2.symm))
  obtain⟨lg,elg,flg⟩:=hlog;refine R1.gen (λA9 H9=>H9.nx=H.nx/\(∀i,i≠M->i≠I->H9.get i=H.get i)/\H9.get I=some (qk id (jc given).length (seen++[i]))/\H9.get M=some (lz kvI (jc (n::picked)))/\(∃l,H9.log=l++H.log/\∀k∈l,k=M\/k=I)/\dR A9 z.C1 z.C2 z.C3 b (b+1) (b+2) (b+3) n (nu A9 14 84 (.o (.mp M)) (.o (.it I)) 228 []))
   ⟨n8,λq q1 q2=>(aB q2).trans (g8 q q1 q2),aq rfl,(aB hMI).trans hM8,⟨I::lg,congrArg (I::·) elg,λk hk=>(List.mem_cons.1 hk).elim .inr (flg k)⟩,zL⟩ ?_
  clear t4 t5 t6 t7 t8 t9 t10 t11 t14 t84 z0 A0 A hws Q0 hall2 hx Q4 hM8 g8 n8 hmp8 V2 A6 hi0s ws flg elg lg H8;rintro A H9 ⟨n9,g9,hit9,hM9,⟨lg,elg,flg⟩,t4,t5,t6,t7,t8,t9,t10,t11,t14,t84,z0,A0⟩;have hmp9:H9.get id=some (lz kvI (jc given)):=(g9 id hidM hidI).trans hmp;have hent:kD H9 (.one (.o (.it I)))=.val (.tup [(false,[.i .i64 (m:Int)]),(false,[.b true])]) H9:=Ys hit9 hmp9 hp;have hup:bE prog H9 3 (.one (.o (.mp M))) (.one (.i .i64 (m:Int))) (.one (.b true))=.val aQ (H9.mod M (lz kvI (jc (n::picked++[m])))):=by rw[Ls (GJ GK) (k:=(m:Int)) (x:=.b true) hM9,acI hmp2]
  have hM9n:M<H9.nx:=aa;replace n9:=hd n9;replace g9:=hd g9;replace hit9:=hd hit9;replace hM9:=hd hM9;replace elg:=hd elg;replace flg:=hd flg;replace hm:=hd hm;replace hp:=hd hp;replace hmp:=hd hmp;replace hmp9:=hd hmp9;replace hmp2:=hd hmp2;replace hex:=hd hex;replace hex2:=hd hex2;replace hpk:=hd hpk;replace hpk2:=hd hpk2;replace hel:=hd hel;replace hn:=hd hn;refine R1.mD λK3 q1 q2 q3 q4=>?_;refine zW (zDe tyR (@SP) hent hup) ?_;apply q1.out;exact⟨given.length-(seen++[i]).length,by rw[aI,List.length_singleton];omega,seen++[i],picked++[m],rfl,snd2,sbd2,hpk2.out,hex2.out,n9.out,λq q1 q2=>(aB q1).trans (g9.out q q1 q2),by rw[<-hel.out];exact(aB hMI.symm).trans hit9.out,aq rfl,⟨M::lg,congrArg (M::·) elg.out,λk hk=>(List.mem_cons.1 hk).elim .inl (flg.out k)⟩,zL⟩
 ·intro i hi;by_cases h1:i=M
  ·subst h1;refine .inr (.inl ⟨BN (n::given),λA2 H2 hp=>?_⟩);obtain⟨G,a1,a2,_⟩:=hp.2.mp;refine⟨_,_,_,a1,px 0 _,λx=>?_⟩;rw[sZ];exact congrFun (EF λm=>by rw[a2,List.mem_cons]) x
  by_cases h2:i=I
  ·subst h2;exact .inr (.inr λA2 H2 hp=>hp.2.it)
  exact .inl ⟨H.get i,λA2 H2 hp=>hp.2.get i h1 h2⟩
 intro A' H' j;have S0:H.nx<=H'.nx:=j.nx λA2 H2 hp=>mZ hp.2.nx.symm;refine hK A' H' ⟨S0,λi hi hx=>j.old i _ hi λA2 H2 hp=>⟨mZ hp.2.nx.symm,hp.2.get i (λe=>hx (.inl e)) λe=>hx (.inr e)⟩,j.log _ (λi hi hx=>⟨H.get i,λA2 H2 hp=>hp.2.get i (λe=>hx (.inl e)) λe=>hx (.inr e)⟩) λA2 H2 hp=>?_⟩ ?_ ?_ ?_
 ·obtain⟨l,e,f⟩:=hp.2.log;exact⟨l,e,λk hk=>.inr (f k hk)⟩
 ·refine j.map M _ hMn λA2 H2 hp=>⟨mZ hp.2.nx.symm,?_⟩;obtain⟨G,a1,a2,_⟩:=hp.2.mp;refine⟨_,_,_,a1,px 0 _,λx=>?_⟩;rw[sZ];exact congrFun (EF λm=>by rw[a2,List.mem_cons]) x
 ·intro hl;refine j.old M _ hMn λA2 H2 hp=>⟨mZ hp.2.nx.symm,?_⟩;obtain⟨G,a1,_,a3⟩:=hp.2.mp;rw[a1,a3 hl]
 refine⟨j.slot 4 _ aa λA2 H2 hp=>hp.1.1,j.slot 5 _ aa λA2 H2 hp=>hp.1.2.1,j.slot 6 _ aa λA2 H2 hp=>hp.1.2.2.1,j.slot 7 _ aa λA2 H2 hp=>hp.1.2.2.2.1,j.slot 8 _ aa λA2 H2 hp=>hp.1.2.2.2.2.1,j.slot 9 _ aa λA2 H2 hp=>hp.1.2.2.2.2.2.1,j.slot 10 _ aa λA2 H2 hp=>hp.1.2.2.2.2.2.2.1,j.slot 11 _ aa λA2 H2 hp=>hp.1.2.2.2.2.2.2.2.1,j.slot 14 _ aa λA2 H2 hp=>hp.1.2.2.2.2.2.2.2.2,j.ntE,j.dfr⟩
abbrev LpZ(z:Sg)(items:List Fx)(given:List Nat)(f0 f1:List (List Fx))(due:List Fx->List Fx->Prop):Prop:=Lp z.v z.lr (kF z.ld z.v) z.c z.limit items given f0 f1 due
abbrev tP(z:Sg)(items:List Fx)(given:List Nat)(w:Option Nat)(i:Nat):List Fx->List Fx->Prop:=FO z.v z.lr (kF z.ld z.v) z.c items given w i
abbrev SH(z:Sg)(I T items rest:List Fx)(given:List Nat):Prop:=fB z.v z.lr (kF z.ld z.v) z.c I T items rest given
theorem Qu{st:Bool}{E:Env}{A:ag}{H:Hp}{next:ag->Hp->Prop}{d:Option Tmp}{ty:TypeId}{pos:String}{af:Array Edge}{gd:Option (Nat×Bool)}{t:TypeId}{m k x:Operand}:
  SK st E ⟨d,.insert t m k x,ty,pos,af,gd⟩ A H next=(True/\upN next A d E.P H (kg E.P t) (ev A.tm m) (ev A.tm k) (ev A.tm x)):=by
 show(True/\gY _ ((ndF (kg E.P t) _ _).run A.tm H))=_;rw[ef];rfl
theorem tZ.same{H H':Hp}{id:Nat}{look:Int->Option AV}(h:tZ H id look)(e:H'.get id=H.get id):tZ H' id look:=by unfold tZ;rw[e];exact h
theorem acj{c:Code}(hc:atF Tryz.f102 [1,0,1,1,1,1,1,1,0,1,0]=some c){z:Sg}{X:Nat->Prop}{H1:Hp}{b l n:Nat}{iv nv mv F:AC}{items:List Fx}{given:List Nat}{r0 r:Option Nat}{f0 found:List (List Fx)}{H:Hp}{A:ag}{K:au->ag->Hp->Prop}
  (V8:z.c<=3) (hB:Bs z H1 b iv nv mv (l+1) items given r0) (hW:Wk z X H1 r0 H F found r) (W4:xY z l) (hn:n∉given) (P8:n<z.lr.length)
  (hL:LpZ z items given f0 found λI T=>(∃rest,SH z I T items rest (n::given))\/tP z items given (some n) 0 I T)
  (hs:dR A z.C1 z.C2 z.C3 b (b+1) (b+2) (b+3) n (A.nt=228/\A.dfr=[]))
  (hK:∀(A2:ag)(H2:Hp)(F':AC)(r':Option Nat)(found':List (List Fx)),Fr (SrC z.S r) H H2->Wk z X H1 r0 H2 F' found' r'->LpZ z items given f0 found' (tP z items given (some n) 0)->dR A2 z.C1 z.C2 z.C3 b (b+1) (b+2) (b+3) n (A2.nt=228/\A2.dfr=[])->K .normal A2 H2):R1 E2 none c A H K:=by
 cases hc
 obtain⟨t4,t5,t6,t7,t8,t9,t10,t11,z0,A0⟩:=hs;have S':given.length<=2:=by have:=hB.cc;omega
 have hkp:=hB.now hW.nx;have hgv:=hkp.gv;have hup:bE prog (H.new (.oth (.map [] 0))) 3 (.one (.o (.mp H.nx))) (.one (.i .i64 (n:Int))) (.one (.b true))=.val aQ ((H.new (.oth (.map [] 0))).mod H.nx (lz kvI (jc [n]))):=by exact Ls (GJ GK) (H:=H.new (.oth (.map [] 0))) (id:=H.nx) (k:=(n:Int)) (x:=.b true) (l:=[]) (aC rfl)
 have hnS:z.S<H.nx:=hW.st.own.1;have hnr:=hW.st.rlt;replace hB:=hd hB;replace hW:=hd hW;replace hK:=hd hK;replace hL:=hd hL;replace hgv:=hd hgv;replace hkp:=hd hkp;replace hn:=hd hn;replace hnr:=hd hnr;replace S':=hd S';refine zG (zDd tyR (@Qu) hup) λK1 T8=>?_;apply T8.out;refine R1.gen (λA2 H2=>Gr H H2/\H.nx<H2.nx/\H2.get H.nx=some (lz kvI (jc [n]))/\dR A2 z.C1 z.C2 z.C3 b (b+1) (b+2) (b+3) n (eO A2 14 (.o (.mp H.nx)) 228 []))
  ⟨((Fr.refl _).new _).mod _ (.inl (ai _)),ba _,aq rfl,zL⟩ ?_
 clear t4 t5 t6 t7 t8 t9 t10 t11 z0 A0 A T8 K1 hup;rintro A H2 ⟨g2,n2,rM,t4,t5,t6,t7,t8,t9,t10,t11,t14,z0,A0⟩;obtain⟨M,hM⟩:=dI H.nx;rw[<-hM]at n2 rM t14;have W8:=hW.out.gr g2;obtain⟨x0,x1,x2,x3,⟨m0,m1⟩,m2,m3⟩:=hB.out.box W8.nx;have hmv:=(hkp.out.gv.lt);obtain⟨o,hrg,R5⟩:∃o,kE H2 (.one mv)=.val (.one (.o (.it H2.nx))) (H2.new o)/\∀H3:Hp,(∀i,i<H2.nx->H3.get i=H2.get i)->H3.get H2.nx=some o ->
   ((mv=.o .nilM/\given=[]/\H3.get H2.nx=some (.oth (.iter none 0 [] 0)))\/∃id,mv=.o (.mp id)/\id≠M/\id≠H2.nx/\H3.get id=some (lz kvI (jc given))/\H3.get H2.nx=some (qk id given.length [])):=by
  rcases hgv.out with⟨rfl,rfl⟩|⟨id,rfl,hid,_,hex⟩
  ·exact⟨_,RY,λH3 _ h=>.inl ⟨rfl,rfl,h⟩⟩
  have he:H2.get id=some (lz kvI (jc given)):=(g2.get _ hid aE).trans (hex S'.out);have hel:(jc given).length=given.length:=cP ..;refine⟨_,Zz he,λH3 h1 h2=>.inr ⟨id,rfl,aa,aa,(h1 id aa).trans he,by rw[h2,hel]⟩⟩
 replace R5:=hd R5;replace W8:=hd W8;replace hM:=hd hM;refine zG (zDd tyR (@SS) hrg) λK1 T8=>?_;apply T8.out;refine R1.gen (λA3 H3=>Gr H H3/\M<H3.nx/\H2.nx<H3.nx/\H3.get M=some (lz kvI (jc [n]))/\((mv=.o .nilM/\given=[]/\H3.get H2.nx=some (.oth (.iter none 0 [] 0)))\/∃id,mv=.o (.mp id)/\id≠M/\id≠H2.nx/\H3.get id=some (lz kvI (jc given))/\H3.get H2.nx=some (qk id given.length []))/\dR A3 z.C1 z.C2 z.C3 b (b+1) (b+2) (b+3) n (nu A3 14 84 (.o (.mp M)) (.o (.it H2.nx)) 228 []))
  ⟨g2.new _,tx n2,ba _,(bw n2).trans rM,R5.out _ (λi hi=>bw hi) (aC rfl),zL⟩ ?_
 clear t4 t5 t6 t7 t8 t9 t10 t11 t14 z0 A0 A T8 K1 hrg R5 o x0 x1 x2 x3 m0 m1 m2 m3 hmv;rintro A H3 ⟨g3,n3,nI,rM3,R5,ts⟩;have hMn:H.nx<=M:=mZ hM.out.symm;have hIn:H.nx<=H2.nx:=g2.nx;have Q5:=hB.out.nd;refine R1.seq (blk2 rfl R5 Q5 hn.out rM3 aa n3 nI ts λA4 H4 f4 hml hexm ts4=>?_);show R1 E2 none _ A4 H4 K;obtain⟨t4,t5,t6,t7,t8,t9,t10,t11,t14,z0,A0⟩:=ts4;have g4:Gr H H4:=g3.then f4 λk hk=>.inl (by rcases hk with rfl|rfl<;>omega);have hM4:M<H4.nx:=ax n3 f4.nx;have X2:=hW.out.gr g4;have hkp4:=hB.out.kpn X2.nx X2.rr;have hMX:¬SrC z.S r M:=λh=>by
  rcases h with h|h
  ·omega
  have:=hnr.out M h;omega
 have hkpM:Kp z (SrC z.S r) H4 iv nv (.o (.mp M)) items (n::given):=λH5 n5 g5=>by have k5:=hkp4 H5 n5 g5;have e5:=g5 M hM4 hMX;exact⟨k5.it,k5.nw,.inr ⟨M,rfl,aa,tZ.same hml e5,λh=>e5.trans (hexm (by rw[List.length_cons]at h;omega))⟩⟩
 have S2:items.length+(n::given).length+l=z.c:=by have:=hB.out.cc;rw[List.length_cons];omega
 obtain⟨x0,x1,x2,x3,⟨m0,m1⟩,m2,m3⟩:=hB.out.box X2.nx;have c2:z.C2<H4.nx:=by have:=X2.st.clo.n;omega
 have G2:=X2.st.clo.g2;have hl3:l<=2:=by have:=hB.out.cc;omega
 have hwl:IntKind.i64.wrap (((l+1:Nat):Int)-1)=(l:Int):=by rw[gE aa aa];omega
 clear R5 Q5 hml hexm hkp4 hMX x2 m2;replace S2:=hd S2;replace hkpM:=hd hkpM;replace X2:=hd X2;replace g3:=hd g3;replace f4:=hd f4;refine zG (qA tyR FY) λK1 T8=>?_;refine WE.con (W4 X H4 iv nv (.o (.mp M)) F items (n::given) found r X2.out.st hkpM.out hB.out.I (List.nodup_cons.2 ⟨hn.out,hB.out.nd⟩) (λm hm=>(List.mem_cons.1 hm).elim (λe=>by rw[e];exact P8) (hB.out.gl m)) S2.out) λw' H6 f6⟨hw,hq⟩=>?_;subst hw;obtain⟨F',r',found',Z9,hP⟩:=X2.out.call f6 hq;have hL6:=hL.out.next hP λI T h=>h;have hf:=(Fr.none (X:=SrC z.S r) g4).then f6 λk h=>.inr h;clear hP hq;replace Z9:=hd Z9;replace hL6:=hd hL6;replace hf:=hd hf;refine zS tyR ?_;apply T8.out;exact hK.out _ _ F' r' found' hf.out Z9.out hL6.out zL
theorem ti{x:CK}{g:Nat}:rowOf (some (.oth x)) g=none:=rfl
theorem SlC.no{H H':Hp}{v:AC}{sz n:Nat}{c:List AC}(h:SlC H' v sz n c){k:Nat}{x:CK}(hk:H'.get k=some (.oth x)):k∉(AV.one v).ids:=by
 rcases h.2 with⟨rfl,_⟩|⟨id,g,off,rfl,_,cells,hr,_⟩
 ·exactλh=>by cases h
 intro h;rw[List.mem_singleton.1 h]at hk;rw[hk,ti]at hr;cases hr
section
variable{S N:Nat}{H H':Hp}{pc pr la vv:AC}{lc:List Cl}{lr:List Rl}{ld:List Lad}{v:List Int}
def SrD.acH(h:SrD S N H pc pr la vv lc lr ld v){i:Int}(h0:0<=i)(h1:i<ld.length){id g off:Nat}{cells:List AC}{ul:AC}(hla:la=.o (.sl id g off ld.length 2))(hr:rowOf (H.get id) g=some cells)(hf:(cells.drop (off+i.toNat*2)).take 2=[.o (.str (ld.getD i.toNat ([],[])).1),ul]){k:Nat}(hk:SrX S N k):k∉(AV.one ul).ids:=by
 have hx:(H.mod k (.oth (.dfr true))).get k=some (.oth (.dfr true)):=aq rfl;have hF:=h.2 (H.mod k (.oth (.dfr true))) (ai _) λi hi hn=>aB λe=>hn (by rw[e];exact hk);obtain⟨id',g',off',cells',ul',e1,_,T3,Y4,B9,_⟩:=vU hF.la h0 h1;rw[hla]at e1;injection e1 with e1
 injection e1 with e1 e2 e3
 subst e1 e2 e3;by_cases e:id=k
 ·rw[e,hx,ti]at T3;cases T3
 rw[aB e,hr]at T3;cases T3
 rw[hf]at B9;injection B9 with _ B9
 injection B9 with B9 _
 subst B9;exact SlC.no (H:=H) Y4 hx
end
section
variable{z:Sg}{X X0 Y:Nat->Prop}{H1 H H':Hp}{F:AC}{found:List (List Fx)}{r0 r:Option Nat}
def Fnd.wide{l:List (List Fx)}(h:Fnd X H F l r)(hx:∀k,Y k->X k\/H.nx<=k):Fnd Y H F l r:=by
 rcases h with h|⟨id,gen,lo,us,ex,h1,h2,h3,h4,h5,h6,h7,h8⟩
 ·exact .inl h
 refine .inr ⟨id,gen,lo,us,ex,h1,h2,h3,h4,h5,λhh=>(hx _ hh).elim h6 aa,h7,h8.mono λu f⟨a,b⟩=>⟨a,λk hk=>⟨λhh=>(hx _ hh).elim (b k hk).1 ?_,(b k hk).2⟩⟩⟩;have:k<H.nx:=a.lt k hk;omega
def SrS.fr(h:SrS z X H F found r)(f:Fr Y H H')(hy:∀k,Y k->X k/\z.N<=k/\k≠z.S):SrS z X H' F found r:=
 ⟨h.own.fr f λhh=>(hy _ hh).2.2 rfl,h.dat.fr f λk hk=>.inr (hy k hk).2.1,h.fnd.fr f λk hk=>.inl (hy k hk).1,h.xs,λk hk=>ax (h.xn k hk) f.nx,h.rn,h.clo.fr f λk hk=>.inr (hy k hk).2.1,h.ok,h.le⟩
def SrS.wide(h:SrS z X H F found r)(hs:Y z.S)(hn:∀k,Y k->k<H.nx)(hx:∀k,Y k->X k\/H.nx<=k):SrS z Y H F found r:=
 ⟨h.own,h.dat,h.fnd.wide hx,hs,hn,h.rn,h.clo,h.ok,h.le⟩
def Xp(X:Nat->Prop)(a b:Nat)(k:Nat):Prop:=X k\/(a<=k/\k<b)
def Wk.grow(h:Wk z X H1 r0 H F found r)(g:Gr H H'):Wk z (Xp X H.nx H'.nx) H1 r0 H' F found r:=by
 have hs:=h.st;refine⟨h.nx.gr g,?_,h.rr⟩;have h2:SrS z (Xp X H.nx H'.nx) H' F found r:=by have a:Fnd (Xp X H.nx H'.nx) H' F found r:=(hs.fnd.wide (Y:=Xp X H.nx H'.nx) λk hk=>hk.imp id And.left).fr g λ_ h=>h.elim;have b:=hs.gr g;exact⟨b.own,b.dat,a,.inl hs.xs,λk hk=>hk.elim (b.xn k) And.right,b.rn,b.clo,b.ok,b.le⟩
 exact h2
def Wk.nr(h:Wk z X H1 r0 H F found r):∀k,r=some k->k<H.nx/\¬X k:=λk hk=>by subst hk;exact h.st.fnd.rlt
def Wk.sm{L:Nat}(h:Wk z X H1 r0 H F found r)(s:Sm L H H')(hL:X L)(h1:H1.nx<=L)(hN:z.N<=L)(hS:L≠z.S):Wk z X H1 r0 H' F found r:=by
 have f:Fr (λk=>k=L) H ⟨H'.t,H'.nx,H.log⟩:=⟨s.nx,s.get,[],rfl,λ_ h=>by cases h⟩;have a:=h.st.fr f λk(hk:k=L)=>by subst hk;exact⟨hL,hN,hS⟩
 exact⟨h.nx.then (Y:=λk=>k=L) ⟨s.nx,s.get⟩ λk(hk:k=L)=>.inr aa,a.lg H'.log,h.rr⟩
def DfM(X:Nat->Prop)(H1 H:Hp)(dl:List Nat):Prop:=dl.Nodup/\∀d∈dl,X d/\H1.nx<=d/\d<H.nx/\H.get d=some (.oth (.dfr true))
def DfM.nil:DfM X H1 H []:=⟨List.nodup_nil,λ_ h=>absurd h List.not_mem_nil⟩
def DfM.wide{dl:List Nat}(h:DfM X H1 H dl)(hx:∀k,X k->Y k):DfM Y H1 H dl:=⟨h.1,λd hd=>by obtain⟨a,b,c,e⟩:=h.2 d hd;exact⟨hx d a,b,c,e⟩⟩
def DfM.cons{dl:List Nat}{d:Nat}(h:DfM X H1 H dl)(hd:d∉dl)(h1:X d)(h2:H1.nx<=d)(h3:d<H.nx)(h4:H.get d=some (.oth (.dfr true))):DfM X H1 H (d::dl):=
 ⟨List.nodup_cons.2 ⟨hd,h.1⟩,λe he=>(List.mem_cons.1 he).elim (λq=>by rw[q];exact⟨h1,h2,h3,h4⟩) (h.2 e)⟩
def DfM.close:∀{dl:List Nat}{H:Hp},DfM X H1 H dl->∃H',closeAll H dl=some H'/\Fr (λk=>k∈dl) H H'/\H'.nx=H.nx
 |[],H,_=>⟨H,rfl,Fr.refl _,rfl⟩
 |d::dl,H,h=>by
  obtain⟨a,b,c,e⟩:=h.2 d (aT ..);have h2:DfM X H1 (H.mod d (.oth (.dfr false))) dl:=⟨(List.nodup_cons.1 h.1).2,λq hq=>by obtain⟨a',b',c',e'⟩:=h.2 q (aR _ hq);exact⟨a',b',c',(aB λhh=>(List.nodup_cons.1 h.1).1 (by rw[<-hh];exact hq)).trans e'⟩⟩
  obtain⟨H',h3,h4,h5⟩:=h2.close;refine⟨H',?_,((Fr.refl _).mod _ (.inr (aT ..))).then h4 λk hk=>.inr (aR _ hk),h5⟩;show(match H.get d with|some (.oth (.dfr true))=>closeAll (H.mod d (.oth (.dfr false))) dl|_=>none)=_;rw[e];exact h3
end
theorem Gg{E:Env}{A:ag}{H H2:Hp}{e:au}(he:e=.normal\/e=.ret)(hd:closeAll H A.dfr=some H2):aK E [] (e,A,H)=.ok [(.tup [],H2)]:=by
 have key:(aG (closeAll H A.dfr) (R.bad "marks") λh2=>aG (dq E.P [] A.tm h2) (.bad "results") λl=>.ok [(gT l,h2)])=.ok [(.tup [],H2)]:=by rw[hd];rfl
 rcases he with rfl|rfl
 ·exact key
 exact key
theorem EA{m:Int}:∀{S:List Sp},(∀x∈S,1<=x.1)->(∃x∈S,x.2.2=m)->iO S m≠0
 |[],_,h=>by obtain⟨_,h,_⟩:=h;cases h
 |x::S,h1,h2=>by
  rw[iO];by_cases c:x.2.2=m
  ·rw[ad c];have:=h1 x (aT ..);omega
  rw[ab c];obtain⟨y,hy,e⟩:=h2;refine EA (λz hz=>h1 z (aR _ hz)) ⟨y,(List.mem_cons.1 hy).resolve_left λe'=>c (by rw[<-e'];exact e),e⟩
end Go.Proofs.YtgepceljhelekaaGreat
