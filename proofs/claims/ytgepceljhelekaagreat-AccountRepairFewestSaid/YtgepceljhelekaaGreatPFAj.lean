/- A part of the proof: BkRp2, BkRp3, BkRp4, BkRp5, BkRp6, BkRp7, BkRp8, BkSz, BkTk1, BkTk2, BkTk3, BkTk4, BkTk5, BkTk6, BkTk7, BkTk8, BkTk9, BkTk10. No conditions. -/
import Derived.Test.YtgepceljhelekaaGreatPFAi
import Derived.Sort.LotA
import Derived.Sort.LotB
import Derived.Sort.LotD3
set_option maxRecDepth 100000
set_option maxHeartbeats 64000000
set_option linter.all false
namespace Go.Proofs.YtgepceljhelekaaGreat
open Go Go.Eng
def lj(l:List Fx):Prop:=List.Pairwise (λx y:Fx=>x.1<y.1) l
def xl:List Fx->Fx->List Fx
 |[],x=>[x]
 |y::l,x=>if x.1<y.1 then x::y::l else y::xl l x
def nR:∀(l:List Fx)(x:Fx),(xl l x).Perm (l++[x])
 |[],_=>List.Perm.refl _
 |y::l,x=>by
  rw[xl];split
  ·exact(List.perm_append_comm (l₁:=[x]) (l₂:=y::l))
  exact(nR l x).cons y
def EX:∀(l:List Fx)(x:Fx),lj l->(∀y∈l,y.1≠x.1)->lj (xl l x)
 |[],_,_,_=>List.pairwise_singleton _ _
 |y::l,x,h,hn=>by
  obtain⟨h1,h2⟩:=List.pairwise_cons.1 h
  have hyx:=hn y (List.mem_cons_self ..);rw[xl];by_cases c:x.1<y.1
  ·rw[zB0 c];refine List.pairwise_cons.2 ⟨λz hz=>?_,h⟩;rcases List.mem_cons.1 hz with rfl|hz
   ·exact c
   have:=h1 z hz;omega
  rw[zB1 c];refine List.pairwise_cons.2 ⟨λz hz=>?_,EX l x h2 λz hz=>hn z (List.mem_cons_of_mem _ hz)⟩;have hz2:=(nR l x).mem_iff.1 hz;rcases List.mem_append.1 hz2 with hz2|hz2
  ·exact h1 z hz2
  rw[List.mem_singleton.1 hz2];omega
def QA:∀(T l:List Fx),(∀x∈T,∀y∈l,y.1≠x.1)->List.Pairwise (λx y:Fx=>x.1≠y.1) T->lj l->(T.foldl xl l).Perm (l++T)∧lj (T.foldl xl l)
 |[],l,_,_,h=>⟨by rw[List.append_nil];exact List.Perm.refl _,h⟩
 |x::T,l,hn,hp,h=>by
  obtain⟨p1,p2⟩:=List.pairwise_cons.1 hp
  have hx:=hn x (List.mem_cons_self ..);obtain⟨a,b⟩:=QA T (xl l x) (λt ht y hy=>by
   have:=(nR l x).mem_iff.1 hy;rcases List.mem_append.1 this with h1|h1
   ·exact hn t (List.mem_cons_of_mem _ ht) y h1
   rw[List.mem_singleton.1 h1];exact p1 t ht) p2 (EX l x h hx)
  refine⟨a.trans ?_,b⟩
  have:=(nR l x).append_right T;rw[List.append_assoc]at this;exact this
def Lu{f g:List Fx}(hf:lj f)(hg:lj g)(hp:f.Perm g):f=g:=by
 refine List.Perm.eq_of_pairwise (λa b _ _ h1 h2=>?_) hf hg hp;omega
variable{v:List Int}{lr:List Rl}{K:Int->Int->Int}
theorem np{now:List Int}:∀(l:List Rl)(T:List Fx),cS v K now l=some T->(T.map λx=>x.1).Sublist (l.map λr=>r.1)
 |[],T,h=>by cases h;exact List.Sublist.refl _
 |r::l,T,h=>by
  rw[cS]at h;by_cases e:aY now 0 r.2=v.getD r.1.toNat 0
  ·rw[zB0 e]at h;exact(np l T h).cons _
  rw[zB1 e]at h;by_cases b:aY now 0 r.2<1∨1099511627776<aY now 0 r.2
  ·rw[zB0 b]at h;cases h
  rw[zB1 b]at h;cases ht:cS v K now l with
  |none=>rw[ht]at h;cases h
  |some T1=>
   rw[ht]at h;cases h
   exact(np l T1 ht).cons₂ _
theorem jg{now:List Int}:∀(l:List Rl)(T:List Fx),cS v K now l=some T->∀x∈T,(∃r∈l,x.1=r.1)∧x.2.1=v.getD x.1.toNat 0∧x.2.2.2=if K x.1 x.2.2.1=0 then 5 else K x.1 x.2.2.1
 |[],T,h,x,hx=>by cases h;cases hx
 |r::l,T,h,x,hx=>by
  rw[cS]at h;have up:(∃s∈l,x.1=s.1)->∃s∈r::l,x.1=s.1:=λ⟨s,hs,e⟩=>⟨s,List.mem_cons_of_mem _ hs,e⟩;by_cases e:aY now 0 r.2=v.getD r.1.toNat 0
  ·rw[zB0 e]at h;obtain⟨a,b⟩:=jg l T h x hx
   exact⟨up a,b⟩
  rw[zB1 e]at h;by_cases b:aY now 0 r.2<1∨1099511627776<aY now 0 r.2
  ·rw[zB0 b]at h;cases h
  rw[zB1 b]at h;cases ht:cS v K now l with
  |none=>rw[ht]at h;cases h
  |some T1=>
   rw[ht]at h;cases h
   rcases List.mem_cons.1 hx with rfl|hx
   ·exact⟨⟨r,List.mem_cons_self ..,rfl⟩,rfl,rfl⟩
   obtain⟨a,b⟩:=jg l T1 ht x hx
   exact⟨up a,b⟩
theorem Jz(D0:eO v lr K){now:List Int}{T:List Fx}(h:cS v K now lr=some T):List.Pairwise (λx y:Fx=>x.1≠y.1) T:=
 List.pairwise_map.1 ((List.pairwise_map.2 D0.td).sublist (np lr T h))
theorem HD(D0:eO v lr K){I T:List Fx}(hI:bM v lr K I){now:List Int}(h:cS v K now lr=some T):∀x∈T,∀y∈I,y.1≠x.1:=λx hx y hy e=>by
 obtain⟨⟨r,hr,e2⟩,_⟩:=jg lr T h x hx
 obtain⟨_,_,_,_,s,hs,hm⟩:=hI.ok y hy
 exact D0.tp r hr s hs (by rw[<-e2,<-e];exact hm)
def Sol(v:List Int)(lr:List Rl)(K:Int->Int->Int)(c:Nat)(f:List Fx):Prop:=∃I T,bM v lr K I∧cS v K (aM v I) lr=some T∧I.length+cO T=c∧f.Perm (I++T)∧lj f
theorem Xl{l:List Fx}(h:∀x∈l,0≤x.1):List.Pairwise (λx y:Fx=>x.1.toNat≠y.1.toNat) l->List.Pairwise (λx y:Fx=>x.1≠y.1) l:=λhp=>hp.imp λhab e=>hab (by rw[e])
theorem Sol.of(D0:eO v lr K){I T:List Fx}(h1:bM v lr K I)(h2:cS v K (aM v I) lr=some T)(hA:lj I):Sol v lr K (I.length+cO T) (T.foldl xl I):=by
 obtain⟨p,q⟩:=QA T I (λx hx y hy=>HD D0 h1 h2 x hx y hy) (Jz D0 h2) hA
 exact⟨I,T,h1,h2,rfl,p,q⟩
def eu(f:List Fx):List (Int×Int):=f.map λx=>(x.1,x.2.2.1)
open Classical in
theorem Sol.fix(D0:eO v lr K){c:Nat}{f:List Fx}(h:Sol v lr K c f):∀x∈f,x.2.1=v.getD x.1.toNat 0∧x.2.2.2=if K x.1 x.2.2.1=0 then 5 else K x.1 x.2.2.1:=λx hx=>by
 obtain⟨I,T,h1,h2,_,h4,_⟩:=h
 rcases List.mem_append.1 (h4.mem_iff.1 hx)with hx|hx
 ·obtain⟨_,a,b,d,_⟩:=h1.ok x hx
  refine⟨a,?_⟩
  rw[b]at d;rw[b,zB1 d]
 exact(jg lr T h2 x hx).2
theorem BN:∀{f g:List Fx},(∀x∈f,x.2.1=v.getD x.1.toNat 0∧x.2.2.2=if K x.1 x.2.2.1=0 then 5 else K x.1 x.2.2.1)->(∀x∈g,x.2.1=v.getD x.1.toNat 0∧x.2.2.2=if K x.1 x.2.2.1=0 then 5 else K x.1 x.2.2.1)->eu f=eu g->f=g
 |[],[],_,_,_=>rfl
 |[],_::_,_,_,h=>by cases h
 |_::_,[],_,_,h=>by cases h
 |x::f,y::g,hf,hg,h=>by
  have h1:(x.1,x.2.2.1)=(y.1,y.2.2.1):=(List.cons.inj h).1;have h2:eu f=eu g:=(List.cons.inj h).2;obtain⟨a1,a2⟩:=hf x (List.mem_cons_self ..)
  obtain⟨b1,b2⟩:=hg y (List.mem_cons_self ..)
  obtain⟨x1,x2,x3,x4⟩:=x
  obtain⟨y1,y2,y3,y4⟩:=y
  cases h1
  have a1:x2=v.getD x1.toNat 0:=a1;have b1:y2=v.getD x1.toNat 0:=b1;have a2:x4=if K x1 x3=0 then 5 else K x1 x3:=a2;have b2:y4=if K x1 x3=0 then 5 else K x1 x3:=b2;rw[a1,b1,a2,b2,BN (λz hz=>hf z (List.mem_cons_of_mem _ hz)) (λz hz=>hg z (List.mem_cons_of_mem _ hz)) h2]
def cT:List Fx->List Fx->Bool
 |[],[]=>false
 |[],_::_=>true
 |_::_,[]=>false
 |x::a,y::b=>if x.1≠y.1 then decide (x.1<y.1)else if x.2.2.1≠y.2.2.1 then decide (x.2.2.1<y.2.2.1)else cT a b
theorem px:∀a:List Fx,cT a a=false
 |[]=>rfl
 |x::a=>by rw[cT,zB1 (λh=>h rfl),zB1 (λh=>h rfl)];exact px a
theorem jI:∀{a b c:List Fx},cT a b=true->cT b c=true->cT a c=true
 |[],[],_,h,_=>by cases h
 |[],_::_,[],_,k=>by cases k
 |[],_::_,_::_,_,_=>rfl
 |_::_,[],_,h,_=>by cases h
 |_::_,_::_,[],_,k=>by cases k
 |x::a,y::b,z::c,h,k=>by
  rw[cT]at h k ⊢;by_cases c1:x.1≠y.1
  ·rw[zB0 c1,decide_eq_true_eq]at h;by_cases c2:y.1≠z.1
   ·rw[zB0 c2,decide_eq_true_eq]at k;rw[zB0 (by omega),decide_eq_true_eq];omega
   rw[zB0 (by omega),decide_eq_true_eq];omega
  rw[zB1 c1]at h;by_cases c2:y.1≠z.1
  ·rw[zB0 c2,decide_eq_true_eq]at k;rw[zB0 (by omega),decide_eq_true_eq];omega
  rw[zB1 c2]at k;rw[zB1 (by omega)];by_cases d1:x.2.2.1≠y.2.2.1
  ·rw[zB0 d1,decide_eq_true_eq]at h;by_cases d2:y.2.2.1≠z.2.2.1
   ·rw[zB0 d2,decide_eq_true_eq]at k;rw[zB0 (by omega),decide_eq_true_eq];omega
   rw[zB0 (by omega),decide_eq_true_eq];omega
  rw[zB1 d1]at h;by_cases d2:y.2.2.1≠z.2.2.1
  ·rw[zB0 d2,decide_eq_true_eq]at k;rw[zB0 (by omega),decide_eq_true_eq];omega
  rw[zB1 d2]at k;rw[zB1 (by omega)];exact jI h k
theorem De:∀{a b:List Fx},cT a b=false->cT b a=false->eu a=eu b
 |[],[],_,_=>rfl
 |[],_::_,h,_=>by cases h
 |_::_,[],_,k=>by cases k
 |x::a,y::b,h,k=>by
  rw[cT]at h k;by_cases c1:x.1≠y.1
  ·rw[zB0 c1,decide_eq_false_iff_not]at h;rw[zB0 (Ne.symm c1),decide_eq_false_iff_not]at k;omega
  rw[zB1 c1]at h;rw[zB1 (λe=>c1 (Ne.symm e))]at k;by_cases d1:x.2.2.1≠y.2.2.1
  ·rw[zB0 d1,decide_eq_false_iff_not]at h;rw[zB0 (Ne.symm d1),decide_eq_false_iff_not]at k;omega
  rw[zB1 d1]at h;rw[zB1 (λe=>d1 (Ne.symm e))]at k;show(x.1,x.2.2.1)::eu a=(y.1,y.2.2.1)::eu b
  have e1:x.1=y.1:=Classical.byContradiction c1;have e2:x.2.2.1=y.2.2.1:=Classical.byContradiction d1;rw[De h k,e1,e2]
theorem Sol.tri(D0:eO v lr K){c:Nat}{f g:List Fx}(hf:Sol v lr K c f)(hg:Sol v lr K c g)(h:cT f g=false)(k:cT g f=false):f=g:=BN (hf.fix D0) (hg.fix D0) (De h k)
def Jf(l:List (List Fx)):Prop:=List.Pairwise (λa b=>cT a b=true) l
def ZZ(v:List Int)(j:Nat)(L:List (List (Int×Int)))(x:Fx):Prop:=∃k l,L[k]?=some l∧x.1=((j+k:Nat):Int)∧x.2.1=v.getD (j+k) 0∧(x.2.2.1,x.2.2.2)∈l
variable{v:List Int}{lr:List Rl}{K:Int->Int->Int}
def cN{α:Type}(w:α->Nat):List α->Nat
 |[]=>0
 |x::l=>w x+cN w l
theorem AT{α:Type}{w:α->Nat}{l k:List α}(h:l.Perm k):cN w l=cN w k:=by
 induction h with
 |nil=>rfl
 |cons x _ ih=>rw[cN,cN,ih]
 |swap x y l=>rw[cN,cN,cN,cN];omega
 |trans _ _ ih1 ih2=>rw[ih1,ih2]
theorem HB{α:Type}[BEq α][LawfulBEq α]{w:α->Nat}:∀(l k:List α),l.Nodup->(∀x∈l,x∈k)->cN w l≤cN w k
 |[],_,_,_=>Nat.zero_le _
 |x::l,k,hn,hs=>by
  obtain⟨h1,h2⟩:=List.nodup_cons.1 hn
  have hx:=hs x (List.mem_cons_self ..);have ih:=HB (w:=w) l (k.erase x) h2 λy hy=>(List.mem_erase_of_ne (λe=>h1 (by rw[<-e];exact hy))).2 (hs y (List.mem_cons_of_mem _ hy));rw[AT (w:=w) (List.perm_cons_erase hx),cN,cN];omega
theorem tC{α:Type}{w:α->Nat}(p:α->Bool):∀l:List α,cN w l=cN w (l.filter p)+cN w (l.filter λx=>!p x)
 |[]=>rfl
 |x::l=>by
  have ih:=tC (w:=w) p l;rw[List.filter_cons,List.filter_cons];cases h:p x with
  |true=>
   show w x+cN w l=(w x+cN w (l.filter p))+cN w (l.filter λx=>!p x);omega
  |false=>
   show w x+cN w l=cN w (l.filter p)+(w x+cN w (l.filter λx=>!p x));omega
theorem DB{α β:Type}{w:β->Nat}(g:α->β):∀l:List α,cN w (l.map g)=cN (λx=>w (g x)) l
 |[]=>rfl
 |x::l=>by rw[List.map_cons,cN,cN,DB g l]
theorem HY{α:Type}{w:α->Nat}:∀l:List α,(∀x∈l,1≤w x)->l.length≤cN w l
 |[],_=>Nat.zero_le _
 |x::l,h=>by
  have h1:=h x (List.mem_cons_self ..);have h2:=HY l λy hy=>h y (List.mem_cons_of_mem _ hy);rw[cN,List.length_cons];omega
variable{v:List Int}{lr:List Rl}{K:Int->Int->Int}
theorem uy{now V:List Int}:∀(l:List Rl),(∀r∈l,aY now 0 r.2=V.getD r.1.toNat 0∧(V.getD r.1.toNat 0≠v.getD r.1.toNat 0->1≤V.getD r.1.toNat 0∧V.getD r.1.toNat 0≤1099511627776)) ->
  ∃T,cS v K now l=some T∧∀x∈T,x.2.2.1=V.getD x.1.toNat 0∧V.getD x.1.toNat 0≠v.getD x.1.toNat 0
 |[],_=>⟨[],rfl,λ_ h=>absurd h List.not_mem_nil⟩
 |r::l,h=>by
  obtain⟨T,t1,t2⟩:=uy (now:=now) l λs hs=>h s (List.mem_cons_of_mem _ hs)
  obtain⟨a,b⟩:=h r (List.mem_cons_self ..)
  rw[cS,a];by_cases e:V.getD r.1.toNat 0=v.getD r.1.toNat 0
  ·rw[zB0 e];exact⟨T,t1,t2⟩
  have hb:=b e;rw[zB1 e,zB1 (by omega),t1];refine⟨_,rfl,λx hx=>?_⟩
  rcases List.mem_cons.1 hx with rfl|hx
  ·exact⟨rfl,e⟩
  exact t2 x hx
def KF(v:List Int)(K:Int->Int->Int)(x:Fx):Fx:=(x.1,v.getD x.1.toNat 0,x.2.2.1,K x.1 x.2.2.1)
def wF(K:Int->Int->Int)(x:Fx):Nat:=if K x.1 x.2.2.1=0 then 2 else 1
theorem Bc{T:List Fx}(D0:eO v lr K)(h:∀x∈T,x.2.2.2=if K x.1 x.2.2.1=0 then 5 else K x.1 x.2.2.1):cO T=cN (wF K) T:=by
 induction T with
 |nil=>rfl
 |cons x T ih=>
  rw[cO,cN,ih λy hy=>h y (List.mem_cons_of_mem _ hy),h x (List.mem_cons_self ..)];congr 1
  unfold wF;by_cases hk:K x.1 x.2.2.1=0
  ·rw[zB0 hk,zB0 hk,zB0 rfl]
  rw[zB1 hk,zB1 hk,zB1 (D0.kb _ _ hk).2.2]
open Classical in
theorem Sol.UH(D0:eO v lr K){f:List Fx}(hf:lj f)(hr:∀x∈f,(0≤x.1∧x.1<v.length)∧x.2.2.1≠v.getD x.1.toNat 0∧(1≤x.2.2.1∧x.2.2.1≤1099511627776)∧(K x.1 x.2.2.1≠0∨∃r∈lr,r.1=x.1))(hV:∀r∈lr,aY (aM v f) 0 r.2=(aM v f).getD r.1.toNat 0):
  ∃c g,Sol v lr K c g∧c≤cN (wF K) f:=by
 have hp:List.Pairwise (λx y:Fx=>x.1.toNat≠y.1.toNat) f:=List.Pairwise.imp_of_mem (λ{x y}hx hy hxy e=>by
  have:=(hr x hx).1;have:=(hr y hy).1;omega) hf
 have K0:∀x∈f,(aM v f).getD x.1.toNat 0=x.2.2.1:=λx hx=>fM f v hp x hx (by have:=(hr x hx).1;omega);have L5:∀j,(∀x∈f,x.1.toNat≠j)->(aM v f).getD j 0=v.getD j 0:=λj h=>dV f v j h;let p:Fx->Bool:=λx=>decide (∃r∈lr,x.1∈r.2)
 let I:=(f.filter p).map (KF v K)
 have hI:bM v lr K I:=by
  refine⟨λy hy=>?_,List.pairwise_map.2 (hp.sublist List.filter_sublist)⟩
  obtain⟨x,hx,rfl⟩:=List.mem_map.1 hy
  obtain⟨O0,M6⟩:=List.mem_filter.1 hx
  have M6:=of_decide_eq_true M6;obtain⟨a1,a2,a3,a4⟩:=hr x O0
  have hk:K x.1 x.2.2.1≠0:=a4.resolve_right λ⟨r,hr,e⟩=>by
   obtain⟨s,hs,hm⟩:=M6
   exact D0.tp r hr s hs (by rw[e];exact hm)
  exact⟨a1,rfl,rfl,hk,M6⟩
 have hIc:∀y∈I,∃x∈f,x.1=y.1∧x.2.2.1=y.2.2.1∧∃r∈lr,x.1∈r.2:=λy hy=>by
  obtain⟨x,hx,rfl⟩:=List.mem_map.1 hy
  obtain⟨O0,M6⟩:=List.mem_filter.1 hx
  exact⟨x,O0,rfl,rfl,of_decide_eq_true M6⟩
 have hsum:∀r∈lr,aY (aM v I) 0 r.2=(aM v f).getD r.1.toNat 0:=λr P3=>by
  rw[<-hV r P3];refine kI _ _ λi hi=>?_;have hib:=D0.pr r P3 i hi;by_cases hm:∃x∈f,x.1=i
  ·obtain⟨x,hx,rfl⟩:=hm
   rw[K0 x hx];have hy:KF v K x∈I:=List.mem_map_of_mem (List.mem_filter.2 ⟨hx,decide_eq_true ⟨r,P3,hi⟩⟩);exact fM I v hI.pw (KF v K x) hy (by show x.1.toNat<_;omega)
  rw[L5 i.toNat λx hx e=>hm ⟨x,hx,by have:=(hr x hx).1;omega⟩];refine dV I v i.toNat λy hy e=>?_;obtain⟨x,hx,e2,_⟩:=hIc y hy
  exact hm ⟨x,hx,by have:=(hr x hx).1;omega⟩
 have hdif:∀j:Nat,(aM v f).getD j 0≠v.getD j 0->∃x∈f,x.1.toNat=j:=λj hj=>Classical.byContradiction λhn=>hj (L5 j λx hx e=>hn ⟨x,hx,e⟩);obtain⟨T,t1,t2⟩:=uy (v:=v) (K:=K) (now:=aM v I) (V:=aM v f) lr λr P3=>⟨hsum r P3,λZ0=>by
  obtain⟨x,hx,e⟩:=hdif _ Z0
  rw[<-e,K0 x hx];exact(hr x hx).2.2.1⟩
 have hA:lj I:=List.pairwise_map.2 (hf.sublist List.filter_sublist);refine⟨_,_,Sol.of D0 hI t1 hA,?_⟩
 have hT:=λx hx=>(jg lr T t1 x hx).2.2;rw[Bc D0 hT];have e1:=tC (w:=wF K) p f;have e2:I.length≤cN (wF K) (f.filter p):=by
  show((f.filter p).map (KF v K)).length≤_
  rw[List.length_map];exact HY _ λx _=>by unfold wF;split<;>omega
 have e3:cN (wF K) T≤cN (wF K) (f.filter λx=>!p x):=by
  have key:∀k:List Fx,cN (wF K) k=cN (λq:Int×Int=>if K q.1 q.2=0 then 2 else 1) (eu k):=λk=>(DB (w:=λq:Int×Int=>if K q.1 q.2=0 then 2 else 1) (λx:Fx=>(x.1,x.2.2.1)) k).symm;rw[key,key];refine HB _ _ ?_ λq hq=>?_
  ·refine List.pairwise_map.2 ((Jz D0 t1).imp λ{a b}hab e=>hab ?_);exact(Prod.mk.inj e).1
  obtain⟨x,hx,rfl⟩:=List.mem_map.1 hq
  obtain⟨u1,u2⟩:=t2 x hx
  obtain⟨y,hy,e⟩:=hdif _ u2
  obtain⟨⟨r,P3,M3⟩,_⟩:=jg lr T t1 x hx
  have h1:=D0.tr r P3;have h2:=(hr y hy).1;have exy:y.1=x.1:=by omega
  refine List.mem_map.2 ⟨y,List.mem_filter.2 ⟨hy,?_⟩,?_⟩
  ·rw[Bool.not_eq_true',decide_eq_false_iff_not];rintro⟨s,hs,hm⟩
   exact D0.tp r P3 s hs (by rw[<-M3,<-exy];exact hm)
  show(y.1,y.2.2.1)=(x.1,x.2.2.1)
  rw[exy,u1,<-e,K0 y hy]
 omega
theorem VA(D0:eO v lr K){c:Nat}(h:∀c' f,Sol v lr K c' f->c≤c'):Ip v lr K c:=λI T h1 h2=>by
 obtain⟨a,b⟩:=QA I [] (λ_ _ _ hy=>absurd hy List.not_mem_nil) (Xl (λx hx=>(h1.ok x hx).1.1) h1.pw) List.Pairwise.nil
 rw[List.nil_append]at a;have e:aM v I=aM v (I.foldl xl []):=su a.symm h1.pw;have:=h _ _ (Sol.of D0 (h1.perm a.symm) (by rw[<-e];exact h2) b);rwa [a.length_eq]at this
variable{v:List Int}{lr:List Rl}{K:Int->Int->Int}
def Got(limit:Nat)(found:List (List Fx))(f:List Fx):Prop:=if limit=0 then∃g∈found,cT f g=false else f∈found∨limit<found.length
structure FOk(v:List Int)(lr:List Rl)(K:Int->Int->Int)(c limit:Nat)(found:List (List Fx)):Prop where
 st:Jf found
 so:∀f∈found,Sol v lr K c f
 on:limit=0->found.length≤1
theorem FOk.nil{c limit:Nat}:FOk v lr K c limit []:=⟨List.Pairwise.nil,λ_ h=>absurd h List.not_mem_nil,λ_=>Nat.zero_le _⟩
theorem Got.mem{limit:Nat}{found:List (List Fx)}{f:List Fx}(h:f∈found):Got limit found f:=by
 unfold Got;by_cases c:limit=0
 ·rw[zB0 c];exact⟨f,h,px f⟩
 rw[zB1 c];exact .inl h
theorem PC{a b:List Fx}(h:cT a b=true):cT b a=false:=by
 cases k:cT b a with
 |false=>rfl
 |true=>have:=jI h k;rw[px]at this;cases this
def ke(limit:Nat)(a b:List (List Fx)):Prop:=∀g,Got limit a g->Got limit b g
theorem ke.Ww{limit:Nat}{a:List (List Fx)}:ke limit a a:=λ_ h=>h
theorem ke.trans{limit:Nat}{a b c:List (List Fx)}(h:ke limit a b)(k:ke limit b c):ke limit a c:=λg hg=>k g (h g hg)
def Cv(limit:Nat)(found:List (List Fx))(i:Nat)(f:List Fx):List (List Fx):=if limit=0 then(found.take i++f::found.drop i).take 1 else found.take i++f::found.drop i
theorem VR(D0:eO v lr K){c limit i:Nat}{found:List (List Fx)}{f:List Fx}(hF:FOk v lr K c limit found)(hs:Sol v lr K c f)(hi:i≤found.length)(h1:∀j g,j<i->found[j]?=some g->cT g f=true)(h2:∀j g,i≤j->found[j]?=some g->cT g f=false)
  (hn:∀g,found[i]?=some g->eu g≠eu f):FOk v lr K c limit (Cv limit found i f)∧Got limit (Cv limit found i f) f∧ke limit found (Cv limit found i f):=by
 have Y2:Jf (found.take i++f::found.drop i):=by
  have t1:Jf (found.take i):=List.Pairwise.sublist (List.take_sublist i found) hF.st;have t2:Jf (found.drop i):=List.Pairwise.sublist (List.drop_sublist i found) hF.st;have b1:∀g∈found.take i,cT g f=true:=λg hg=>by
   obtain⟨j,hj⟩:=List.getElem?_of_mem hg
   have C0:j<i:=by
    have:=(List.getElem?_eq_some_iff.1 hj).1;rw[List.length_take]at this;omega
   rw[List.getElem?_take_of_lt C0]at hj;exact h1 j g C0 hj
  have b2:∀g∈found.drop i,cT f g=true:=λg hg=>by
   obtain⟨j,hj⟩:=List.getElem?_of_mem hg
   rw[List.getElem?_drop]at hj;have hb:=h2 (i+j) g (Nat.le_add_right i j) hj;cases hk:cT f g with
   |true=>rfl
   |false=>
    exfalso;have e:=De hb hk;cases j with
    |zero=>exact hn g hj e
    |succ j=>
     have C0:=(List.getElem?_eq_some_iff.1 hj).1;have R3:i<found.length:=by omega
     have h3:cT found[i] found[i+(j+1)]=true:=List.pairwise_iff_getElem.1 hF.st i (i+(j+1)) R3 C0 (by omega);have h4:=(List.getElem?_eq_some_iff.1 hj).2;rw[h4,hs.tri D0 (hF.so g (List.mem_of_getElem? hj)) hk hb |>.symm]at h3;have h5:=h2 i found[i] (zA1 _) (zB4 R3);rw[h5]at h3;cases h3
  exact List.pairwise_append.2 ⟨t1,List.pairwise_cons.2 ⟨b2,t2⟩,λa ha b hb=>(List.mem_cons.1 hb).elim (λe=>by rw[e];exact b1 a ha) λhb=>jI (b1 a ha) (b2 b hb)⟩
 have E0:∀g,g∈found.take i++f::found.drop i↔g=f∨g∈found:=λg=>by
  have e:found.take i++found.drop i=found:=List.take_append_drop i found;rw[List.mem_append,List.mem_cons];constructor
  ·rintro(h|h|h)
   ·exact .inr (by rw[<-e];exact List.mem_append_left _ h)
   ·exact .inl h
   exact .inr (by rw[<-e];exact List.mem_append_right _ h)
  rintro(h|h)
  ·exact .inr (.inl h)
  rw[<-e]at h;exact(List.mem_append.1 h).elim .inl λh=>.inr (.inr h)
 have U_:∀g∈found.take i++f::found.drop i,Sol v lr K c g:=λg hg=>((E0 g).1 hg).elim (λe=>by rw[e];exact hs) (hF.so g);have hlen:(found.take i++f::found.drop i).length=found.length+1:=by
  rw[List.length_append,List.length_cons,List.length_take,List.length_drop];omega
 unfold Cv;by_cases c0:limit=0
 ·rw[zB0 c0];generalize hl:found.take i++f::found.drop i=l at Y2 E0 U_ hlen;cases l with
  |nil=>rw[List.length_nil]at hlen;omega
  |cons h l=>
   obtain⟨p1,p2⟩:=List.pairwise_cons.1 Y2
   have hb:∀g∈h::l,cT g h=false:=λg hg=>(List.mem_cons.1 hg).elim (λe=>by rw[e];exact px h) λhg=>PC (p1 g hg);have got:∀g,(∃g'∈h::l,cT g g'=false)->Got limit [h] g:=λg⟨g',Y1,hgb⟩=>by
    unfold Got;rw[zB0 c0];refine⟨h,List.mem_singleton.2 rfl,?_⟩
    cases hk:cT g h with
    |false=>rfl
    |true=>
     rcases List.mem_cons.1 Y1 with rfl|Y1
     ·rw[hk]at hgb;cases hgb
     rw[jI hk (p1 g' Y1)]at hgb;cases hgb
   refine⟨⟨List.pairwise_singleton _ _,λg hg=>U_ g (by rw[List.mem_singleton.1 hg];exact List.mem_cons_self ..),λ_=>zA1 _⟩,got f ⟨f,(E0 f).2 (.inl rfl),px f⟩,λg hg=>?_⟩
   unfold Got at hg;rw[zB0 c0]at hg;obtain⟨g',Y1,hgb⟩:=hg
   exact got g ⟨g',(E0 g').2 (.inr Y1),hgb⟩
 rw[zB1 c0];refine⟨⟨Y2,U_,λh=>absurd h c0⟩,Got.mem ((E0 f).2 (.inl rfl)),λg hg=>?_⟩
 unfold Got at hg ⊢;rw[zB1 c0]at hg ⊢;exact hg.elim (λh=>.inl ((E0 g).2 (.inr h))) λh=>.inr (by rw[hlen];omega)
theorem uH(lc:List Cl)(t:Int):∀(l acc:List Int),fS lc t acc l=true->(∀i∈l,0≤i∧i<lc.length)∧(∀y,acc.getLast?=some y->∀i∈l,y<i)∧List.Pairwise (λa b:Int=>a<b) l
 |[],_,_=>⟨λ_ h=>absurd h List.not_mem_nil,λ_ _ _ h=>absurd h List.not_mem_nil,List.Pairwise.nil⟩
 |m::l,acc,h=>by
  rw[fS]at h;by_cases c1:m<0
  ·rw[zB0 c1]at h;cases h
  rw[zB1 c1]at h;by_cases c2:(lc.length:Int)≤m
  ·rw[zB0 c2]at h;cases h
  rw[zB1 c2]at h;by_cases c3:xH acc m=true
  ·rw[zB0 c3]at h;cases h
  rw[zB1 c3]at h;by_cases c4:oh lc m≠oh lc t
  ·rw[zB0 c4]at h;cases h
  rw[zB1 c4]at h;obtain⟨a1,a2,a3⟩:=uH lc t l (acc++[m]) h
  have hl:(acc++[m]).getLast?=some m:=List.getLast?_concat;have hm:=a2 m hl;refine⟨λi hi=>?_,λy hy i hi=>?_,List.pairwise_cons.2 ⟨hm,a3⟩⟩
  ·rcases List.mem_cons.1 hi with rfl|hi
   ·omega
   exact a1 i hi
  have S_:y<m:=by
   unfold xH at c3;rw[hy]at c3;have:¬decide (m≤y)=true:=c3;rw[decide_eq_true_eq]at this;omega
  rcases List.mem_cons.1 hi with rfl|hi
  ·exact S_
  have:=hm i hi;omega
theorem DY(lc:List Cl):∀(l:List Rl)(T S:List Int),goR lc T S l=true->(∀r∈l,(0≤r.1∧r.1<lc.length)∧fS lc r.1 [] r.2=true∧∀t∈T,t≠r.1)∧List.Pairwise (λr s:Rl=>r.1≠s.1) l ∧
  ∀j:Nat,j<lc.length->¬((((j:Int)∈T)∨∃r∈l,r.1=(j:Int))∧(((j:Int)∈S)∨∃r∈l,(j:Int)∈r.2))
 |[],T,S,h=>by
  rw[goR,List.all_eq_true]at h;refine⟨λ_ h=>absurd h List.not_mem_nil,List.Pairwise.nil,λj hj⟨h1,h2⟩=>?_⟩
  have:=h j (List.mem_range.2 hj);rw[Bool.not_eq_true',Bool.and_eq_false_iff,List.any_eq_false,List.any_eq_false]at this;have h1:=h1.resolve_right λ⟨_,h,_⟩=>absurd h List.not_mem_nil;have h2:=h2.resolve_right λ⟨_,h,_⟩=>absurd h List.not_mem_nil;rcases this with h3|h3
  ·exact h3 _ h1 (beq_self_eq_true _)
  exact h3 _ h2 (beq_self_eq_true _)
 |x::l,T,S,h=>by
  rw[goR]at h;by_cases c1:x.1<0
  ·rw[zB0 c1]at h;cases h
  rw[zB1 c1]at h;by_cases c2:(lc.length:Int)≤x.1
  ·rw[zB0 c2]at h;cases h
  rw[zB1 c2]at h;by_cases c3:T.any (λy=>y==x.1)=true
  ·rw[zB0 c3]at h;cases h
  rw[zB1 c3]at h;by_cases c4:fS lc x.1 [] x.2=false
  ·rw[zB0 c4]at h;cases h
  rw[zB1 c4]at h;obtain⟨a1,a2,a3⟩:=DY lc l (T++[x.1]) (S++x.2) h
  refine⟨λr hr=>?_,List.pairwise_cons.2 ⟨λr hr=>(a1 r hr).2.2 x.1 (List.mem_append_right _ (List.mem_cons_self ..)),a2⟩,λj hj⟨h1,h2⟩=>a3 j hj ⟨?_,?_⟩⟩
  ·rcases List.mem_cons.1 hr with rfl|hr
   ·refine⟨by omega,by simpa using c4,λt ht e=>c3 (List.any_eq_true.2 ⟨t,ht,by rw[e];exact beq_self_eq_true _⟩)⟩
   obtain⟨b1,b2,b3⟩:=a1 r hr
   exact⟨b1,b2,λt ht=>b3 t (List.mem_append_left _ ht)⟩
  ·rcases h1 with h1|⟨r,hr,e⟩
   ·exact .inl (List.mem_append_left _ h1)
   rcases List.mem_cons.1 hr with rfl|hr
   ·exact .inl (List.mem_append_right _ (List.mem_singleton.2 e.symm))
   exact .inr ⟨r,hr,e⟩
  rcases h2 with h2|⟨r,hr,e⟩
  ·exact .inl (List.mem_append_left _ h2)
  rcases List.mem_cons.1 hr with rfl|hr
  ·exact .inl (List.mem_append_right _ e)
  exact .inr ⟨r,hr,e⟩
theorem ZC{lc:List Cl}{lr:List Rl}{v:List Int}{K:Int->Int->Int}(h:goR lc [] [] lr=true)(hl:lc.length≤64)(hlen:v.length=lc.length)(hv:∀x∈v,1≤x∧x≤1099511627776)
  (hk:∀i to,K i to≠0->(1≤to∧to≤1099511627776)∧to≠v.getD i.toNat 0∧K i to≠5):eO v lr K:=by
 obtain⟨a1,a2,a3⟩:=DY lc lr [] [] h
 have pr:∀r∈lr,∀i∈r.2,0≤i∧i<v.length:=λr hr=>by rw[hlen];exact(uH lc r.1 r.2 [] (a1 r hr).2.1).1
 have pa:∀r∈lr,List.Pairwise (λa b:Int=>a<b) r.2:=λr hr=>(uH lc r.1 r.2 [] (a1 r hr).2.1).2.2;refine⟨λj=>?_,by omega,λr hr=>by rw[hlen];exact(a1 r hr).1,pr,pa,λr hr=>?_,λr hr s hs hm=>?_,a2,hk⟩
 ·rw[List.getD_eq_getElem?_getD];cases e:v[j]? with
  |none=>exact⟨Int.le_refl _,by decide⟩
  |some x=>have:=hv x (List.mem_of_getElem? e);show 0≤x∧x≤_;omega
 ·have hn:(r.2.map λi=>i.toNat).Nodup:=List.pairwise_map.2 (List.Pairwise.imp_of_mem (λ{a b}ha hb hab e=>by
   have:=pr r hr a ha;have:=pr r hr b hb;omega) (pa r hr))
  have:=List.Nodup.length_le_of_subset (l₂:=List.range 64) hn λi hi=>by
   obtain⟨m,hm,rfl⟩:=List.mem_map.1 hi
   have:=pr r hr m hm;exact List.mem_range.2 (by omega)
  rwa [List.length_map,List.length_range]at this
 have h1:=(a1 r hr).1;have e:((r.1.toNat:Nat):Int)=r.1:=by omega
 exact a3 r.1.toNat (by omega) ⟨.inr ⟨r,hr,e.symm⟩,.inr ⟨s,hs,by rw[e];exact hm⟩⟩
variable{v:List Int}{lr:List Rl}{K:Int->Int->Int}
structure SelOk(R out:List (List Fx)):Prop where
 st:Jf out
 me:∀f∈out,f∈R
 af:∀g∈R,g∉out->∀f∈out,cT f g=true
theorem pj(v:List Int):∀(l:List Rl)(n:Nat)(acc:List Int),lE v n acc l=[]↔acc=[]∧∀r∈l,aY v 0 r.2=v.getD r.1.toNat 0
 |[],n,acc=>by
  rw[lE];exact⟨λh=>⟨h,λ_ h=>absurd h List.not_mem_nil⟩,λh=>h.1⟩
 |r::l,n,acc=>by
  rw[lE,pj v l];by_cases e:aY v 0 r.2=v.getD r.1.toNat 0
  ·rw[zB0 e];exact⟨λh=>⟨h.1,λs hs=>(List.mem_cons.1 hs).elim (λe2=>by rw[e2];exact e) (h.2 s)⟩,λh=>⟨h.1,λs hs=>h.2 s (List.mem_cons_of_mem _ hs)⟩⟩
  rw[zB1 e];refine⟨λh=>absurd h.1 (by simp),λh=>absurd (h.2 r (List.mem_cons_self ..)) e⟩
variable{v:List Int}{lr:List Rl}{K:Int->Int->Int}
theorem ix{now:List Int}:∀(l:List Rl)(T:List Fx),cS v K now l=some T->∀x∈T,∃r∈l,x.1=r.1∧x.2.2.1=aY now 0 r.2∧aY now 0 r.2≠v.getD r.1.toNat 0∧1≤aY now 0 r.2∧aY now 0 r.2≤1099511627776
 |[],T,h,x,hx=>by cases h;cases hx
 |r::l,T,h,x,hx=>by
  rw[cS]at h;by_cases e:aY now 0 r.2=v.getD r.1.toNat 0
  ·rw[zB0 e]at h;obtain⟨s,hs,a⟩:=ix l T h x hx
   exact⟨s,List.mem_cons_of_mem _ hs,a⟩
  rw[zB1 e]at h;by_cases b:aY now 0 r.2<1∨1099511627776<aY now 0 r.2
  ·rw[zB0 b]at h;cases h
  rw[zB1 b]at h;cases ht:cS v K now l with
  |none=>rw[ht]at h;cases h
  |some T1=>
   rw[ht]at h;cases h
   rcases List.mem_cons.1 hx with rfl|hx
   ·exact⟨r,List.mem_cons_self ..,rfl,rfl,e,by omega,by omega⟩
   obtain⟨s,hs,a⟩:=ix l T1 ht x hx
   exact⟨s,List.mem_cons_of_mem _ hs,a⟩
theorem DG(D0:eO v lr K){r s:Rl}(hr:r∈lr)(hs:s∈lr)(e:r.1=s.1):r=s:=by
 obtain⟨n,hn⟩:=List.getElem?_of_mem hr
 obtain⟨m,hm⟩:=List.getElem?_of_mem hs
 by_cases h:n=m
 ·subst h;rw[hn]at hm;exact Option.some.inj hm
 exact absurd e (Xt D0.td hn hm h)
theorem Sol.right(D0:eO v lr K){c:Nat}{f:List Fx}(h:Sol v lr K c f):∀r∈lr,aY (aM v f) 0 r.2=(aM v f).getD r.1.toNat 0:=λr hr=>by
 obtain⟨I,T,h1,h2,h3,h4,h5⟩:=h
 have M1:∀x∈f,0≤x.1∧x.1<v.length:=λx hx=>by
  rcases List.mem_append.1 (h4.mem_iff.1 hx)with hx|hx
  ·exact(h1.ok x hx).1
  obtain⟨s,hs,e,_⟩:=ix lr T h2 x hx
  rw[e];exact D0.tr s hs
 have hp:List.Pairwise (λx y:Fx=>x.1.toNat≠y.1.toNat) f:=List.Pairwise.imp_of_mem (λ{x y}hx hy hxy e=>by
  have:=M1 x hx;have:=M1 y hy;omega) h5
 have hI:∀i∈r.2,(aM v f).getD i.toNat 0=(aM v I).getD i.toNat 0:=λi hi=>by
  have hib:=D0.pr r hr i hi;by_cases hm:∃x∈I,x.1=i
  ·obtain⟨x,hx,rfl⟩:=hm
   rw[fM I v h1.pw x hx (by omega),fM f v hp x (h4.mem_iff.2 (List.mem_append_left _ hx)) (by omega)]
  rw[dV I v i.toNat λx hx e=>hm ⟨x,hx,by have:=(h1.ok x hx).1;omega⟩];refine dV f v i.toNat λx hx e=>?_;have hxb:=M1 x hx;have e2:x.1=i:=by omega
  rcases List.mem_append.1 (h4.mem_iff.1 hx)with hx|hx
  ·exact hm ⟨x,hx,e2⟩
  obtain⟨s,hs,e3,_⟩:=ix lr T h2 x hx
  exact D0.tp s hs r hr (by rw[<-e3,e2];exact hi)
 rw[kI r.2 0 hI];have hrb:=D0.tr r hr;by_cases e:aY (aM v I) 0 r.2=v.getD r.1.toNat 0
 ·rw[e];refine(dV f v _ λx hx e2=>?_).symm
  have hxb:=M1 x hx;have e3:x.1=r.1:=by omega
  rcases List.mem_append.1 (h4.mem_iff.1 hx)with hx|hx
  ·obtain⟨_,_,_,_,s,hs,hm⟩:=h1.ok x hx
   exact D0.tp r hr s hs (by rw[<-e3];exact hm)
  obtain⟨s,hs,e4,_,e5,_⟩:=ix lr T h2 x hx
  rw[DG D0 hs hr (by rw[<-e4,e3])]at e5;exact e5 e
 obtain⟨x,hx,ex⟩:=tW lr T h2 r hr e
 obtain⟨s,hs,e4,e5,_⟩:=ix lr T h2 x hx
 rw[DG D0 hs hr (by rw[<-e4,ex])]at e5;have:=fM f v hp x (h4.mem_iff.2 (List.mem_append_right _ hx)) (by rw[ex];omega);rw[ex]at this;rw[this,e5]
theorem OV(D0:eO v lr K){c:Nat}(h:∀c'<c,∀f,¬Sol v lr K c' f):Ip v lr K c:=
 VA D0 λc' f hs=>Nat.not_lt.1 λhl=>h c' hl f hs
theorem Sol.cost(D0:eO v lr K){c:Nat}{f:List Fx}(h:Sol v lr K c f):cN (wF K) f=c:=by
 obtain⟨I,T,h1,h2,h3,h4,_⟩:=h
 rw[AT h4,<-h3];have hT:=Bc D0 λx hx=>(jg lr T h2 x hx).2.2;have Q2:∀a b:List Fx,cN (wF K) (a++b)=cN (wF K) a+cN (wF K) b:=λa b=>by
  induction a with
  |nil=>exact(Nat.zero_add _).symm
  |cons x a ih=>rw[List.cons_append,cN,cN,ih];omega
 have hI:∀l:List Fx,(∀x∈l,QM v lr K x)->cN (wF K) l=l.length:=λl hl=>by
  induction l with
  |nil=>rfl
  |cons x l ih=>
   rw[cN,ih λy hy=>hl y (List.mem_cons_of_mem _ hy),List.length_cons];obtain⟨_,_,a,b,_⟩:=hl x (List.mem_cons_self ..)
   have:wF K x=1:=by unfold wF;rw[zB1 (by rw[<-a];exact b)]
   omega
 rw[Q2,hI I h1.ok,hT]
theorem TV:ao Tryz.prog 169=true:=by kernel_rfl
theorem TD:ao Tryz.prog 143=true:=by kernel_rfl
section
variable{α:Type}[Inhabited α]{c:α->List AC}{cf:α->α->Int}{cl N:Nat}
theorem VY(hm:Cmp c cf cl N)(hsw:Go.Sort.SWO (ltF cf))(id gen n:Nat)(hn:n≤65536)(H:Hp)(d:Array α)(a b lim:Nat)(hs:Srt c H id gen n d)(hN:N≤H.nx)(hab:a≤b)(hb:b≤n)(h12:b-a≤12)(I4:lim≤64):
  Con E2 169 [.one (.o (.sl id gen 0 n 4)),.one (.i .i64 a),.one (.i .i64 b),.one (.i .i64 lim),.one (.o (.clo cl []))] H (λk=>k=id) λr H'=>r=.tup []∧∃d',Srt c H' id gen n d'∧Go.Sort.PermIn a b d d'∧Go.Sort.SortedIn (ltF cf) a b d':=by
 refine Con.of rfl λlg=>?_;have hs:Srt c ⟨H.t,H.nx,lg⟩ id gen n d:=hs;have hN:N≤(⟨H.t,H.nx,lg⟩:Hp).nx:=hN;generalize(⟨H.t,H.nx,lg⟩:Hp)=H at hs hN ⊢
 refine C1.body (E:=E2) (nt:=148) (res:=[]) Tryz.func169 rfl rfl rfl rfl rfl λtm z0=>?_;have h0:=z0 0 _ rfl;have h1:=z0 1 _ rfl;have h2:=z0 2 _ rfl;have h3:=z0 3 _ rfl;have h4:=z0 4 _ rfl;clear z0;obtain⟨L,hL⟩:∃L,L=b-a:=⟨_,rfl⟩
 have hwL:IntKind.i64.wrap ((b:Int)-(a:Int))=(L:Int):=by rw[aP (by omega) (by omega)];omega
 have h12i:(L:Int)≤12:=by omega
 replace hL:Hd _:=hL;refine zW tyF ?_;refine R1.og λK k1 k2 k3 k4=>?_;refine R1.loop (λz A H3=>H3=H∧slot A.tm 0=.one ((.o (.sl id gen 0 n 4)))∧slot A.tm 1=.one (.i .i64 (a:Int))∧slot A.tm 2=.one (.i .i64 (b:Int))∧slot A.tm 4=.one ((.o (.clo cl [])))∧A.nt=148∧A.dfr=[]) ?_ 0 ⟨rfl,zL⟩;clear h0 h1 h2 h3 h4 tm k3;rintro z A H3 ⟨rfl,t0,t1,t2,t4,A0,B0⟩;have hid:=hs.lt;refine R1.og λK2 q1 q2 q3 q4=>?_;refine zW tyF ?_;refine zG (qA tyF Uf) λK5 P1=>?_;refine WE.con (VQ hm H3 id gen n d a b hs hN hab hb (by omega)) λw' H4 g4⟨hw,hs4⟩=>?_;subst hw;obtain⟨x1,x2⟩:=Go.Sort.insertionSort_holds hsw d a b hab (by have:=hs.sz;omega)
 replace x1:Hd _:=x1;replace x2:Hd _:=x2;replace hs4:Hd _:=hs4;refine zK tyF ?_;exact q4.out _ _ (k4.out _ _ ⟨_,_,bX (.inr rfl) qe,g4,λ_=>⟨rfl,_,hs4.out,x1.out,x2.out⟩⟩)
theorem Px(hm:Cmp c cf cl N)(hsw:Go.Sort.SWO (ltF cf))(H:Hp)(id gen n:Nat)(d:Array α)(hs:Srt c H id gen n d)(hN:N≤H.nx)(hn:n≤12):
  Con E2 143 [.one (.o (.sl id gen 0 n 4)),.one (.o (.clo cl []))] H (λk=>k=id) λr H'=>r=.tup []∧∃d',Srt c H' id gen n d'∧d'.toList.Perm d.toList∧Go.Sort.SortedIn (ltF cf) 0 n d':=by
 have hbd:=hm.bd;refine Con.of rfl λlg=>?_;have hs:Srt c ⟨H.t,H.nx,lg⟩ id gen n d:=hs;have hN:N≤(⟨H.t,H.nx,lg⟩:Hp).nx:=hN;generalize(⟨H.t,H.nx,lg⟩:Hp)=H at hs hN ⊢
 refine C1.body (E:=E2) (nt:=14) (res:=[]) Tryz.func143 rfl rfl rfl rfl rfl λtm z0=>?_;have h0:=z0 0 _ rfl;have h1:=z0 1 _ rfl;clear z0;have hid:=hs.lt;have N_:=hs.sz;have e1:IntKind.u64.wrap (n:Int)=(n:Int):=PL (by omega);have hb:=rE (show n≤65536 by omega);replace N_:Hd _:=N_;refine zW tyF ?_;refine zG (zDe tyU ixS (cvQ jB BK) PM) λK hK=>?_;refine WE.con (MH H n (by omega)) λw' H1 g1 hw=>?_;subst hw;have J5:=hs.fr g1 zB2;have hid1:=J5.lt;refine zS (qA tyF TV) ?_;refine WE.con (VY hm hsw id gen n (by omega) H1 d 0 n (Go.Sort.bitsLen n) J5 (zA2 hN g1.nx) (Nat.zero_le _) (zA1 _) (by omega) (by omega)) λw' H2 g2⟨hw,d',L3,hp,U_⟩=>?_;subst hw;replace L3:Hd _:=L3;replace hp:Hd _:=hp;replace U_:Hd _:=U_;refine zK tyF ?_;refine⟨_,_,bX (.inl rfl) qe,((Fr.refl (X:=λk=>k=id) H).then g1 λ_ h=>h.elim).then g2 λ_ h=>.inr h,λ_=>⟨rfl,d',L3.out,?_,U_.out⟩⟩
 have h3:=hp.out.2.2;have e2:n=d.size:=N_.out.symm;have e3:n=d'.size:=L3.out.1.symm;rw[show d'.extract 0 n=d' from by rw[e3];exact Array.extract_size,show d.extract 0 n=d from by rw[e2];exact Array.extract_size]at h3;exact h3
end
theorem UT:ao Tryz.prog 171=true:=by kernel_rfl
theorem Ko:ao Tryz.prog 170=true:=by kernel_rfl
theorem Mv:ao Tryz.prog 146=true:=by kernel_rfl
def FxB(x:Fx):Prop:=(0≤x.1∧x.1≤64)∧1≤x.2.2.1∧x.2.2.1≤1099511627776
def cxF(x y:Fx):Int:=if x.1≠y.1 then x.1-y.1 else x.2.2.1-y.2.2.1
def jW:List Fx->List Fx->Int
 |[],[]=>0
 |[],_::_=>-1
 |_::_,[]=>1
 |x::a,y::b=>if cxF x y≠0 then cxF x y else jW a b
theorem wC:∀a b:List Fx,(jW a b<0↔cT a b=true)∧(jW a b=0↔eu a=eu b)
 |[],[]=>by simp[jW,cT,eu]
 |[],_::_=>by simp[jW,cT,eu]
 |_::_,[]=>by simp[jW,cT,eu]
 |x::a,y::b=>by
  obtain⟨h1,h2⟩:=wC a b
  have e:eu (x::a)=eu (y::b)↔(x.1=y.1∧x.2.2.1=y.2.2.1)∧eu a=eu b:=by
   show(x.1,x.2.2.1)::eu a=(y.1,y.2.2.1)::eu b↔_
   rw[List.cons.injEq,Prod.mk.injEq]
  rw[e,jW,cT];unfold cxF;by_cases c1:x.1≠y.1
  ·rw[zB0 c1,zB0 (show x.1-y.1≠0 by omega),zB0 c1,decide_eq_true_eq];exact⟨by omega,⟨λh=>by omega,λh=>absurd h.1.1 c1⟩⟩
  rw[zB1 c1,zB1 c1];by_cases c2:x.2.2.1≠y.2.2.1
  ·rw[zB0 (show x.2.2.1-y.2.2.1≠0 by omega),zB0 c2,decide_eq_true_eq];exact⟨by omega,⟨λh=>by omega,λh=>absurd h.1.2 c2⟩⟩
  rw[zB1 (show¬x.2.2.1-y.2.2.1≠0 by omega),zB1 c2];exact⟨h1,h2.trans ⟨λh=>⟨⟨by omega,by omega⟩,h⟩,λh=>h.2⟩⟩
def Yq(found:List (List Fx))(f:List Fx)(i:Nat):Prop:=i≤found.length∧(∀j g,j<i->found[j]?=some g->cT g f=true)∧∀j g,i≤j->found[j]?=some g->cT g f=false
theorem Tr(H:Hp)(x y:Fx)(hx:FxB x)(hy:FxB y):Con E2 171 [.agg (fxC x),.agg (fxC y)] H (λ_=>False) λr _=>r=.one (.i .i64 (cxF x y)):=by
 refine Con.of rfl λlg=>?_;generalize(⟨H.t,H.nx,lg⟩:Hp)=H
 obtain⟨x1,x2,x3,x4⟩:=x
 obtain⟨y1,y2,y3,y4⟩:=y
 have bx:(0≤x1∧x1≤64)∧1≤x3∧x3≤1099511627776:=hx;have bv:(0≤y1∧y1≤64)∧1≤y3∧y3≤1099511627776:=hy;have hw:IntKind.i64.wrap (x1-y1)=x1-y1:=aP (by omega) (by omega);have B3:IntKind.i64.wrap (x3-y3)=x3-y3:=aP (by omega) (by omega);show C1 E2 _ [.agg [.i .i64 x1,.i .i64 x2,.i .i64 x3,.i .i64 x4],.agg [.i .i64 y1,.i .i64 y2,.i .i64 y3,.i .i64 y4]] H λv h'=>Fr _ H h'∧∀_:List Nat,v=.one (.i .i64 (if x1≠y1 then x1-y1 else x3-y3));clear hx hy bx bv;refine C1.body (E:=E2) (nt:=20) (res:=[.tmp 4]) Tryz.func171 rfl rfl rfl rfl rfl λtm z0=>?_;have h0:=z0 0 _ rfl;have h1:=z0 1 _ rfl;clear z0;by_cases hq:x1=y1
 ·have ce:(x1==y1)=true:=beq_iff_eq.2 hq;rw[zB1 (λh=>h hq)];clear hq;refine zW tyF ?_;exact⟨_,_,aj (.i .i64 (x3-y3)) (.inr rfl) qe qp,((Fr.refl _).new _).new _,λ_=>rfl⟩
 have ce:(x1==y1)=false:=zB5 hq;rw[zB0 hq];clear hq;refine zW tyF ?_;exact⟨_,_,aj (.i .i64 (x1-y1)) (.inr rfl) qe qp,((Fr.refl _).new _).new _,λ_=>rfl⟩
theorem RH(H:Hp)(v w:AC)(l k:List Fx)(hv:SlF H v l)(hw:SlF H w k)(hl:∀x∈l,FxB x)(hk:∀x∈k,FxB x)(hL:l.length≤1000000)(hK:k.length≤1000000):
  Con E2 170 [.one v,.one w,.one (.o (.clo 171 []))] H (λ_=>False) λr _=>r=.one (.i .i64 (jW l k)):=by
 refine Con.of rfl λlg=>?_;have hv:SlF ⟨H.t,H.nx,lg⟩ v l:=hv;have hw:SlF ⟨H.t,H.nx,lg⟩ w k:=hw;generalize(⟨H.t,H.nx,lg⟩:Hp)=H at hv hw ⊢
 refine C1.body (E:=E2) (nt:=39) (res:=[.tmp 6]) Tryz.func170 rfl rfl rfl rfl rfl λtm z0=>?_;have h0:=z0 0 _ rfl;have h1:=z0 1 _ rfl;have h2:=z0 2 _ rfl;clear z0;have fin:∀(e:Int)(A:aa)(H3:Hp),slot A.tm 6=.one (.i .i64 e)->A.dfr=[]->Gr H H3->e=jW l k->∃w H4,aC E2 [.tmp 6] (.ret,A,H3)=.ok [(w,H4)]∧Gr H H4∧∀_:List Nat,w=.one (.i .i64 (jW l k)):=λe A H3 h1 h2 h3 h4=>⟨_,H3,aj (.i .i64 e) (.inr rfl) h2 h1,h3,λ_=>by rw[h4]⟩;generalize G0:jW l k=r0 at fin;have l1:=hv.len;have l3:=hv.lt;have l4:=hw.lt;refine zW tyF ?_;refine R1.fb λK k1 k2 k3 k4=>?_;refine R1.loop (λm A H2=>∃i:Nat,m=l.length-i∧i≤l.length∧i≤k.length∧jW (l.drop i) (k.drop i)=r0∧Gr H H2∧slot A.tm 0=.one (v)∧slot A.tm 1=.one (w)∧slot A.tm 2=.one ((.o (.clo 171 [])))∧slot A.tm 11=.one (v)∧slot A.tm 12=.one (.i .i64 (l.length:Int))∧slot A.tm 13=.one (.i .i64 (i:Int))∧A.nt=39∧A.dfr=[]) ?_ l.length ⟨0,rfl,Nat.zero_le _,Nat.zero_le _,G0,Fr.refl _,zL⟩;clear h0 h1 h2 tm l1 l3 l4 k3 G0;rintro m A H2 ⟨i,rfl,hi,hik,hr,g2,t0,t1,t2,t11,t12,t13,A0,B0⟩;have R6:=hv.gr g2;have P9:=hw.gr g2;have m1:=R6.len;have m2:=P9.len;have m3:=R6.lt;have m4:=P9.lt;refine zW tyF ?_;refine zI tyF (λhc=>?_) (λhc=>?_)
 ·have C0:i<l.length:=by omega
  have ex:=zB4 C0;have N0:=zC1 C0;have I2:=zC2 C0;have E0:l[i]∈l:=List.getElem_mem C0;generalize l[i]=x at ex N0 I2 E0;have B3:=zC0 i (by omega);have bx:=hl x E0;obtain⟨id,g,off,cells,rfl,hid,B1,K0⟩:=R6.open (by omega)
  have O0:=K0 i x ex;have y1:=O0.all;have y2:=O0.le;clear K0 O0 ex I2 E0;rw[N0]at hr;refine zW tyF ?_;refine R1.fb λK2 q1 q2 q3 q4=>?_;rw[fxC]at y1;obtain⟨x1,x2,x3,x4⟩:=x
  refine zG (qA tyF (ixC C0)) λK hK=>?_;refine hK.out _ _ ?_;refine R1.gen (λA1 H1=>Gr H2 H1∧H2.nx<H1.nx∧H1.get H2.nx=some (.arr [.i .i64 x1,.i .i64 x2,.i .i64 x3,.i .i64 x4] 80 0 0)∧slot A1.tm 0=.one ((.o (.sl id g off l.length 4)))∧slot A1.tm 1=.one (w)∧slot A1.tm 2=.one ((.o (.clo 171 [])))∧slot A1.tm 7=.one (.i .i64 (i:Int))∧slot A1.tm 8=.one ((.o (.ptr H2.nx 0 0 4)))∧slot A1.tm 11=.one ((.o (.sl id g off l.length 4)))∧slot A1.tm 12=.one (.i .i64 (l.length:Int))∧slot A1.tm 13=.one (.i .i64 (i:Int))∧A1.nt=39∧A1.dfr=[])
   ⟨((Fr.refl _).new _).mod _ (.inl (zA1 _)),zA6 _,an rfl,zL⟩ ?_
  clear t0 t1 t2 t11 t12 t13 A0 B0 A B1 hid y1 y2 hK K m1 m2 m3 m4;rintro A H3 ⟨g3,n3,rx,t0,t1,t2,t7,t8,t11,t12,t13,A0,B0⟩;have I5:=P9.gr g3;have m2:=I5.len;have m4:=I5.lt;by_cases x_:i<k.length
  ·have N7:¬((k.length:Int)≤(i:Int)):=by omega
   have ey:k[i]?=some k[i]:=zB4 x_;have hdk:k.drop i=k[i]::k.drop (i+1):=List.drop_eq_getElem_cons x_;have E0:k[i]∈k:=List.getElem_mem x_;generalize k[i]=y at ey hdk E0;have bv:=hk y E0;rw[hdk,jW]at hr;obtain⟨id',g',off',cells',rfl,G6,hgr',S8⟩:=I5.open (by omega)
   have M6:=S8 i y ey;have y3:=M6.all;have y4:=M6.le;clear S8 M6 ey E0 hdk N0;rw[fxC]at y3;obtain⟨z1,z2,z3,z4⟩:=y
   refine zW (qA tyF (ixC x_)) ?_;refine zG (qA tyF UT) λK hK=>?_;refine WE.con (Tr _ (x1,x2,x3,x4) (z1,z2,z3,z4) bx bv) λw' H4 g4 hq=>?_;subst hq;generalize cxF (x1,x2,x3,x4) (z1,z2,z3,z4)=c at hr;have g24:Gr H2 H4:=((g3.new _).mod _ (.inl g3.nx)).gr g4;by_cases hcz:c=0
   ·have ce:(c==0)=true:=beq_iff_eq.2 hcz;rw[zB1 (λh=>h hcz)]at hr;clear hcz;refine zK tyF ?_;refine q1.out _ _ ?_;refine zW tyF ?_;exact⟨l.length-(i+1),by omega,i+1,rfl,C0,x_,hr,g2.gr g24,zL⟩
   have ce:(c==0)=false:=zB5 hcz;replace hr:Hd _:=hr;replace hcz:Hd _:=hcz;refine zK tyF ?_;exact q4.out _ _ (k4.out _ _ (fin (c) _ _ qp qe (g2.gr g24) ((by have h:=hr.out;rw[zB0 hcz.out]at h;exact h))))
  have N7:(k.length:Int)≤(i:Int):=by omega
  have Q3:k.drop i=[]:=List.drop_of_length_le (by omega);rw[Q3,jW]at hr;replace hr:Hd _:=hr;clear x_ Q3 N0;refine zW tyF ?_;exact q4.out _ _ (k4.out _ _ (fin (1) _ _ qp qe (g2.gr g3) (hr.out)))
 have S1:i=l.length:=by omega
 refine zW tyF ?_;refine k2.out _ _ ?_;rw[S1,List.drop_length]at hr;by_cases I3:l.length<k.length
 ·have N7:((l.length:Int)<(k.length:Int)):=by omega
  have hdk:k.drop l.length=k[l.length]::k.drop (l.length+1):=List.drop_eq_getElem_cons I3;rw[hdk,jW]at hr;replace hr:Hd _:=hr;clear hdk S1 I3 hc;refine zW tyF ?_;exact fin (-1) _ _ qp qe (g2) (hr.out)
 have N7:¬((l.length:Int)<(k.length:Int)):=by omega
 have hdk:k.drop l.length=[]:=List.drop_of_length_le (by omega);rw[hdk,jW]at hr;replace hr:Hd _:=hr;clear hdk S1 I3 hc;refine zW tyF ?_;exact fin (0) _ _ qp qe (g2) (hr.out)
theorem ED(H:Hp)(v w:AC)(l k:List Fx)(hv:SlF H v l)(hw:SlF H w k)(hl:∀x∈l,FxB x)(hk:∀x∈k,FxB x)(hL:l.length≤1000000)(hM:k.length≤1000000):
  Con E2 146 [.one v,.one w] H (λ_=>False) λr _=>r=.one (.i .i64 (jW l k)):=by
 refine Con.of rfl λlg=>?_;have hv:SlF ⟨H.t,H.nx,lg⟩ v l:=hv;have hw:SlF ⟨H.t,H.nx,lg⟩ w k:=hw;generalize(⟨H.t,H.nx,lg⟩:Hp)=H at hv hw ⊢
 refine C1.body (E:=E2) (nt:=8) (res:=[.tmp 4]) Tryz.func146 rfl rfl rfl rfl rfl λtm z0=>?_;have h0:=z0 0 _ rfl;have h1:=z0 1 _ rfl;clear z0;have l3:=hv.lt;have l4:=hw.lt;refine zG (qA tyF Ko) λK hK=>?_;refine hK.out _ _ ?_;refine zG (qA tyF Ko) λK hK=>?_;refine WE.con (RH H v w l k hv hw hl hk hL hM) λw' H2 g2 hq=>?_;subst hq;refine zK tyF ?_;exact⟨_,_,aj (.i .i64 (jW l k)) (.inr rfl) qe qp,g2,λ_=>rfl⟩
theorem YC:ao Tryz.prog 145=true:=by kernel_rfl
theorem tyR:type_of% (zDm tyU Ni LJ tV LA LN JY Nf yi yn Ax (zDm AL yQ AD GG Hc Sb TK Sr Qj Ro Ry (zDe Qu Ua QO RJ))):=
 zDm tyU Ni LJ tV LA LN JY Nf yi yn Ax (zDm AL yQ AD GG Hc Sb TK Sr Qj Ro Ry (zDe Qu Ua QO RJ))
def FnR(H:Hp)(c:List AC)(f:List Fx):Prop:=∃v,c=[v]∧SlF H v f
theorem FnR.gr{H H':Hp}{c:List AC}{f:List Fx}(h:FnR H c f)(hg:Gr H H'):FnR H' c f:=let ⟨u,h1,h2⟩:=h;⟨u,h1,h2.gr hg⟩
def tF(H:Hp)(v:AC)(l:List (List Fx)):Prop:=SlR FnR 1 H v l
theorem tF.gr{H H':Hp}{v:AC}{l:List (List Fx)}(h:tF H v l)(hg:Gr H H'):tF H' v l:=SlR.dG h hg.nx (λi hi=>hg.get i hi zB2) λ_ _ h=>h.gr hg
theorem tF.len{H:Hp}{v:AC}{l:List (List Fx)}(h:tF H v l):cW H 1 (.one v)=.val (.one (.i .i64 (l.length:Int))) H:=SlR.len h
theorem tF.lt{H:Hp}{v:AC}{l:List (List Fx)}(h:tF H v l):ltV (.one v) H.nx:=SlR.lt h
theorem tF.open{H:Hp}{v:AC}{l:List (List Fx)}(h:tF H v l)(hn:0<l.length):∃id g off cells,v=.o (.sl id g off l.length 1)∧id<H.nx∧rowOf (H.get id) g=some cells∧∀(i:Nat)(x:List Fx),l[i]?=some x->∃u,SlF H u x∧(cells.drop (off+i*1)).headD (.b false)=u∧off+i*1+1≤cells.length:=by
 obtain⟨id,g,off,cells,h1,h2,h3,h4⟩:=SlR.open h hn
 refine⟨id,g,off,cells,h1,h2,h3,λi x hx=>?_⟩
 obtain⟨h5,c,h6,h7,u,rfl,h8⟩:=h4 i x hx
 refine⟨u,h8,?_,h5⟩
 cases hd:cells.drop (off+i*1)with
 |nil=>rw[hd]at h6;cases h6
 |cons a l=>
  rw[hd]at h6;have:[a]=[u]:=h6;cases this;rfl
theorem FL{found:List (List Fx)}{f:List Fx}(hs:Jf found){i j:Nat}{g h:List Fx}(hij:i≤j)(hg:found[i]?=some g)(hh:found[j]?=some h):(cT h f=true->cT g f=true)∧(cT g f=false->cT h f=false):=by
 have key:cT h f=true->cT g f=true:=λhb=>by
  rcases Nat.lt_or_ge i j with h1|h1
  ·obtain⟨a,rfl⟩:=List.getElem?_eq_some_iff.1 hg
   obtain⟨b,rfl⟩:=List.getElem?_eq_some_iff.1 hh
   exact jI (List.pairwise_iff_getElem.1 hs i j a b h1) hb
  have:i=j:=by omega
  subst this;rw[hg]at hh;cases hh;exact hb
 refine⟨key,λhb=>?_⟩
 cases hk:cT h f with
 |false=>rfl
 |true=>rw[key hk]at hb;cases hb
theorem Vo(H:Hp)(v w:AC)(l:List (List Fx))(f:List Fx)(hv:tF H v l)(hw:SlF H w f)(hs:Jf l)(hb:∀g∈l,(∀x∈g,FxB x)∧g.length≤1000000)(hf:∀x∈f,FxB x)(m9:f.length≤1000000)(hL:l.length≤1000000):
  Con E2 145 [.one v,.one w,.one (.o (.clo 146 []))] H (λ_=>False) λr _=>∃(i:Nat)(b:Bool),r=.tup [(false,[.i .i64 (i:Int)]),(false,[.b b])]∧Yq l f i∧(b=true↔∃g,l[i]?=some g∧eu g=eu f):=by
 refine Con.of rfl λlg=>?_;have hv:tF ⟨H.t,H.nx,lg⟩ v l:=hv;have hw:SlF ⟨H.t,H.nx,lg⟩ w f:=hw;generalize(⟨H.t,H.nx,lg⟩:Hp)=H at hv hw ⊢
 refine C1.body (E:=E2) (nt:=49) (res:=[.tmp 6,.tmp 7]) Tryz.func145 rfl rfl rfl rfl rfl λtm z0=>?_;have h0:=z0 0 _ rfl;have h1:=z0 1 _ rfl;have h2:=z0 2 _ rfl;clear z0;have l1:=hv.len;have l3:=hv.lt;have l4:=hw.lt;refine zW tyR ?_;refine R1.fb λK k1 k2 k3 k4=>?_;refine R1.loop (λm A H2=>∃i j:Nat,m=j-i∧i≤j∧j≤l.length∧(∀q g,q<i->l[q]?=some g->cT g f=true)∧(∀q g,j≤q->l[q]?=some g->cT g f=false)∧Gr H H2∧slot A.tm 0=.one (v)∧slot A.tm 1=.one (w)∧slot A.tm 2=.one ((.o (.clo 146 [])))∧slot A.tm 8=.one (.i .i64 (l.length:Int))∧slot A.tm 9=.one (.i .i64 (i:Int))∧slot A.tm 10=.one (.i .i64 (j:Int))∧A.nt=49∧A.dfr=[]) ?_ l.length
  ⟨0,l.length,rfl,Nat.zero_le _,zA1 _,λq g h=>absurd h (Nat.not_lt_zero q),λq g h hg=>(by rw[List.getElem?_eq_none h]at hg;cases hg),Fr.refl _,zL⟩
 clear h0 h1 h2 tm l1 l3 l4 k3;rintro m A H2 ⟨i,j,rfl,hij,C8,C6,I9,g2,t0,t1,t2,t8,t9,t10,A0,B0⟩;have R6:=hv.gr g2;have P9:=hw.gr g2;have m1:=R6.len;have m3:=R6.lt;have m4:=P9.lt;replace C6:Hd _:=C6;replace I9:Hd _:=I9;by_cases hc:i<j
 ·have q9:(i:Int)<(j:Int):=by omega
  have e0:shF .shr .u64 ((i+j:Nat):Int) 1=(((i+j)/2:Nat):Int):=SD (k:=1) (by decide);have e1:IntKind.i64.wrap ((i:Int)+(j:Int))=((i+j:Nat):Int):=by rw[aP (by omega) (by omega)];omega
  have e2:IntKind.u64.wrap ((i+j:Nat):Int)=((i+j:Nat):Int):=PL (by omega);have e3:IntKind.i64.wrap (((i+j)/2:Nat):Int)=(((i+j)/2:Nat):Int):=aP (by omega) (by omega);obtain⟨h,hh⟩:∃h,h=(i+j)/2:=⟨_,rfl⟩
  have hih:i≤h:=by omega
  have hhj:h<j:=by omega
  rw[<-hh]at e0 e3;clear hh;have C0:h<l.length:=by omega
  have ex:l[h]?=some l[h]:=zB4 C0;have E0:l[h]∈l:=List.getElem_mem C0;generalize l[h]=g at ex E0;obtain⟨bg,bgl⟩:=hb g E0
  obtain⟨id,gg,off,cells,rfl,hid,B1,K0⟩:=R6.open (by omega)
  obtain⟨u,hu,y1,y2⟩:=K0 h g ex
  have lu:=hu.lt;have e4:=zC0 h (by omega);replace ex:Hd _:=ex;clear K0 E0;refine zW (qA tyR (shI (op:=.shr) (show(0:Int)≤1 by decide))) ?_;refine R1.og λK2 q1 q2 q3 q4=>?_;refine zW (zDf tyR (shI (op:=.shr) (show(0:Int)≤1 by decide)) ixS (cvQ jB BK) (cvQ BK jB)) ?_;refine zG (zDd tyR (ixC C0) Mv) λK5 P1=>?_;refine WE.con (ED H2 u w g f hu P9 bg hf bgl m9) λw' H3 g3 hq=>?_;subst hq;obtain⟨c1,c2⟩:=wC g f
  generalize jW g f=c at c1 c2;replace c1:Hd _:=c1;replace c2:Hd _:=c2;by_cases hcn:c<0
  ·refine zK tyR ?_;refine q1.out _ _ ?_;refine⟨j-(h+1),by omega,h+1,j,rfl,by omega,C8,λq g' hq Y1=>?_,I9.out,g2.gr g3,zL⟩
   exact(FL hs (show q≤h by omega) Y1 ex.out).1 (c1.out.1 hcn)
  refine zK tyR ?_;refine q1.out _ _ ?_;refine⟨h-i,by omega,i,h,rfl,hih,by omega,C6.out,λq g' hq Y1=>?_,g2.gr g3,zL⟩
  refine(FL hs hq ex.out Y1).2 ?_
  cases hk:cT g f with
  |false=>rfl
  |true=>exact absurd (c1.out.2 hk) hcn
 have q9:¬(i:Int)<(j:Int):=by omega
 have hij2:i=j:=by omega
 subst hij2;refine zW tyR ?_;refine k2.out _ _ ?_;have fin:∀(b:Bool)(A:aa)(H3:Hp),slot A.tm 6=.one (.i .i64 (i:Int))->slot A.tm 7=.one (.b b)->A.dfr=[]->Gr H H3->(b=true↔∃g,l[i]?=some g∧eu g=eu f)->∃w H4,aC E2 [.tmp 6,.tmp 7] (.ret,A,H3)=.ok [(w,H4)]∧Gr H H4∧∀_:List Nat,∃(i:Nat)(b:Bool),w=.tup [(false,[.i .i64 (i:Int)]),(false,[.b b])]∧Yq l f i∧(b=true↔∃g,l[i]?=some g∧eu g=eu f):=λb A H3 h1 h2 h3 h4 h5=>
  ⟨_,H3,aZ (.i .i64 (i:Int)) (.b b) (.inr rfl) h3 h1 h2,h4,λ_=>⟨i,b,rfl,⟨C8,C6.out,I9.out⟩,h5⟩⟩
 by_cases C0:i<l.length
 ·have hlti:(i:Int)<(l.length:Int):=by omega
  have ex:=zB4 C0;have E0:l[i]∈l:=List.getElem_mem C0;generalize l[i]=g at ex E0;obtain⟨bg,bgl⟩:=hb g E0
  obtain⟨id,gg,off,cells,rfl,hid,B1,K0⟩:=R6.open (by omega)
  obtain⟨u,hu,y1,y2⟩:=K0 i g ex
  have lu:=hu.lt;replace ex:Hd _:=ex;replace fin:Hd _:=fin;clear K0 E0;refine zG (zDd tyR (ixC C0) Mv) λK5 P1=>?_;refine WE.con (ED H2 u w g f hu P9 bg hf bgl m9) λw' H3 g3 hq=>?_;subst hq;obtain⟨c1,c2⟩:=wC g f
  generalize jW g f=c at c1 c2;replace c1:Hd _:=c1;replace c2:Hd _:=c2;refine zK tyR ?_;refine fin.out (c==0) _ _ qp qp qe (g2.gr g3) ?_;rw[beq_iff_eq];refine c2.out.trans ⟨λh=>⟨g,ex.out,h⟩,λ⟨g',h1,h2⟩=>?_⟩;rw[ex.out]at h1;cases h1;exact h2
 have hlti:¬(i:Int)<(l.length:Int):=by omega
 have ex:l[i]?=none:=List.getElem?_eq_none (by omega);replace ex:Hd _:=ex;replace fin:Hd _:=fin;refine zW tyR ?_;refine fin.out false _ _ qp qp qe g2 ⟨λh=>(by cases h),λ⟨g',h1,_⟩=>?_⟩;rw[ex.out]at h1;cases h1
theorem AZ:ao Tryz.prog 101=true:=by kernel_rfl
theorem Ws:ao Tryz.prog 144=true:=by kernel_rfl
theorem HM:Tryz.prog.underlying 30=some (.slice 80):=by kernel_rfl
theorem Dv:aR Tryz.prog 30=1:=by kernel_rfl
theorem oJ:type_of% (Lv Dv HM):=Lv Dv HM
def oZ(H:Hp)(v:AC)(l:List Fx)(r:Option Nat):Prop:=dg H v 80 4 l.length (l.flatMap fxC) r
theorem oZ.slF{H:Hp}{v:AC}{l:List Fx}{r:Option Nat}(h:oZ H v l r):SlF H v l:=dg.slc h
theorem wJ(H:Hp)(v:AC)(l:List Fx)(hv:SlF H v l)(hL:l.length*32≤140737488355328):
  Con E2 101 [.one v] H (λ_=>False) λr H'=>∃v' q,r=.one v'∧oZ H' v' l q∧∀i,q=some i->H.nx≤i:=by
 refine Con.of rfl λlg=>?_;have hv:SlF ⟨H.t,H.nx,lg⟩ v l:=hv;have e0:H.nx=(⟨H.t,H.nx,lg⟩:Hp).nx:=rfl;rw[e0];clear e0;generalize(⟨H.t,H.nx,lg⟩:Hp)=H at hv ⊢
 refine C1.body (E:=E2) (nt:=8) (res:=[.tmp 2]) Tryz.func101 rfl rfl rfl rfl rfl λtm z0=>?_;have h0:=z0 0 _ rfl;clear z0;obtain⟨z,hz,B2⟩:=Ii
 have Z3:SlC H v 4 l.length (l.flatMap fxC):=hv;have C0:=hv.lt;rcases id Z3 with⟨hc,⟨rfl,J2⟩|⟨id,g,off,rfl,hid,hr⟩⟩
 ·have hl:l=[]:=List.eq_nil_of_length_eq_zero J2;subst hl;clear hz B2 z Z3 hc J2 hv;refine zW (qA tyF oJ) ?_;exact⟨_,_,aj (.o .nilS) (.inr rfl) qe qp,Fr.refl _,λ_=>⟨_,none,rfl,.inl ⟨rfl,rfl,rfl,rfl⟩,λi h=>by cases h⟩⟩
 obtain⟨v',H',Q2,ho,hf⟩:=yT (P:=Tryz.prog) (H:=H.new (.arr [] 80 0 0)) (t:=30) (id:=H.nx) mK Ju hz B2 (by decide) (aB rfl) (zA6 _) (Z3.gr ((Fr.refl _).new _)) (by omega)
 have hg:Gr H H':=((Fr.refl _).new _).then hf λi h=>.inl (by omega);have D2:=ho.lt;clear hz B2 z hc;replace hv:Hd _:=hv;replace Z3:Hd _:=Z3;replace hr:Hd _:=hr;replace hf:Hd _:=hf;refine zW (zDd tyF oJ Xb) ?_;exact⟨_,_,aj v' (.inr rfl) qe qp,hg,λ_=>⟨v',some H.nx,rfl,ho,λi h=>by cases h;exact zA1 _⟩⟩
abbrev FxN:={x:Fx // 0≤x.1∧x.1≤64}
instance:Inhabited FxN:=⟨⟨(0,0,0,0),⟨Int.le_refl _,by decide⟩⟩⟩
def fxN(x:FxN):List AC:=fxC x.1
def cfX(x y:FxN):Int:=x.1.1-y.1.1
theorem QB(H:Hp)(x y:FxN):Con E2 144 [.agg (fxN x),.agg (fxN y)] H (λ_=>False) λr _=>r=.one (.i .i64 (cfX x y)):=by
 refine Con.of rfl λlg=>?_;generalize(⟨H.t,H.nx,lg⟩:Hp)=H
 obtain⟨⟨x1,x2,x3,x4⟩,hx⟩:=x
 obtain⟨⟨y1,y2,y3,y4⟩,hy⟩:=y
 replace hx:0≤x1∧x1≤64:=hx;replace hy:0≤y1∧y1≤64:=hy;have hw:IntKind.i64.wrap (x1-y1)=x1-y1:=aP (by omega) (by omega);show C1 E2 _ [.agg [.i .i64 x1,.i .i64 x2,.i .i64 x3,.i .i64 x4],.agg [.i .i64 y1,.i .i64 y2,.i .i64 y3,.i .i64 y4]] H λv h'=>Fr _ H h'∧∀_:List Nat,v=.one (.i .i64 (x1-y1));clear hx hy;refine C1.body (E:=E2) (nt:=10) (res:=[.tmp 4]) Tryz.func144 rfl rfl rfl rfl rfl λtm z0=>?_;have h0:=z0 0 _ rfl;have h1:=z0 1 _ rfl;clear z0;refine zW tyF ?_;exact⟨_,_,aj (.i .i64 (x1-y1)) (.inr rfl) qe qp,((Fr.refl _).new _).new _,λ_=>rfl⟩
theorem cmpT:Cmp fxN cfX 144 0 where
 len:=λx=>rfl
 lt:=λx i hi=>by
  obtain⟨⟨x1,x2,x3,x4⟩,hx⟩:=x
  have:i∈([]:List Nat):=hi;cases this
 bd:=Ws
 con:=λH x y _=>QB H x y
theorem swoT:Go.Sort.SWO (ltF cfX)where
 irrefl:=λx=>by unfold ltF cfX;exact decide_eq_false (by omega)
 trans:=λx y z h1 h2=>by
  unfold ltF cfX at *;rw[decide_eq_true_eq]at *;omega
 ntrans:=λx y z h1 h2=>by
  unfold ltF cfX at *;rw[decide_eq_false_iff_not]at *;omega
theorem RV(H:Hp)(cl:FuncId):Con E2 182 [.one (.o .nilS),.one (.i .i64 0),.one (.i .i64 0),.one (.o (.clo cl []))] H (λ_=>False) λr _=>r=.tup []:=by
 refine Con.of rfl λlg=>?_;generalize(⟨H.t,H.nx,lg⟩:Hp)=H
 refine C1.body (E:=E2) (nt:=53) (res:=[]) Tryz.func182 rfl rfl rfl rfl rfl λtm z0=>?_;have h0:=z0 0 _ rfl;have h1:=z0 1 _ rfl;have h2:=z0 2 _ rfl;have h3:=z0 3 _ rfl;clear z0;have hw:IntKind.i64.wrap (0+1)=1:=by decide
 refine zW tyF ?_;refine R1.og λK k1 k2 k3 k4=>?_;refine R1.loop (λz A H1=>Gr H H1∧slot A.tm 2=.one (.i .i64 (0:Int))∧slot A.tm 8=.one (.i .i64 (1:Int))∧A.nt=53∧A.dfr=[]) ?_ 0 ⟨Fr.refl _,zL⟩;clear h0 h1 h2 h3 tm k3;rintro z A H1 ⟨g1,t2,t8,A0,B0⟩;have hc:¬(1:Int)<0:=by decide
 refine zW tyF ?_;refine k2.out _ _ ?_;exact⟨_,_,bX (.inl rfl) qe,g1,λ_=>rfl⟩
theorem Rw(H:Hp)(cl:FuncId):Con E2 169 [.one (.o .nilS),.one (.i .i64 0),.one (.i .i64 0),.one (.i .i64 0),.one (.o (.clo cl []))] H (λ_=>False) λr _=>r=.tup []:=by
 refine Con.of rfl λlg=>?_;generalize(⟨H.t,H.nx,lg⟩:Hp)=H
 refine C1.body (E:=E2) (nt:=148) (res:=[]) Tryz.func169 rfl rfl rfl rfl rfl λtm z0=>?_;have h0:=z0 0 _ rfl;have h1:=z0 1 _ rfl;have h2:=z0 2 _ rfl;have h3:=z0 3 _ rfl;have h4:=z0 4 _ rfl;clear z0;have hw:IntKind.i64.wrap (0-0)=0:=by decide
 refine zW tyF ?_;refine R1.og λK k1 k2 k3 k4=>?_;refine R1.loop (λz A H1=>Gr H H1∧slot A.tm 0=.one ((.o .nilS))∧slot A.tm 1=.one (.i .i64 (0:Int))∧slot A.tm 2=.one (.i .i64 (0:Int))∧slot A.tm 4=.one ((.o (.clo cl [])))∧A.nt=148∧A.dfr=[]) ?_ 0 ⟨Fr.refl _,zL⟩;clear h0 h1 h2 h3 h4 tm k3;rintro z A H1 ⟨g1,t0,t1,t2,t4,A0,B0⟩;have hc:(0:Int)≤12:=by decide
 refine R1.og λK2 q1 q2 q3 q4=>?_;refine zW tyF ?_;refine zG (qA tyF Uf) λK5 P1=>?_;refine WE.con (RV H1 cl) λw' H2 g2 Y3=>?_;subst Y3;refine zK tyF ?_;exact q4.out _ _ (k4.out _ _ ⟨_,_,bX (.inr rfl) qe,g1.gr g2,λ_=>rfl⟩)
theorem Oc(H:Hp)(cl:FuncId):Con E2 143 [.one (.o .nilS),.one (.o (.clo cl []))] H (λ_=>False) λr _=>r=.tup []:=by
 refine Con.of rfl λlg=>?_;generalize(⟨H.t,H.nx,lg⟩:Hp)=H
 refine C1.body (E:=E2) (nt:=14) (res:=[]) Tryz.func143 rfl rfl rfl rfl rfl λtm z0=>?_;have h0:=z0 0 _ rfl;have h1:=z0 1 _ rfl;clear z0;have e1:IntKind.u64.wrap 0=0:=PL (x:=0) (by decide);have hlen:=MH H 0 (by decide);rw[show((0:Nat):Int)=0 from rfl,show((Go.Sort.bitsLen 0:Nat):Int)=0 from rfl]at hlen;replace hlen:Hd (Con E2 _ _ _ _ _):=hlen;refine zW tyF ?_;refine zG (zDe tyU ixS (cvQ jB BK) PM) λK hK=>?_;refine WE.con hlen.out λw' H1 g1 hw=>?_;subst hw;clear hlen;refine zS (qA tyF TV) ?_;refine WE.con (Rw H1 cl) λw' H2 g2 hw=>?_;subst hw;refine zK tyF ?_;exact⟨_,_,bX (.inl rfl) qe,g1.gr g2,λ_=>rfl⟩
def WN:(l:List Fx)->(∀x∈l,0≤x.1∧x.1≤64)->List FxN
 |[],_=>[]
 |x::l,h=>⟨x,h x (List.mem_cons_self ..)⟩::WN l λy hy=>h y (List.mem_cons_of_mem _ hy)
theorem rF:∀(l:List Fx)(h:∀x∈l,0≤x.1∧x.1≤64),(WN l h).map Subtype.val=l
 |[],_=>rfl
 |x::l,h=>by rw[WN,List.map_cons,rF l]
theorem rY:∀(l:List FxN),l.flatMap fxN=(l.map Subtype.val).flatMap fxC
 |[]=>rfl
 |x::l=>by rw[List.flatMap_cons,rY l,List.map_cons,List.flatMap_cons];rfl
theorem Oe(H:Hp)(v:AC)(l:List Fx)(r:Option Nat)(hv:oZ H v l r)(hl:∀x∈l,0≤x.1∧x.1≤64)(hn:l.length≤12):
  Con E2 143 [.one v,.one (.o (.clo 144 []))] H (λk=>r=some k) λq H'=>q=.tup []∧∃out,oZ H' v out r∧out.Perm l∧List.Pairwise (λx y:Fx=>¬y.1<x.1) out:=by
 rcases hv with⟨rfl,h0,_,rfl⟩|⟨id,lo,gen,rfl,rfl,hg,C6,hlen,hid⟩
 ·have j5:l=[]:=List.eq_nil_of_length_eq_zero h0;subst j5;intro lg;refine N1.mono (Oc H 144 lg) λw h'⟨h1,h2⟩=>⟨h1.mono λ_ h=>h.elim,λlg'=>⟨h2 lg',[],.inl ⟨rfl,rfl,rfl,rfl⟩,List.Perm.refl _,List.Pairwise.nil⟩⟩
 have hd:Srt fxN H id gen l.length (WN l hl).toArray:=by
  refine⟨?_,⟨lo,C6,?_⟩,hid⟩
  ·have:=congrArg List.length (rF l hl);rw[List.length_map]at this;rw[List.size_toArray];exact this
  rw[hg];unfold fz;rw[List.toList_toArray,rY,rF]
 intro lg;refine N1.mono (Px cmpT swoT H id gen l.length _ hd (Nat.zero_le _) (by omega) lg) λw h'⟨h1,h2⟩=>⟨h1.mono λk h=>by rw[h],λlg'=>?_⟩;obtain⟨h3,d',h4,h5,h6⟩:=h2 lg'
 refine⟨h3,d'.toList.map Subtype.val,?_,?_,?_⟩
 ·obtain⟨lo',hlo',Y1⟩:=h4.row
  have L1:(d'.toList.map Subtype.val).length=l.length:=by rw[List.length_map,Array.length_toList];exact h4.sz
  refine .inr ⟨id,lo',gen,rfl,by rw[L1],?_,hlo',by rw[wR Nv],h4.lt⟩;rw[Y1];unfold fz;rw[rY]
 ·have:=h5.map Subtype.val;rw[List.toList_toArray,rF]at this;exact this
 rw[List.pairwise_map,List.pairwise_iff_getElem];intro i j hi hj hij;rw[Array.length_toList,h4.sz]at hi hj;have h7:=h6 i j (Nat.zero_le _) hij hj;have hi':i<d'.size:=by rw[h4.sz];exact hi
 have R5:j<d'.size:=by rw[h4.sz];exact hj
 rw[getElem!_pos d' i hi',getElem!_pos d' j R5]at h7;unfold ltF cfX at h7;rw[decide_eq_false_iff_not]at h7;rw[Array.getElem_toList,Array.getElem_toList];omega
theorem WL:ao Tryz.prog 147=true:=by kernel_rfl
def Fnd(X:Nat->Prop)(H:Hp)(F:AC)(l:List (List Fx))(r:Option Nat):Prop:=
 (F=.o .nilS∧l=[]∧r=none)∨∃id gen lo us ex,F=.o (.sl id gen 0 l.length 1)∧r=some id∧H.get id=some (.arr (us++ex) 30 lo gen)∧lo≤gen∧id<H.nx∧¬X id∧0<l.length ∧
  Al (λu f=>SlF H u f∧∀k∈(AV.one u).ids,¬X k∧k≠id) us l
theorem Fnd.nil{X:Nat->Prop}{H:Hp}:Fnd X H (.o .nilS) [] none:=.inl ⟨rfl,rfl,rfl⟩
theorem Fnd.fr{X Y:Nat->Prop}{H H':Hp}{F:AC}{l:List (List Fx)}{r:Option Nat}(h:Fnd X H F l r)(hf:Fr Y H H')(hy:∀i,Y i->X i∨H.nx≤i):Fnd X H' F l r:=by
 rcases h with h|⟨id,gen,lo,us,ex,h1,h2,h3,h4,h5,h6,h7,h8⟩
 ·exact .inl h
 refine .inr ⟨id,gen,lo,us,ex,h1,h2,(hf.get id h5 λhh=>?_).trans h3,h4,zA0 h5 hf.nx,h6,h7,h8.mono λu f⟨a,b⟩=>⟨SlC.fr a hf λk hk hh=>?_,b⟩⟩
 ·rcases hy _ hh with h|h
  ·exact h6 h
  omega
 rcases hy _ hh with h|h
 ·exact(b k hk).1 h
 have:k<H.nx:=a.lt k hk;omega
theorem Fnd.gr{X:Nat->Prop}{H H':Hp}{F:AC}{l:List (List Fx)}{r:Option Nat}(h:Fnd X H F l r)(hf:Gr H H'):Fnd X H' F l r:=h.fr hf λ_ h=>h.elim
theorem Fnd.lt{X:Nat->Prop}{H:Hp}{F:AC}{l:List (List Fx)}{r:Option Nat}(h:Fnd X H F l r):ltV (.one F) H.nx:=by
 rcases h with⟨rfl,_⟩|⟨id,gen,lo,us,ex,rfl,_,_,_,h5,_⟩
 ·intro i hi;cases hi
 intro i hi;rw[List.mem_singleton.1 hi];exact h5
theorem MY{H:Hp}{Q:AC->List Fx->Prop}:∀{us:List AC}{l:List (List Fx)},Al (λu f=>SlF H u f∧Q u f) us l->Al (λc f=>c.length=1∧FnR H c f) (us.map λu=>[u]) l
 |[],[],_=>trivial
 |u::us,f::l,h=>⟨⟨rfl,u,rfl,h.1.1⟩,MY h.2⟩
 |[],_::_,h=>h.elim
 |_::_,[],h=>h.elim
theorem Fnd.len{X:Nat->Prop}{H:Hp}{F:AC}{l:List (List Fx)}{r:Option Nat}(h:Fnd X H F l r):cW H 1 (.one F)=.val (.one (.i .i64 (l.length:Int))) H:=by
 rcases h with⟨rfl,rfl,_⟩|⟨id,gen,lo,us,ex,rfl,_⟩<;>rfl
theorem wz:∀us:List AC,(us.map λu=>[u]).flatMap id=us
 |[]=>rfl
 |u::us=>by rw[List.map_cons,List.flatMap_cons,wz us];rfl
theorem Fnd.slff{X:Nat->Prop}{H:Hp}{F:AC}{l:List (List Fx)}{r:Option Nat}(h:Fnd X H F l r):tF H F l:=by
 rcases h with⟨rfl,rfl,_⟩|⟨id,gen,lo,us,ex,rfl,_,h3,h4,h5,_,_,h8⟩
 ·exact⟨[],⟨by simp,.inl ⟨rfl,rfl⟩⟩,trivial⟩
 have hl:=h8.len;refine⟨us.map λu=>[u],⟨?_,.inr ⟨id,gen,0,rfl,h5,us++ex,?_,?_,?_⟩⟩,MY h8⟩
 ·rw[wz];omega
 ·rw[h3];exact cG h4 (zA1 _)
 ·rw[List.length_append];omega
 rw[List.drop_zero,wz,Nat.mul_one,<-hl,List.take_left'];rfl
theorem PR{R:AC->List Fx->Prop}{u:AC}{f:List Fx}(hu:R u f):∀{us:List AC}{l:List (List Fx)}(i:Nat),Al R us l->Al R (us.take i++u::us.drop i) (l.take i++f::l.drop i)
 |[],[],i,_=>by simp only[List.take_nil,List.drop_nil,List.nil_append];exact⟨hu,trivial⟩
 |a::us,b::l,0,h=>⟨hu,h⟩
 |a::us,b::l,i+1,h=>⟨h.1,PR hu i h.2⟩
 |[],_::_,_,h=>h.elim
 |_::_,[],_,h=>h.elim
theorem Fnd.cut{X:Nat->Prop}{H:Hp}{id gen n:Nat}{l:List (List Fx)}{r:Option Nat}(h:Fnd X H (.o (.sl id gen 0 n 1)) l r):1≤n∧Fnd X H (.o (.sl id gen 0 1 1)) (l.take 1) r:=by
 rcases h with⟨h,_⟩|⟨id',gen',lo,us,ex,he,h2,h3,h4,h5,h6,h7,h8⟩
 ·cases h
 cases he
 refine⟨h7,?_⟩
 cases us with
 |nil=>cases l with
  |nil=>exact absurd h7 (Nat.lt_irrefl 0)
  |cons f l=>exact h8.elim
 |cons u us=>cases l with
  |nil=>exact h8.elim
  |cons f l=>exact .inr ⟨id,gen,lo,[u],us++ex,rfl,h2,h3,h4,h5,h6,Nat.one_pos,h8.1,trivial⟩
theorem Vk{H:Hp}{id vid n i vg lo vlo gen:Nat}{cells:List AC}{c:AC}(h1:H.get id=some (.arr cells 30 lo gen))(h2:H.get vid=some (.arr [c] 30 vlo vg))(h3:lo≤gen)(h4:vlo≤vg)(h5:id≠vid)(h6:i<n)(h7:n≤cells.length)(h8:(n+1)*24≤140737488355328):
  insA H [.one (.o (.sl id gen 0 n 1)),.one (.i .i64 (i:Nat)),.one (.o (.sl vid vg 0 1 1))]=some (.one (.o (.sl id (gen+1) 0 (n+1) 1)),id,.arr (insL cells n i c) 30 (gen+1) (gen+1)):=by
 unfold insA;have e1:((i:Int)).toNat=i:=Int.toNat_natCast i;have e2:(0:Int)≤(i:Int):=by omega
 simp only[h1,h2,e1,e2,h3,h4,h5,h6,h7,h8,and_self,ne_eq,not_false_eq_true,if_true]
theorem Qn{H:Hp}{id vid n i vg lo vlo gen:Nat}{cells:List AC}{c:AC}(h1:H.get id=some (.arr cells 30 lo gen))(h2:H.get vid=some (.arr [c] 30 vlo vg))(h3:lo≤gen)(h4:vlo≤vg)(h5:id≠vid)(h6:i<n)(h7:n≤cells.length)(h8:(n+1)*24≤140737488355328):
  Con E2 147 [.one (.o (.sl id gen 0 n 1)),.one (.i .i64 (i:Nat)),.one (.o (.sl vid vg 0 1 1))] H (λk=>k=id) λr H'=>r=.one (.o (.sl id (gen+1) 0 (n+1) 1))∧H'.nx=H.nx∧H'.get id=some (.arr (insL cells n i c) 30 (gen+1) (gen+1)):=
 Con.dZ (v:=.one (.o (.sl id (gen+1) 0 (n+1) 1))) (o:=.arr (insL cells n i c) 30 (gen+1) (gen+1)) rfl (λlg=>Vk (H:=⟨H.t,H.nx,lg⟩) h1 h2 h3 h4 h5 h6 h7 h8) λ_=>⟨rfl,rfl,an rfl⟩
def GU(H:Hp)(alt:ab)(x i:AV):ab:=
 match x,i with
 |.one (.o .nilS),.one (.i .i64 n)=>if n=0 then .val (.one (.o .nilS)) H else alt
 |_,_=>alt
theorem Vr:ax Tryz.prog (Sem.bind (Instr.sliceAt 67 (.slice none 0 0) (some (.int .i64 0)) none none) λv=>Sem.pure (Next.value v))=some (.value (.slice none 0 0)):=by kernel_rfl
theorem NV{tm:PT AV}{H:Hp}{d:Option Tmp}{x i:Operand}{ty:TypeId}{pos:String}{af:Array Edge}{g:Option (Nat×Bool)}:
  aq Tryz.prog tm H ⟨d,.slice 67 x (some i) none none,ty,pos,af,g⟩=GU H (bH Tryz.prog tm H ⟨d,.slice 67 x (some i) none none,ty,pos,af,g⟩) (ev tm x) (ev tm i):=by
 unfold GU;split
 ·rename_i n hx hi
  by_cases h:n=0
  ·subst h;rw[zB0 rfl];have vx:(ev tm x).val?=some (.slice none 0 0):=by rw[hx];rfl
   have vi:(ev tm i).val?=some (.int .i64 0):=by rw[hi];rfl
   have dx:bk (ev tm x)=.slice none 0 0:=by unfold bk;rw[vx]
   have di:bk (ev tm i)=.int .i64 0:=by unfold bk;rw[vi]
   refine kh (v:=.slice none 0 0) ?_ ?_ rfl
   ·show([x,i].all λx=>(ev tm x).val?.isSome)=true
    simp only[List.all_cons,List.all_nil,vx,vi];rfl
   show ax Tryz.prog (Sem.bind (Instr.sliceAt 67 (bk (ev tm x)) (some (bk (ev tm i))) none none) λv=>Sem.pure (Next.value v))=_;rw[dx,di];exact Vr
  rw[zB1 h];rfl
 rfl
theorem Jp:(∀(H:Hp)(sz:Nat)(lo hi:Option AV)(alt:ab),cR H sz (.one (.o .nilS)) lo hi alt=alt) ∧
  (∀(tm:PT AV)(H:Hp)(d:Option Tmp)(x i:Operand)(ty:TypeId)(pos:String)(af:Array Edge)(g:Option (Nat×Bool)),aq Tryz.prog tm H ⟨d,.slice 67 x (some i) none none,ty,pos,af,g⟩=GU H (bH Tryz.prog tm H ⟨d,.slice 67 x (some i) none none,ty,pos,af,g⟩) (ev tm x) (ev tm i)) ∧
  (∀(H:Hp)(alt:ab),GU H alt (.one (.o .nilS)) (.one (.i .i64 0))=.val (.one (.o .nilS)) H):=⟨λ_ _ _ _ _=>rfl,λ_ _ _ _ _ _ _ _ _=>NV,λ_ _=>by simp[GU]⟩
theorem Fi(H:Hp)(F c:AC)(n vid vg vlo:Nat)(hF:(F=.o .nilS∧n=0)∨∃id gen lo cells,F=.o (.sl id gen 0 n 1)∧H.get id=some (.arr cells 30 lo gen)∧lo≤gen∧id<H.nx∧n≤cells.length∧0<n)(hv:H.get vid=some (.arr [c] 30 vlo vg))(I1:vlo≤vg)(hvx:vid<H.nx)(hn:(n+1)*24≤140737488355328):
  Con E2 147 [.one F,.one (.i .i64 (n:Nat)),.one (.o (.sl vid vg 0 1 1))] H (λk=>∃g m,F=.o (.sl k g 0 m 1)) λr H'=>
   (F=.o .nilS∧∃id,H.nx≤id∧id<H'.nx∧r=.one (.o (.sl id 0 0 1 1))∧H'.get id=some (.arr [c] 30 0 0)) ∨
   ∃id gen lo cells,F=.o (.sl id gen 0 n 1)∧H.get id=some (.arr cells 30 lo gen)∧∃lo',lo'≤gen+1∧r=.one (.o (.sl id (gen+1) 0 (n+1) 1))∧H'.get id=some (.arr (cells.take n++[c]) 30 lo' (gen+1)):=by
 refine Con.of rfl (λlg=>?_) (λlg=>?_)
 case _=>
  have e0:H.nx=(⟨H.t,H.nx,lg⟩:Hp).nx:=rfl;rw[e0]at hvx ⊢;have hv:(⟨H.t,H.nx,lg⟩:Hp).get vid=some (.arr [c] 30 vlo vg):=hv;have hF:(F=.o .nilS∧n=0)∨∃id gen lo cells,F=.o (.sl id gen 0 n 1)∧(⟨H.t,H.nx,lg⟩:Hp).get id=some (.arr cells 30 lo gen)∧lo≤gen∧id<(⟨H.t,H.nx,lg⟩:Hp).nx∧n≤cells.length∧0<n:=hF;show C1 E2 _ _ _ λv h'=>Fr _ _ h'∧∀lg':List Nat,(F=.o .nilS∧∃id,(⟨H.t,H.nx,lg⟩:Hp).nx≤id∧id<h'.nx∧v=.one (.o (.sl id 0 0 1 1))∧h'.get id=some (.arr [c] 30 0 0)) ∨
   ∃id gen lo cells,F=.o (.sl id gen 0 n 1)∧(⟨H.t,H.nx,lg⟩:Hp).get id=some (.arr cells 30 lo gen)∧∃lo',lo'≤gen+1∧v=.one (.o (.sl id (gen+1) 0 (n+1) 1))∧h'.get id=some (.arr (cells.take n++[c]) 30 lo' (gen+1))
  clear e0;generalize(⟨H.t,H.nx,lg⟩:Hp)=H at hv hvx hF ⊢
  refine C1.body (E:=E2) (nt:=95) (res:=[.tmp 6]) Tryz.func147 rfl rfl rfl rfl rfl λtm z0=>?_;have h0:=z0 0 _ rfl;have h1:=z0 1 _ rfl;have h2:=z0 2 _ rfl;clear z0;obtain⟨z,hz,B2⟩:=RI
  have Q9:jt H 1 (.one (.o (.sl vid vg 0 1 1)))=some (1,[c]):=by
   rw[sH (cells:=[c]) (by rw[hv];exact cG I1 (zA1 _)) (by show 0+1*1≤1;omega)];rfl
  rcases hF with⟨rfl,rfl⟩|⟨id,gen,lo,cells,rfl,h1,h2,h3,h4,h5⟩
  ·have Q2:=uz (P:=Tryz.prog) (t:=67) tV Hx hz B2 (by decide) Q9 (by decide) (by decide);rw[zB1 (by decide)]at Q2;clear hz B2 z Q9 hn hv;refine zW (qA tyR Jp) ?_;exact⟨_,_,aj (.o (.sl H.nx 0 0 1 1)) (.inr rfl) qe qp,(Fr.refl _).new _,λ_=>.inl ⟨rfl,H.nx,zA1 _,zA6 _,rfl,aB rfl⟩⟩
  obtain⟨lo',hlo',Q2⟩:=It (P:=Tryz.prog) (t:=67) (at_:=n) tV Hx hz B2 (by decide) h1 h2 (by omega) Q9 (by decide) (by omega) (by omega)
  have Z0:((1:Int)==0)=false:=rfl;have hnn:((n:Int)==(n:Int))=true:=beq_self_eq_true _;clear hz B2 z Q9 hn hv;rw[Nat.mul_one]at Q2;replace h1:Hd _:=h1;refine zW (qA tyR (slL (zA1 n))) ?_;exact⟨_,_,aj (.o (.sl id (gen+1) 0 (n+1) 1)) (.inr rfl) qe qp,(Fr.refl _).mod _ (.inr ⟨gen,n,rfl⟩),λ_=>.inr ⟨id,gen,lo,cells,rfl,h1.out,lo',hlo',rfl,an rfl⟩⟩
 case _=>
  show insA _ _=none;rcases hF with⟨rfl,_⟩|⟨id,gen,lo,cells,rfl,h1,_⟩
  ·rfl
  cases hx:insA ⟨H.t,H.nx,lg⟩ [.one (.o (.sl id gen 0 n 1)),.one (.i .i64 (n:Nat)),.one (.o (.sl vid vg 0 1 1))]with
  |none=>rfl
  |some x=>
   obtain⟨_,_,_,i,_,_,_,_,_,_,_,he,_,_,⟨_,_,_,_,hi,_⟩,_⟩:=insA_some hx
   simp only[List.cons.injEq,AV.one.injEq,AC.i.injEq,AC.o.injEq,AO.sl.injEq,true_and,and_true]at he;omega
theorem Bp{us ex:List AC}{n i:Nat}(u:AC)(hl:us.length=n)(hi:i≤n):insL (us++ex) n i u=us.take i++u::us.drop i:=by
 unfold insL;rw[List.take_append_of_le_length (by omega),<-hl,List.take_left'];rfl
theorem To{X:Nat->Prop}{H:Hp}{F:AC}{l:List (List Fx)}{r:Option Nat}(hF:Fnd X H F l r)(hX:∀k,X k->k<H.nx){vid vg vlo:Nat}{u:AC}{f:List Fx}(hv:H.get vid=some (.arr [u] 30 vlo vg))(I1:vlo≤vg)(hvx:vid<H.nx)(hvr:r≠some vid)(hu:SlF H u f)(b9:∀k∈(AV.one u).ids,¬X k∧some k≠r){i:Nat}(hi:i≤l.length)(hn:(l.length+1)*24≤140737488355328):
  Con E2 147 [.one F,.one (.i .i64 (i:Nat)),.one (.o (.sl vid vg 0 1 1))] H (λk=>r=some k) λq H'=>∃id gen n,q=.one (.o (.sl id gen 0 n 1))∧Fnd X H' (.o (.sl id gen 0 n 1)) (l.take i++f::l.drop i) (some id)∧(r=some id∨H.nx≤id):=by
 have J8:(l.take i++f::l.drop i).length=l.length+1:=by
  rw[List.length_append,List.length_cons,List.length_take,List.length_drop];omega
 rcases hF with⟨rfl,rfl,rfl⟩|⟨id,gen,lo,us,ex,rfl,rfl,h3,h4,h5,h6,h7,h8⟩
 ·have h0:i=0:=Nat.le_zero.1 hi;subst h0;intro lg;refine N1.mono (Fi H (.o .nilS) u 0 vid vg vlo (.inl ⟨rfl,rfl⟩) hv I1 hvx hn lg) λw h'⟨a,b⟩=>⟨a.mono λk⟨g,m,e⟩=>(by cases e),λlg'=>?_⟩;rcases b lg' with⟨_,id,b1,b2,rfl,b3⟩|⟨id,_,_,_,e,_⟩
  ·have F_:SlF h' u f:=SlC.fr (H:=⟨H.t,H.nx,lg⟩) hu a λk _⟨g,m,e⟩=>(by cases e);refine⟨id,0,1,rfl,.inr ⟨id,0,0,[u],[],rfl,rfl,b3,zA1 _,b2,λhh=>by have:=hX _ hh;omega,Nat.one_pos,⟨F_,λk hk=>⟨(b9 k hk).1,λe=>?_⟩⟩,trivial⟩,.inr b1⟩
   have:=hu.lt k hk;omega
  cases e
 have O4:=h8.len;have Z0:id≠vid:=λe=>hvr (by rw[e]);have keep:∀{H':Hp}{lg:List Nat},Fr (λk=>k=id) ⟨H.t,H.nx,lg⟩ H'->Al (λu f=>SlF H' u f∧∀k∈(AV.one u).ids,¬X k∧k≠id) (us.take i++u::us.drop i) (l.take i++f::l.drop i):=λ{H' lg}hf=>
  PR ⟨SlC.fr (H:=⟨H.t,H.nx,lg⟩) hu hf λk hk e=>(b9 k hk).2 (by rw[e]),λk hk=>⟨(b9 k hk).1,λe=>(b9 k hk).2 (by rw[e])⟩⟩ i (h8.mono λv g⟨a,b⟩=>⟨SlC.fr (H:=⟨H.t,H.nx,lg⟩) a hf λk hk=>(b k hk).2,b⟩)
 rcases Nat.lt_or_ge i l.length with C0|hge
 ·intro lg;refine N1.mono (Qn h3 hv h4 I1 Z0 C0 (by rw[List.length_append];omega) hn lg) λw h'⟨a,b⟩=>⟨a.mono λk e=>by rw[e],λlg'=>?_⟩;obtain⟨rfl,b2,b3⟩:=b lg'
  have ka:=keep a;refine⟨id,gen+1,l.length+1,rfl,.inr ⟨id,gen+1,gen+1,us.take i++u::us.drop i,[],by rw[J8],rfl,?_,zA1 _,?_,h6,by omega,ka⟩,.inl rfl⟩
  ·rw[List.append_nil,b3,Bp u O4 hi]
  show id<h'.nx;have:H.nx≤h'.nx:=a.nx;omega
 have S1:i=l.length:=by omega
 subst S1;intro lg;refine N1.mono (Fi H (.o (.sl id gen 0 l.length 1)) u l.length vid vg vlo (.inr ⟨id,gen,lo,us++ex,rfl,h3,h4,h5,by rw[List.length_append];omega,h7⟩) hv I1 hvx hn lg) λw h'⟨a,b⟩=>⟨a.mono λk⟨g,m,e⟩=>(by cases e;rfl),λlg'=>?_⟩;rcases b lg' with⟨e,_⟩|⟨id',gen',lo1,cells,e,hg,lo',b1,rfl,b2⟩
 ·cases e
 cases e
 have N4:cells=us++ex:=by
  have r_:H.get id=some (.arr (us++ex) 30 lo gen):=h3;rw[r_]at hg;cases hg;rfl
 subst N4;have hf:Fr (λk=>k=id) ⟨H.t,H.nx,lg⟩ h':=a.mono λk⟨g,m,e⟩=>(by cases e;rfl);have ka:=keep hf;refine⟨id,gen+1,l.length+1,rfl,.inr ⟨id,gen+1,lo',us.take l.length++u::us.drop l.length,[],by rw[J8],rfl,?_,b1,?_,h6,by omega,ka⟩,.inl rfl⟩
 ·have b2':h'.get id=some (.arr ((us++ex).take l.length++[u]) 30 lo' (gen+1)):=b2;show h'.get id=_;rw[b2',List.append_nil,List.take_append_of_le_length (by omega),List.drop_of_length_le (by omega)]
 show id<h'.nx;have:H.nx≤h'.nx:=a.nx;omega
def kF(ld:List Lad)(v:List Int)(i to:Int):Int:=fN (fC (ld.getD i.toNat ([],[])).2 (aG (ld.getD i.toNat ([],[])).2 (v.getD i.toNat 0)) (dR (ld.getD i.toNat ([],[])).1 (ld.getD i.toNat ([],[])).2) (v.getD i.toNat 0)) to
theorem wV{m:Int}:∀{S:List Sp},fN S m≠0->∃x∈S,x.2.2=m∧x.1=fN S m
 |[],h=>absurd rfl h
 |x::S,h=>by
  rw[fN]at h ⊢;by_cases c:x.2.2=m
  ·rw[zB0 c];exact⟨x,List.mem_cons_self ..,c,rfl⟩
  rw[zB1 c]at h;rw[zB1 c];obtain⟨y,hy,a,b⟩:=wV h
  exact⟨y,List.mem_cons_of_mem _ hy,a,b⟩
structure lA(ld:List Lad)(lr:List Rl)(v:List Int):Prop where
 vl:v.length=ld.length
 v64:v.length≤64
 r64:lr.length≤64
 ck:∀x∈ld,aH x.1 x.2=0
 vr:∀n∈v,1≤n∧n≤1099511627776
 rp:eO v lr (kF ld v)
theorem lA.lad{ld:List Lad}{lr:List Rl}{v:List Int}(h:lA ld lr v){i:Int}(h0:0≤i)(h1:i<v.length):aH (ld.getD i.toNat ([],[])).1 (ld.getD i.toNat ([],[])).2=0∧(1≤v.getD i.toNat 0∧v.getD i.toNat 0≤1099511627776):=by
 have hv:=h.vl;have a:i.toNat<ld.length:=by omega
 have b:i.toNat<v.length:=by omega
 rw[List.getD_eq_getElem?_getD,zB4 a,List.getD_eq_getElem?_getD,zB4 b];exact⟨h.ck _ (List.getElem_mem a),h.vr _ (List.getElem_mem b)⟩
theorem Wr{ld:List Lad}{v:List Int}(hl:v.length=ld.length)(L0:∀x∈ld,aH x.1 x.2=0)(hv:∀n∈v,1≤n∧n≤1099511627776)(i to:Int)(hk:kF ld v i to≠0):(1≤to∧to≤1099511627776)∧to≠v.getD i.toNat 0∧kF ld v i to≠5:=by
 by_cases hi:i.toNat<ld.length
 ·have hc:aH (ld.getD i.toNat ([],[])).1 (ld.getD i.toNat ([],[])).2=0:=by
   rw[List.getD_eq_getElem?_getD,zB4 hi];exact L0 _ (List.getElem_mem hi)
  have hn:1≤v.getD i.toNat 0:=by
   rw[List.getD_eq_getElem?_getD,zB4 (show i.toNat<v.length by omega)];exact(hv _ (List.getElem_mem (show i.toNat<v.length by omega))).1
  obtain⟨x,hx,a,b⟩:=wV hk
  obtain⟨k1,k2,k3,k4⟩:=yE hc hn hx
  have hb:x.1=kF ld v i to:=b;rw[<-hb,<-a];exact⟨⟨k3,k4⟩,k2,by omega⟩
 exfalso;apply hk
 unfold kF;have e:ld.getD i.toNat ([],[])=([],[]):=by rw[List.getD_eq_getElem?_getD,List.getElem?_eq_none (by omega)];rfl
 rw[e];rfl
section
variable{v:List Int}{lr:List Rl}{K:Int->Int->Int}
theorem Sol.fxb(D0:eO v lr K){c:Nat}{f:List Fx}(h:Sol v lr K c f):(∀x∈f,FxB x)∧f.length≤c:=by
 obtain⟨I,T,h1,h2,h3,h4,_⟩:=h
 have I1:=D0.vl;refine⟨λx hx=>?_,?_⟩
 ·rcases List.mem_append.1 (h4.mem_iff.1 hx)with hx|hx
  ·obtain⟨a,_,b,d,_⟩:=h1.ok x hx
   rw[b]at d;have:=(D0.kb _ _ d).1;exact⟨by omega,this⟩
  obtain⟨s,hs,e4,e5,_,e6,e7⟩:=ix lr T h2 x hx
  have:=D0.tr s hs;exact⟨by omega,by omega⟩
 rw[h4.length_eq,List.length_append];have:=ky T;omega
structure gJ(v:List Int)(lr:List Rl)(K:Int->Int->Int)(now:List Int)(items f:List Fx)(cost:Nat)(rest:List Rl)(T0:List Fx):Prop where
 fe:f=items++T0
 co:cost=items.length+cO T0
 to:cS v K now lr=(cS v K now rest).map (T0++·)
theorem gJ.start{now:List Int}{items:List Fx}:gJ v lr K now items items items.length lr []:=
 ⟨(List.append_nil _).symm,rfl,by cases cS v K now lr<;>rfl⟩
variable{now:List Int}{items f:List Fx}{cost:Nat}{rest:List Rl}{T0:List Fx}
theorem gJ.skip{x:Rl}(h:gJ v lr K now items f cost (x::rest) T0)(e:aY now 0 x.2=v.getD x.1.toNat 0):gJ v lr K now items f cost rest T0:=
 ⟨h.fe,h.co,by rw[h.to,cS,zB0 e]⟩
theorem gJ.none{x:Rl}(h:gJ v lr K now items f cost (x::rest) T0)(e:aY now 0 x.2≠v.getD x.1.toNat 0)(b:aY now 0 x.2<1∨1099511627776<aY now 0 x.2):cS v K now lr=none:=by
 rw[h.to,cS,zB1 e,zB0 b];rfl
theorem rX:∀(a b:List Fx),cO (a++b)=cO a+cO b
 |[],b=>(Nat.zero_add _).symm
 |x::a,b=>by rw[List.cons_append,cO,cO,rX a b];omega
theorem gJ.push(D0:eO v lr K){x:Rl}(h:gJ v lr K now items f cost (x::rest) T0)(e:aY now 0 x.2≠v.getD x.1.toNat 0)(b:¬(aY now 0 x.2<1∨1099511627776<aY now 0 x.2)){k:Int}(hk:k=K x.1 (aY now 0 x.2)):
  gJ v lr K now items (f++[(x.1,v.getD x.1.toNat 0,aY now 0 x.2,if k=0 then 5 else k)]) (cost+if k=0 then 2 else 1) rest (T0++[(x.1,v.getD x.1.toNat 0,aY now 0 x.2,if k=0 then 5 else k)]):=by
 subst hk;refine⟨by rw[h.fe,List.append_assoc],?_,?_⟩
 ·rw[rX,h.co];show _=items.length+(cO T0+((if(if K x.1 (aY now 0 x.2)=0 then(5:Int)else K x.1 (aY now 0 x.2))=5 then 2 else 1)+0));by_cases c:K x.1 (aY now 0 x.2)=0
  ·rw[zB0 c,zB0 c,zB0 rfl];omega
  rw[zB1 c,zB1 c,zB1 (D0.kb _ _ c).2.2];omega
 rw[h.to,cS,zB1 e,zB1 b];cases cS v K now rest with
 |none=>rfl
 |some T=>show some (T0++_::T)=some ((T0++[_])++T);rw[List.append_assoc];rfl
theorem gJ.big{c:Nat}(h:gJ v lr K now items f cost rest T0)(hc:c<cost){T:List Fx}(ht:cS v K now lr=some T):items.length+cO T≠c:=by
 rw[h.to]at ht;cases hr:cS v K now rest with
 |none=>rw[hr]at ht;cases ht
 |some T1=>
  rw[hr]at ht;cases ht
  have e:cO (T0++T1)=cO T0+cO T1:=rX T0 T1;have hco:=h.co;show items.length+cO (T0++T1)≠c;omega
theorem gJ.done(h:gJ v lr K now items f cost [] T0):cS v K now lr=some T0:=by
 rw[h.to];show some (T0++[])=_;rw[List.append_nil]
structure eX(v:List Int)(lr:List Rl)(K:Int->Int->Int)(c limit:Nat)(items:List Fx)(found found':List (List Fx)):Prop where
 ok:FOk v lr K c limit found'
 le:found'.length≤limit+1
 st:ke limit found found'
 go:∀T f,cS v K (aM v items) lr=some T->items.length+cO T=c->lj f->f.Perm (items++T)->Got limit found' f
theorem eX.same{c limit:Nat}{found:List (List Fx)}(hF:FOk v lr K c limit found)(hl:found.length≤limit+1)(hn:∀T,cS v K (aM v items) lr=some T->items.length+cO T≠c):eX v lr K c limit items found found:=
 ⟨hF,hl,ke.Ww,λT f h1 h2 _ _=>absurd h2 (hn T h1)⟩
theorem XS(D0:eO v lr K)(hI:bM v lr K items)(ht:cS v K (aM v items) lr=some T0){out:List Fx}(hp:out.Perm (items++T0))(ho:List.Pairwise (λx y:Fx=>¬y.1<x.1) out):lj out:=by
 have Z0:List.Pairwise (λx y:Fx=>x.1≠y.1) (items++T0):=List.pairwise_append.2 ⟨Xl (λx hx=>(hI.ok x hx).1.1) hI.pw,Jz D0 ht,λx hx y hy=>HD D0 hI ht y hy x hx⟩;have hne2:List.Pairwise (λx y:Fx=>x.1≠y.1) out:=(hp.pairwise_iff λ{x y}h=>λe=>h e.symm).2 Z0;exact(ho.and hne2).imp λ{x y}⟨a,b⟩=>by omega
theorem eX.ins(D0:eO v lr K){c limit i:Nat}{found:List (List Fx)}{out:List Fx}(hF:FOk v lr K c limit found)(hl:limit=0∨found.length≤limit)(hI:bM v lr K items)(ht:cS v K (aM v items) lr=some T0)(hc:items.length+cO T0=c)(hp:out.Perm (items++T0))(ho:lj out)(hi:Yq found out i)(hn:¬∃g,found[i]?=some g∧eu g=eu out):eX v lr K c limit items found (Cv limit found i out):=by
 have hs:Sol v lr K c out:=⟨items,T0,hI,ht,hc,hp,ho⟩;obtain⟨a,b,d⟩:=VR D0 hF hs hi.1 hi.2.1 hi.2.2 λg hg e=>hn ⟨g,hg,e⟩
 refine⟨a,?_,d,λT f h1 h2 h3 h4=>?_⟩
 ·unfold Cv;have hlen:(found.take i++out::found.drop i).length=found.length+1:=by
   rw[List.length_append,List.length_cons,List.length_take,List.length_drop];have:=hi.1;omega
  by_cases c0:limit=0
  ·rw[zB0 c0,List.length_take];omega
  rw[zB1 c0,hlen];have:=hl.resolve_left c0;omega
 rw[ht]at h1;cases h1;rw[Lu h3 ho (h4.trans hp.symm)];exact b
theorem eX.had(D0:eO v lr K){c limit i:Nat}{found:List (List Fx)}{out:List Fx}(hF:FOk v lr K c limit found)(hl:found.length≤limit+1)(hI:bM v lr K items)(ht:cS v K (aM v items) lr=some T0)(hc:items.length+cO T0=c)(hp:out.Perm (items++T0))(ho:lj out)(hn:∃g,found[i]?=some g∧eu g=eu out):eX v lr K c limit items found found:=by
 have hs:Sol v lr K c out:=⟨items,T0,hI,ht,hc,hp,ho⟩;obtain⟨g,hg,e⟩:=hn
 have hgm:=List.mem_of_getElem? hg;have:g=out:=BN ((hF.so g hgm).fix D0) (hs.fix D0) e;subst this;refine⟨hF,hl,ke.Ww,λT f h1 h2 h3 h4=>?_⟩
 rw[ht]at h1;cases h1;rw[Lu h3 ho (h4.trans hp.symm)];exact Got.mem hgm
end
theorem hd{p:Prop}(h:p):Hd p:=h
theorem Vs:ao Tryz.prog 103=true:=by kernel_rfl
structure SrF(H:Hp)(pc pr la vv:AC)(lc:List Cl)(lr:List Rl)(ld:List Lad)(v:List Int):Prop where
 cl:dH H pc lc
 rl:dA H pr lr
 la:eM H la ld
 vi:SlI H vv v
def SrX(S N:Nat)(k:Nat):Prop:=k=S∨N≤k
def SrD(S N:Nat)(H:Hp)(pc pr la vv:AC)(lc:List Cl)(lr:List Rl)(ld:List Lad)(v:List Int):Prop:=
 N≤H.nx∧∀H',H.nx≤H'.nx->(∀i,i<H.nx->¬SrX S N i->H'.get i=H.get i)->SrF H' pc pr la vv lc lr ld v
theorem SrD.now{S N:Nat}{H:Hp}{pc pr la vv:AC}{lc:List Cl}{lr:List Rl}{ld:List Lad}{v:List Int}(h:SrD S N H pc pr la vv lc lr ld v):SrF H pc pr la vv lc lr ld v:=h.2 H (zA1 _) λ_ _ _=>rfl
theorem SrD.fr{S N:Nat}{H H':Hp}{pc pr la vv:AC}{lc:List Cl}{lr:List Rl}{ld:List Lad}{v:List Int}{Y:Nat->Prop}(h:SrD S N H pc pr la vv lc lr ld v)(hf:Fr Y H H')(hy:∀k,Y k->SrX S N k):SrD S N H' pc pr la vv lc lr ld v:=
 ⟨zA2 h.1 hf.nx,λH2 h1 h2=>h.2 H2 (zA2 hf.nx h1) λi hi hx=>(h2 i (zA0 hi hf.nx) hx).trans (hf.get i hi λhh=>hx (hy i hh))⟩
theorem SrD.gr{S N:Nat}{H H':Hp}{pc pr la vv:AC}{lc:List Cl}{lr:List Rl}{ld:List Lad}{v:List Int}(h:SrD S N H pc pr la vv lc lr ld v)(hf:Gr H H'):SrD S N H' pc pr la vv lc lr ld v:=h.fr hf λ_ h=>h.elim
def SrR(H:Hp)(S:Nat)(pc pr la vv F:AC)(c limit:Nat):Prop:=S<H.nx∧H.get S=some (.arr [pc,pr,la,vv,.i .i64 (c:Int),.i .i64 (limit:Int),F] 129 0 0)
theorem SrR.fr{H H':Hp}{S:Nat}{pc pr la vv F:AC}{c limit:Nat}{X:Nat->Prop}(h:SrR H S pc pr la vv F c limit)(hf:Fr X H H')(hx:¬X S):SrR H' S pc pr la vv F c limit:=⟨zA0 h.1 hf.nx,(hf.get S h.1 hx).trans h.2⟩
theorem SrR.gr{H H':Hp}{S:Nat}{pc pr la vv F:AC}{c limit:Nat}(h:SrR H S pc pr la vv F c limit)(hf:Gr H H'):SrR H' S pc pr la vv F c limit:=h.fr hf zB2
def TkQ(X:Nat->Prop)(n0 S:Nat)(pc pr la vv:AC)(c limit:Nat)(r:Option Nat)(P:List (List Fx)->Prop)(H':Hp):Prop:=
 ∃F' r' found',SrR H' S pc pr la vv F' c limit∧Fnd X H' F' found' r'∧(∀k,r'=some k->r=some k∨n0≤k)∧P found'
theorem qg{H:Hp}{la:AC}{ld:List Lad}(h:eM H la ld){i:Int}(h0:0≤i)(h1:i<ld.length):∃id g off cells u,la=.o (.sl id g off ld.length 2)∧id<H.nx∧rowOf (H.get id) g=some cells∧SlP H u (ld.getD i.toNat ([],[])).2∧(cells.drop (off+i.toNat*2)).take 2=[.o (.str (ld.getD i.toNat ([],[])).1),u]∧off+i.toNat*2+2≤cells.length:=by
 obtain⟨id,g,off,cells,e1,hid,hg,K0⟩:=h.open (by omega)
 have C0:i.toNat<ld.length:=by omega
 have ex:ld[i.toNat]?=some (ld.getD i.toNat ([],[])):=by rw[List.getD_eq_getElem?_getD,zB4 C0];rfl
 obtain⟨u,a,b,d,_⟩:=K0 _ _ ex
 exact⟨id,g,off,cells,u,e1,hid,hg,a,b,d⟩
theorem jm{H:Hp}{vv:AC}{v:List Int}(h:SlI H vv v){i:Int}(h0:0≤i)(h1:i<v.length):∃id g off cells,vv=.o (.sl id g off v.length 1)∧id<H.nx∧rowOf (H.get id) g=some cells∧(cells.drop (off+i.toNat*1)).headD (.b false)=.i .i64 (v.getD i.toNat 0)∧off+i.toNat*1+1≤cells.length:=by
 obtain⟨id,g,off,cells,e1,hid,hg,K0⟩:=h.open (by omega)
 have ex:v[i.toNat]?=some (v.getD i.toNat 0):=by rw[List.getD_eq_getElem?_getD,zB4 (show i.toNat<v.length by omega)];rfl
 obtain⟨e3,e4⟩:=K0 _ _ ex
 exact⟨id,g,off,cells,e1,hid,hg,e3,e4⟩
theorem rV{ld:List Lad}{lr:List Rl}{v:List Int}(D0:lA ld lr v)(H:Hp)(i to:Int)(ul:AC)(h0:0≤i)(h1:i<v.length)(O4:SlP H ul (ld.getD i.toNat ([],[])).2):
  Con E2 52 [.agg [.o (.str (ld.getD i.toNat ([],[])).1),ul],.one (.i .i64 to),.one (.i .i64 (v.getD i.toNat 0))] H (λ_=>False) λr _=>r=.one (.i .i64 (kF ld v i to)):=by
 obtain⟨L0,G8,R6⟩:=D0.lad h0 h1
 exact ES H (ld.getD i.toNat ([],[])).1 ul (ld.getD i.toNat ([],[])).2 to (v.getD i.toNat 0) O4 L0 G8 R6 (Ck L0 (show 0≤v.getD i.toNat 0 by omega) R6)
theorem slH1{len:Nat}(h:1≤len):∀(H:Hp)(id g off sz:Nat)(k:IntKind)(alt:ab),cR H sz (.one (.o (.sl id g off len sz))) none (some (.one (.i k (1:Int)))) alt=.val (.one (.o (.sl id g off 1 sz))) H:=λ_ _ _ _ _ _ _=>qM h
theorem Ur{ld:List Lad}{lr:List Rl}{v:List Int}(D0:lA ld lr v)(H:Hp)(S N:Nat)(pc pr la vv F iv nv:AC)(lc:List Cl)(c limit:Nat)(found:List (List Fx))(r:Option Nat)(items:List Fx)
  (hS:SrR H S pc pr la vv F c limit) (hD:SrD S N H pc pr la vv lc lr ld v) {X:Nat->Prop} (hXS:X S) (N8:∀k,X k->k<H.nx) (hF:Fnd X H F found r) (hi:SlF H iv items) (hn:SlI H nv (aM v items))
  (hI:bM v lr (kF ld v) items) (C4:items.length≤3) (hc:c≤3) (I4:limit≤100) (u7:FOk v lr (kF ld v) c limit found) (hl:limit=0∨found.length≤limit):
  Con E2 103 [.one (.o (.ptr S 0 0 7)),.one iv,.one nv] H (λk=>k=S∨r=some k) λq H'=>q=.tup []∧TkQ X H.nx S pc pr la vv c limit r (eX v lr (kF ld v) c limit items found) H':=by
 have b_:found.length≤limit+1:=hl.elim (λh=>by have:=u7.on h;omega) λh=>by omega
 refine Con.of rfl λlg=>?_;have hS:SrR ⟨H.t,H.nx,lg⟩ S pc pr la vv F c limit:=hS;have hD:SrD S N ⟨H.t,H.nx,lg⟩ pc pr la vv lc lr ld v:=hD;have N8:∀k,X k->k<(⟨H.t,H.nx,lg⟩:Hp).nx:=N8;have hF:Fnd X ⟨H.t,H.nx,lg⟩ F found r:=hF;have hi:SlF ⟨H.t,H.nx,lg⟩ iv items:=hi;have hn:SlI ⟨H.t,H.nx,lg⟩ nv (aM v items):=hn;have e0:H.nx=(⟨H.t,H.nx,lg⟩:Hp).nx:=rfl;rw[e0];clear e0;generalize(⟨H.t,H.nx,lg⟩:Hp)=H at hS hD N8 hF hi hn ⊢
 refine C1.body (E:=E2) (nt:=139) (res:=[]) Tryz.func103 rfl rfl rfl rfl rfl λtm z0=>?_;have h0:=z0 0 _ rfl;have h1:=z0 1 _ rfl;have h2:=z0 2 _ rfl;clear z0;replace hXS:=hd hXS;replace N8:=hd N8;have hrp:=D0.rp;have h64:=D0.v64;have r64:=D0.r64;have I1:Hd _:=D0.vl;have hD0:=hD.now;have i1:=hi.len;have i3:=hi.lt;have n3:=hn.lt;refine zG (qA tyR AZ) λK hK=>?_;refine WE.con (wJ H iv items hi (by omega)) λw' H1 g1⟨u0,q0,hw,K9,J'⟩=>?_;subst hw;have lu:=K9.slF.lt;replace K9:=hd K9;replace J':=hd J';have i1:=(hi.gr g1).len;have i3:=(hi.gr g1).lt;have n3:=(hn.gr g1).lt;have hD1:=hD0.rl.gr g1;have p1:=hD1.len;have p3:=hD1.lt;obtain⟨o6,S5⟩:=hS.gr g1
 refine zK tyR ?_;have fin:∀(A:aa)(H3:Hp),A.dfr=[]->Gr H H3->eX v lr (kF ld v) c limit items found found->∃w H4,aC E2 [] (.ret,A,H3)=.ok [(w,H4)]∧Fr (λk=>k=S∨r=some k) H H4∧∀lg':List Nat,w=.tup []∧TkQ X H.nx S pc pr la vv c limit r (eX v lr (kF ld v) c limit items found) ⟨H4.t,H4.nx,lg'⟩:=λA H3 h1 h2 h3=>
  have a:=hS.gr h2;have b:=hF.gr h2
  ⟨_,H3,bX (.inr rfl) h1,h2.mono λ_ h=>h.elim,λlg'=>⟨rfl,F,r,found,a,b,λk h=>.inl h,h3⟩⟩
 refine R1.fb λK k1 k2 k3 k4=>?_;refine R1.loop (λm A H2=>∃(i:Nat)(T0 f:List Fx)(cost:Nat)(u:AC)(q:Option Nat),m=lr.length-i∧i≤lr.length∧Gr H H2∧Hd (oZ H2 u f q)∧Hd (∀k,q=some k->H.nx≤k)∧Hd (gJ v lr (kF ld v) (aM v items) items f cost (lr.drop i) T0)∧Hd (cost≤c∨T0=[])∧cost≤3+2*i∧slot A.tm 0=.one ((.o (.ptr S 0 0 7)))∧slot A.tm 2=.one (nv)∧slot A.tm 6=.one (u)∧slot A.tm 7=.one (.i .i64 (cost:Int))∧slot A.tm 22=.one (pr)∧slot A.tm 23=.one (.i .i64 (lr.length:Int))∧slot A.tm 24=.one (.i .i64 (i:Int))∧A.nt=139∧A.dfr=[]) ?_ lr.length
  ⟨0,[],items,items.length,u0,q0,rfl,Nat.zero_le _,g1,K9,J',gJ.start,.inr rfl,by omega,zL⟩
 clear h0 h1 h2 tm i1 i3 n3 p1 p3 lu o6 S5 K9 J' hD1 hK k3;rintro m A H2 ⟨i,T0,f,cost,u,q,rfl,hil2,g2,hf,hq,hT,X3,hcost,t0,t2,t6,t7,t22,t23,t24,A0,B0⟩;obtain⟨o6,S5⟩:=hS.gr g2
 have P_:=hD.gr g2;have hDn:=P_.now;have X7:=hn.gr g2;have n3:=X7.lt;have p1:=hDn.rl.len;have p3:=hDn.rl.lt;have lu:=hf.out.slF.lt;refine zW tyR ?_;refine zI tyR (λq9=>?_) (λq9=>?_)
 ·have C0:i<lr.length:=by omega
  have ex:lr[i]?=some lr[i]:=zB4 C0;have N0:lr.drop i=lr[i]::lr.drop (i+1):=List.drop_eq_getElem_cons C0;have I2:lr.take (i+1)=lr.take i++[lr[i]]:=List.take_succ_eq_append_getElem C0;have E0:lr[i]∈lr:=List.getElem_mem C0;generalize lr[i]=x at ex N0 I2 E0;have B3:=zC0 i (by omega);have P4:=hrp.tr x E0;have V7:=hrp.pr x E0;obtain⟨id,g,off,cells,rfl,hid,B1,K0⟩:=hDn.rl.open (by omega)
  obtain⟨u1,O0⟩:=K0 i x ex
  obtain⟨X1,y1,y2,_,_,_,_⟩:=O0
  rw[N0]at hT;have G7:=hrp.pl x E0;clear K0 ex I2 E0 N0;have lu1:=X1.lt;refine zW tyR ?_;refine R1.fb λK2 q1 q2 q3 q4=>?_;refine zG (qA tyR (ixC C0)) λK hK=>?_;refine hK.out _ _ ?_;refine R1.gen (λA4 H4=>Gr H2 H4∧H2.nx<H4.nx∧H4.get H2.nx=some (.arr [.i .i64 x.1,u1] 82 0 0)∧slot A4.tm 0=.one ((.o (.ptr S 0 0 7)))∧slot A4.tm 2=.one (nv)∧slot A4.tm 6=.one (u)∧slot A4.tm 7=.one (.i .i64 (cost:Int))∧slot A4.tm 9=.one ((.o (.ptr H2.nx 0 0 2)))∧slot A4.tm 22=.one ((.o (.sl id g off lr.length 2)))∧slot A4.tm 23=.one (.i .i64 (lr.length:Int))∧slot A4.tm 24=.one (.i .i64 (i:Int))∧A4.nt=139∧A4.dfr=[])
   ⟨((Fr.refl _).new _).mod _ (.inl (zA1 _)),zA6 _,an rfl,zL⟩ ?_
  clear t0 t2 t6 t7 t22 t23 t24 A0 B0 A B1 hid y1 y2 hK K lu lu1 n3 p1 p3 o6 S5;rintro A H4 ⟨g4,n4,rx,t0,t2,t6,t7,t9,t22,t23,t24,A0,B0⟩;have g14:=g2.gr g4;refine zG (qA tyR pK) λK hK=>?_;refine WE.con (nT H4 u1 nv x.1 x.2 (aM v items) (X1.gr g4) (X7.gr g4) (by rw[cA];exact V7) (by omega)) λw' H5 g5 hq5=>?_;subst hq5;have g15:=g14.gr g5;generalize J2:aY (aM v items) 0 x.2=n;have hT:=hT.out;obtain⟨o6,S5⟩:=hS.gr g15
  have w9:=(hD.gr g15).now;have rx:=(g5.get _ n4 zB2).trans rx;have n5:=zA0 n4 g5.nx;obtain⟨idv,gv,offv,cellsv,rfl,X6,I6,e3,e4⟩:=jm w9.vi P4.1 P4.2
  have hvt:1≤v.getD x.1.toNat 0∧v.getD x.1.toNat 0≤1099511627776:=(D0.lad P4.1 P4.2).2;by_cases e:n=v.getD x.1.toNat 0
  ·have ce:(n==v.getD x.1.toNat 0)=true:=beq_iff_eq.2 e;have hT2:=hT.skip (J2.trans e);replace e:=hd e;replace J2:=hd J2;replace hT:=hd hT;refine zK (qA tyR (ixI P4.1 P4.2)) ?_;refine q2.out _ _ ?_;refine zW tyR ?_;exact⟨lr.length-(i+1),by omega,i+1,T0,f,cost,u,q,rfl,C0,g15,dg.fr hf.out (g4.gr g5) (λ_ _=>zB2),hq,hT2,X3,by omega,zL⟩
  have ce:(n==v.getD x.1.toNat 0)=false:=zB5 e;have e':aY (aM v items) 0 x.2≠v.getD x.1.toNat 0:=λh=>e (J2.symm.trans h);replace e:=hd e;by_cases b:n<1∨1099511627776<n
  ·have L5:cS v (kF ld v) (aM v items) lr=none:=hT.none e' (by rw[J2];exact b);have hp:eX v lr (kF ld v) c limit items found found:=eX.same u7 b_ λT h=>by rw[L5]at h;cases h
   replace J2:=hd J2;replace L5:=hd L5;replace hp:=hd hp;replace hT:=hd hT;by_cases b1:n<1
   ·clear b;refine zK (qA tyR (ixI P4.1 P4.2)) ?_;exact q4.out _ _ (k4.out _ _ (fin _ _ qe g15 hp.out))
   have b2:=b.resolve_left b1;clear b;refine zK (qA tyR (ixI P4.1 P4.2)) ?_;exact q4.out _ _ (k4.out _ _ (fin _ _ qe g15 hp.out))
  have b1:¬n<1:=λh=>b (.inl h);have b2:¬1099511627776<n:=λh=>b (.inr h);have hTp:=λk hk=>hT.push hrp e' (by rw[J2];exact b) (k:=k) hk;rw[J2]at hTp;replace hTp:=hd hTp;replace J2:=hd J2;replace hT:=hd hT;clear b;refine zK (qA tyR (ixI P4.1 P4.2)) ?_;refine R1.jw (λA5=>slot A5.tm 0=.one ((.o (.ptr S 0 0 7)))∧slot A5.tm 2=.one (nv)∧slot A5.tm 6=.one (u)∧slot A5.tm 7=.one (.i .i64 (cost:Int))∧slot A5.tm 9=.one ((.o (.ptr H2.nx 0 0 2)))∧slot A5.tm 10=.one (.i .i64 (n:Int))∧slot A5.tm 22=.one ((.o (.sl id g off lr.length 2)))∧slot A5.tm 23=.one (.i .i64 (lr.length:Int))∧slot A5.tm 24=.one (.i .i64 (i:Int))∧A5.nt=139∧A5.dfr=[]) zL ?_;clear t0 t2 t6 t7 t9 t22 t23 t24 A0 B0 A hK K;rintro A ⟨t0,t2,t6,t7,t9,t10,t22,t23,t24,A0,B0⟩;have G_:x.1<ld.length:=by have:=I1.out;omega
  obtain⟨idl,gl,offl,cellsl,ul,rfl,U9,R8,O4,f3,f4⟩:=qg w9.la P4.1 G_
  have lul:=O4.lt;replace hTp:=hTp.out (kF ld v x.1 n) rfl;replace hTp:=hd hTp;refine zH (zDe tyR (ixI P4.1 P4.2) (ixI P4.1 G_) tO) λK hK=>?_;refine WE.xk (rV D0 H5 x.1 n ul P4.1 P4.2 O4) λw' H6 g6 hq6=>?_;subst hq6;generalize kF ld v x.1 n=kk at hTp;have g16:=g15.gr g6;obtain⟨o6,S5⟩:=hS.gr g16
  refine zS tyR ?_;refine hK.out _ _ ?_;refine R1.gen (λA7 H7=>Gr H6 H7∧H6.nx<H7.nx∧H7.get H6.nx=some (.arr [.i .i64 x.1,.i .i64 (v.getD x.1.toNat 0),.i .i64 n,.i .i64 kk] 80 0 0)∧slot A7.tm 0=.one ((.o (.ptr S 0 0 7)))∧slot A7.tm 2=.one (nv)∧slot A7.tm 6=.one (u)∧slot A7.tm 7=.one (.i .i64 (cost:Int))∧slot A7.tm 11=.one ((.o (.ptr H6.nx 0 0 4)))∧slot A7.tm 22=.one ((.o (.sl id g off lr.length 2)))∧slot A7.tm 23=.one (.i .i64 (lr.length:Int))∧slot A7.tm 24=.one (.i .i64 (i:Int))∧A7.nt=139∧A7.dfr=[])
   ⟨((Fr.refl _).new _).mod _ (.inl (zA1 _)),zA6 _,an rfl,zL⟩ ?_
  clear t0 t2 t6 t7 t9 t10 t22 t23 t24 A0 B0 A hK K R8 U9 f3 f4 I6 X6 e3 e4 o6 S5 rx lul O4;rintro A H7 ⟨g7,n7,rx,t0,t2,t6,t7,t11,t22,t23,t24,A0,B0⟩;have g17:=g16.gr g7;have k_:oZ H7 u f q:=dg.fr hf.out ((g4.gr g5).gr (g6.gr g7)) (λ_ _=>zB2);obtain⟨M,hM⟩:∃M,M=H6.nx:=⟨_,rfl⟩
  rw[<-hM]at n7 rx t11;have hMM:H2.nx≤M:=by have:=g4.nx;have:=g5.nx;have:=g6.nx;omega
  clear hM;have w1:=zC0 cost (by omega);have w2:IntKind.i64.wrap (((cost+1:Nat):Int)+1)=((cost+2:Nat):Int):=by rw[aP (by omega) (by omega)];omega
  have hqM:∀k,q=some k->k<H2.nx:=λk hk=>by subst hk;exact dg.rlt hf.out
  replace hqM:=hd hqM;refine zW tyR ?_;repeat refine R1.aF ?_
  refine R1.rA (λB H8=>∃(kf:Int)(cost':Nat),Gr H H8∧Hd (oZ H8 u f q)∧M<H8.nx∧H8.get M=some (.arr [.i .i64 x.1,.i .i64 (v.getD x.1.toNat 0),.i .i64 n,.i .i64 kf] 80 0 0)∧Hd (gJ v lr (kF ld v) (aM v items) items (f++[(x.1,v.getD x.1.toNat 0,n,kf)]) cost' (lr.drop (i+1)) (T0++[(x.1,v.getD x.1.toNat 0,n,kf)]))∧cost'≤cost+2 ∧
   slot B.tm 0=.one ((.o (.ptr S 0 0 7)))∧slot B.tm 2=.one (nv)∧slot B.tm 6=.one (u)∧slot B.tm 7=.one (.i .i64 (cost':Int))∧slot B.tm 11=.one ((.o (.ptr M 0 0 4)))∧slot B.tm 22=.one ((.o (.sl id g off lr.length 2)))∧slot B.tm 23=.one (.i .i64 (lr.length:Int))∧slot B.tm 24=.one (.i .i64 (i:Int))∧B.nt=139∧B.dfr=[]) (λK4 m1 m2 m3=>?_) ?_
  ·by_cases Q3:kk=0
   ·have ce:(kk==0)=true:=beq_iff_eq.2 Q3;have hT3:=hTp.out;rw[zB0 Q3,zB0 Q3]at hT3;replace hT3:=hd hT3;replace Q3:=hd Q3;refine zW tyR ?_;refine m1.out _ _ ⟨5,cost+2,g17.then ((Fr.refl (X:=λk=>k=M) H7).mod _ (.inr rfl)) (λk(hk:k=M)=>.inl (by subst hk;have:=g2.nx;omega)),dg.fr k_ ((Fr.refl (X:=λk=>k=M) H7).mod _ (.inr rfl)) (λk hk(e:k=M)=>by have:=hqM.out k hk;omega),n7,an rfl,hT3,zA1 _,zL⟩
   have ce:(kk==0)=false:=zB5 Q3;have hT3:=hTp.out;rw[zB1 Q3,zB1 Q3]at hT3;replace hT3:=hd hT3;replace Q3:=hd Q3;refine zW tyR ?_;exact m1.out _ _ ⟨kk,cost+1,g17,k_,n7,rx,hT3,by omega,zL⟩
  clear t0 t2 t6 t7 t11 t22 t23 t24 A0 B0 A rx n7 hTp;rintro A H8 ⟨kf,cost',g18,hf8,n8,rx,hT8,hc8,t0,t2,t6,t7,t11,t22,t23,t24,A0,B0⟩;obtain⟨o6,S5⟩:=hS.gr g18
  by_cases hcb:c<cost'
  ·have hcbi:(c:Int)<(cost':Int):=by omega
   refine zW tyR ?_;exact q4.out _ _ (k4.out _ _ (fin _ _ qe g18 (eX.same u7 b_ λT h=>hT8.out.big hcb h)))
  have hcbi:¬(c:Int)<(cost':Int):=by omega
  obtain⟨z,hz,B2⟩:=Ii
  have lf:f.length≤3+2*64:=by
   have h1:=hT8.out.fe;have h2:=hT8.out.co;have h3:=ky (T0++[(x.1,v.getD x.1.toNat 0,n,kf)]);have h4:=congrArg List.length h1;rw[List.length_append,List.length_append,List.length_append]at h4;rw[List.length_append]at h3;omega
  obtain⟨a8,u9,H9,r9,Q2,V_,o9,H_⟩:=fI mK Ju hz B2 (by decide) hf8.out [.i .i64 x.1,.i .i64 (v.getD x.1.toNat 0),.i .i64 n,.i .i64 kf] rfl (by omega)
  clear hz B2 z;replace hcb:=hd hcb;refine zW tyR ?_;refine zG (qA tyR oz) λK hK=>?_;refine⟨a8,?_⟩
  refine zK tyR ?_;refine q1.out _ _ ?_;refine zW tyR ?_;refine⟨lr.length-(i+1),by omega,i+1,T0++[(x.1,v.getD x.1.toNat 0,n,kf)],f++[(x.1,v.getD x.1.toNat 0,n,kf)],cost',u9,some r9,rfl,C0,g18.then o9 (λk hk=>.inl (hq.out k hk)),?_,λk hk=>?_,hT8,.inl (Nat.le_of_not_lt hcb.out),by omega,zL⟩
  ·show dg _ _ _ _ _ _ _;rw[List.length_append,List.flatMap_append];exact V_
  cases hk
  rcases H_ with h|h
  ·exact hq.out _ h
  have:=g18.nx;omega
 have S1:i=lr.length:=by omega
 rw[S1,List.drop_length]at hT;clear q9 hil2 S1;refine zW tyR ?_;refine k2.out _ _ ?_;by_cases hce:cost=c
 ·have ce:((cost:Int)==(c:Int))=true:=beq_iff_eq.2 (by omega);replace hce:=hd hce;refine zW tyR ?_;have hfe:=hT.out.fe;have hTd:=hT.out.done;have hco:=hT.out.co;have hcT:items.length+cO T0=c:=by rw[<-hco];exact hce.out
  replace hfe:=hd hfe;replace hTd:=hd hTd;replace hcT:=hd hcT;replace hco:=hd hco;have hfx:∀x∈f,0≤x.1∧x.1≤64:=λx hx=>by
   rw[hfe.out]at hx;rcases List.mem_append.1 hx with hx|hx
   ·have:=(hI.ok x hx).1;omega
   obtain⟨s,hs,e,_⟩:=ix lr T0 hTd.out x hx
   have:=hrp.tr s hs;omega
  have m9:f.length≤12:=by
   have h3:=ky T0;rw[hfe.out,List.length_append];have:=hcT.out;omega
  refine zG (qA tyR TD) λK hK=>?_;refine WE.con (Oe H2 u f q hf.out hfx m9) λw' H3 f3⟨I5,out,ho3,hp3,hs3⟩=>?_;subst I5;have g3:Gr H H3:=g2.then f3 λk hk=>.inl (hq.out k hk);have hp4:out.Perm (items++T0):=by rw[<-hfe.out];exact hp3
  have hasc:=XS hrp hI hTd.out hp4 hs3;have hsol:Sol v lr (kF ld v) c out:=⟨items,T0,hI,hTd.out,hcT.out,hp4,hasc⟩;obtain⟨Y4,hol⟩:=hsol.fxb hrp
  obtain⟨o6,S5⟩:=hS.gr g3
  have Y7:=hF.gr g3;have lF:=Y7.lt;have lu3:=ho3.slF.lt;have B':∀k∈(AV.one u).ids,H.nx≤k:=λk hk=>by
   rcases ho3 with⟨rfl,_⟩|⟨id,lo,gen,h1,rfl,_⟩
   ·cases hk
   rw[List.mem_singleton.1 hk];exact hq.out _ h1
  have hfb:∀g∈found,(∀x∈g,FxB x)∧g.length≤1000000:=λg hg=>by
   obtain⟨a,b⟩:=(u7.so g hg).fxb hrp
   exact⟨a,by omega⟩
  replace B':=hd B';replace hfb:=hd hfb;replace hfx:=hd hfx;replace hp3:=hd hp3;replace hs3:=hd hs3;replace hp4:=hd hp4;replace hasc:=hd hasc;replace Y4:=hd Y4;replace ho3:=hd ho3;refine zK tyR ?_;refine zG (qA tyR YC) λK hK=>?_;refine WE.con (Vo H3 F u found out Y7.slff (oZ.slF ho3.out) u7.st hfb.out Y4.out (by omega) (by omega)) λw' H4 g4⟨j,b,f_,D4,q_⟩=>?_;subst f_;have g34:=g3.gr g4;obtain⟨o6,S5⟩:=hS.gr g34
  have R7:=hF.gr g34;have lF4:=R7.lt;have ho4:oZ H4 u out q:=dg.fr ho3.out g4 (λ_ _=>zB2);have lu4:=ho4.slF.lt;replace D4:=hd D4;replace ho4:=hd ho4;have fin2:Hd (∀(A:aa)(H5:Hp)(e:ak)(F':AC)(r':Option Nat)(found':List (List Fx)),(e=.normal∨e=.ret)->A.dfr=[]->Fr (λk=>k=S∨r=some k) H H5->SrR H5 S pc pr la vv F' c limit->Fnd X H5 F' found' r'->(∀k,r'=some k->r=some k∨H.nx≤k)->eX v lr (kF ld v) c limit items found found' ->
   ∃w H4,aC E2 [] (e,A,H5)=.ok [(w,H4)]∧Fr (λk=>k=S∨r=some k) H H4∧∀lg':List Nat,w=.tup []∧TkQ X H.nx S pc pr la vv c limit r (eX v lr (kF ld v) c limit items found) ⟨H4.t,H4.nx,lg'⟩):=λA H5 e F' r' found' he h1 h2 h3 h4 h5 h6=>
   ⟨_,H5,bX he h1,h2,λlg'=>⟨rfl,F',r',found',h3,h4,h5,h6⟩⟩
  cases b with
  |true=>
   have hp:eX v lr (kF ld v) c limit items found found:=eX.had hrp u7 b_ hI hTd.out hcT.out hp4.out hasc.out (q_.1 rfl);replace hp:=hd hp;replace q_:=hd q_;refine zK tyR ?_;exact fin2.out _ _ _ F r found (.inl rfl) qe (g34.mono λ_ h=>h.elim) ⟨o6,S5⟩ R7 (λk h=>.inl h) hp.out
  |false=>
   have L5:¬∃g,found[j]?=some g∧eu g=eu out:=λh=>by cases q_.2 h
   have hp:eX v lr (kF ld v) c limit items found (Cv limit found j out):=eX.ins hrp u7 hl hI hTd.out hcT.out hp4.out hasc.out D4.out L5;replace hp:=hd hp;replace L5:=hd L5;replace q_:=hd q_;refine zK tyR ?_;refine R1.jw (λA5=>slot A5.tm 0=.one ((.o (.ptr S 0 0 7)))∧slot A5.tm 6=.one (u)∧slot A5.tm 12=.one (.i .i64 (j:Int))∧A5.nt=139∧A5.dfr=[]) zL ?_;clear t0 t2 t6 t7 t22 t23 t24 A0 B0 A hK K;rintro A ⟨t0,t6,t12,A0,B0⟩;have hrS:r≠some S:=λh=>by
    rcases R7 with⟨_,_,e⟩|⟨id,_,_,_,_,_,e,_,_,_,h6,_⟩
    ·rw[h]at e;cases e
    rw[h]at e;cases e;exact h6 hXS.out
   have P3:∀k,r=some k->k<H.nx:=λk h=>by
    rcases hF with⟨_,_,e⟩|⟨id,_,_,_,_,_,e,_,_,h5,_⟩
    ·rw[h]at e;cases e
    rw[h]at e;cases e;exact h5
   have W4:SlF (H4.new (.arr [u] 30 0 0)) u out:=(oZ.slF ho4.out).gr ((Fr.refl _).new _);have z7:Fnd X (H4.new (.arr [u] 30 0 0)) F found r:=R7.gr ((Fr.refl _).new _);have hrv:r≠some H4.nx:=λh=>by have:=P3 _ h;have:=g34.nx;omega
   have hSl:=hS.1;have b9:∀k∈(AV.one u).ids,¬X k∧some k≠r:=λk hk=>by
    have h1:=B'.out k hk;exact⟨λhh=>by have:=N8.out k hh;omega,λe=>by have:=P3 _ e.symm;omega⟩
   have hj:j≤found.length:=D4.out.1;replace hrS:=hd hrS;replace P3:=hd P3;replace W4:=hd W4;replace z7:=hd z7;replace hrv:=hd hrv;replace b9:=hd b9;refine zG (zDd tyR oz WL) λK hK=>?_;refine WE.con (To z7.out (λk hk=>by have:=N8.out k hk;have:=g34.nx;show k<H4.nx+1;omega) (aB rfl) (zA1 0) (zA6 _) hrv.out W4.out b9.out hj (by omega)) λw' H6 f6⟨id,gen,n,hw6,O9,hr6⟩=>?_;subst hw6;have hS6:SrR H6 S pc pr la vv F c limit:=((hS.gr g34).gr ((Fr.refl _).new _)).fr f6 hrS.out;obtain⟨o6,S5⟩:=hS6
   have f46:Fr (λk=>k=S∨r=some k) H H6:=((g34.mono λ_ h=>h.elim).then ((Fr.refl (X:=λ_=>False) H4).new _) λ_ h=>h.elim).then f6 λk h=>.inr (.inr h);replace O9:=hd O9;replace f46:=hd f46;have hid6:ltV (.one (.o (.sl id gen 0 n 1))) H6.nx:=O9.out.lt;refine zS tyR ?_;refine hK.out _ _ ?_;refine R1.gen (λA7 H7=>Fr (λk=>k=S) H6 H7∧SrR H7 S pc pr la vv (.o (.sl id gen 0 n 1)) c limit∧slot A7.tm 0=.one ((.o (.ptr S 0 0 7)))∧A7.nt=139∧A7.dfr=[]) ⟨(Fr.refl _).mod _ (.inr rfl),⟨o6,an rfl⟩,zL⟩ ?_;clear t0 t6 t12 A0 B0 A hK K o6 S5;rintro A H7 ⟨f7,hS7,t0,A0,B0⟩;have f47:Fr (λk=>k=S∨r=some k) H H7:=f46.out.then f7 λk h=>.inr (.inl h);have hF7:Fnd X H7 (.o (.sl id gen 0 n 1)) (found.take j++out::found.drop j) (some id):=O9.out.fr f7 λk h=>.inl (by rw[h];exact hXS.out);obtain⟨o6,S5⟩:=hS7
   have I_:∀k,some id=some k->r=some k∨H.nx≤k:=λk h=>by
    cases h
    exact hr6.imp (λh=>h) λh=>by have:=g34.nx;have h:H4.nx+1≤id:=h;omega
   by_cases j5:limit=0
   ·have ce:((limit:Int)==0)=true:=beq_iff_eq.2 (by omega);have Q5:=hp.out;have he:Cv limit found j out=(found.take j++out::found.drop j).take 1:=zB0 j5;rw[he]at Q5;obtain⟨M5,hF8⟩:=hF7.cut
    replace Q5:=hd Q5;replace hF8:=hd hF8;replace j5:=hd j5;replace he:=hd he;replace hF7:=hd hF7;replace f47:=hd f47;replace I_:=hd I_;have hid8:ltV (.one (.o (.sl id gen 0 1 1))) H7.nx:=hF8.out.lt;have hid7:ltV (.one (.o (.sl id gen 0 n 1))) H7.nx:=hF7.out.lt;refine zW (qA tyR (slH1 M5)) ?_;exact fin2.out _ _ _ (.o (.sl id gen 0 1 1)) (some id) _ (.inl rfl) qe (f47.out.mod _ (.inr (.inl rfl))) ⟨o6,an rfl⟩ (hF8.out.fr ((Fr.refl (X:=λk=>k=S) H7).mod _ (.inr rfl)) λk h=>.inl (by rw[h];exact hXS.out)) I_.out Q5.out
   have ce:((limit:Int)==0)=false:=zB5 (by omega);have Q5:=hp.out;have he:Cv limit found j out=found.take j++out::found.drop j:=zB1 j5;rw[he]at Q5;replace Q5:=hd Q5;replace j5:=hd j5;replace he:=hd he;replace hF7:=hd hF7;replace f47:=hd f47;replace I_:=hd I_;refine zW tyR ?_;exact fin2.out _ _ _ (.o (.sl id gen 0 n 1)) (some id) _ (.inl rfl) qe f47.out ⟨o6,S5⟩ hF7.out I_.out Q5.out
 have ce:((cost:Int)==(c:Int))=false:=zB5 (by omega);have hp:eX v lr (kF ld v) c limit items found found:=eX.same u7 b_ λT h=>by
  rw[hT.out.done]at h;cases h;rw[<-hT.out.co];exact hce
 replace hp:=hd hp;replace hce:=hd hce;refine zW tyR ?_;exact fin _ _ qe g2 hp.out
section
variable(v:List Int)(lr:List Rl)(K:Int->Int->Int)(c limit:Nat)(items:List Fx)(given:List Nat)
structure Lp(found found':List (List Fx))(due:List Fx->List Fx->Prop):Prop where
 ok:FOk v lr K c limit found'
 le:found'.length≤limit+1
 st:ke limit found found'
 go:∀I T rest f,dt v lr K c I T items rest given->lj f->f.Perm (I++T)->Got limit found' f∨due I T
def YE(w:Option Nat)(n:Nat):Prop:=match w with|some m=>n=m|none=>n∈given
def Zn(w:Option Nat)(I:List Fx)(r:Rl):Prop:=w≠none->aY (aM v I) 0 r.2=v.getD r.1.toNat 0
def BD(w:Option Nat)(i:Nat)(I T:List Fx):Prop:=∃n r x rest',i≤n∧YE given w n∧lr[n]?=some r∧x.1∈r.2∧dt v lr K c I T (items++[x]) rest' given∧Zn v w I r
def pT(w:Option Nat)(i:Nat)(r:Rl)(ps:List Int)(I T:List Fx):Prop:=(∃x rest',x.1∈ps∧dt v lr K c I T (items++[x]) rest' given∧Zn v w I r)∨BD v lr K c items given w (i+1) I T
def Qe(w:Option Nat)(i:Nat)(r:Rl)(ps:List Int)(p:Int)(S:List Int)(I T:List Fx):Prop:=(∃x rest',x.1=p∧x.2.2.1∈S∧dt v lr K c I T (items++[x]) rest' given)∨pT v lr K c items given w i r ps I T
end
def pM(v:List Int)(K:Int->Int->Int)(p to:Int):Fx:=(p,v.getD p.toNat 0,to,K p to)
abbrev lS(v:List Int)(lr:List Rl)(K:Int->Int->Int)(c limit:Nat)(items:List Fx)(given:List Nat)(found found':List (List Fx)):Prop:=Lp v lr K c limit items given found found' λ_ _=>False
section
variable{v:List Int}{lr:List Rl}{K:Int->Int->Int}{c limit:Nat}{items:List Fx}{given:List Nat}{found f1 f2:List (List Fx)}{due due':List Fx->List Fx->Prop}
theorem Lp.vR(h:Lp v lr K c limit items given found f1 due)(hd:∀I T rest,dt v lr K c I T items rest given->due I T->due' I T):Lp v lr K c limit items given found f1 due':=
 ⟨h.ok,h.le,h.st,λI T rest f a b d=>(h.go I T rest f a b d).imp id (hd I T rest a)⟩
theorem Lp.next{items':List Fx}{given':List Nat}(h:Lp v lr K c limit items given found f1 due)(k:lS v lr K c limit items' given' f1 f2)(hd:∀I T,due I T->(∃rest',dt v lr K c I T items' rest' given')∨due' I T):Lp v lr K c limit items given found f2 due':=
 ⟨k.ok,k.le,h.st.trans k.st,λI T rest f a b d=>(h.go I T rest f a b d).elim (λg=>.inl (k.st _ g)) λhu=>(hd I T hu).elim (λ⟨r',hw⟩=>.inl ((k.go I T r' f hw b d).resolve_right id)) .inr⟩
theorem Lp.full(ok:FOk v lr K c limit found)(le:found.length≤limit+1)(h0:limit≠0)(h1:limit<found.length):Lp v lr K c limit items given found found due:=
 ⟨ok,le,ke.Ww,λI T rest f a b d=>.inl (by unfold Got;rw[zB1 h0];exact .inr h1)⟩
theorem Lp.start(ok:FOk v lr K c limit found)(le:found.length≤limit+1):Lp v lr K c limit items given found found λ_ _=>True:=
 ⟨ok,le,ke.Ww,λI T rest f a b d=>.inr trivial⟩
theorem Lp.PJ(D0:eO v lr K)(h:Lp v lr K c limit items given found found λ_ _=>True){w:Nat}{r:Rl}(hr:lr[w]?=some r)(hg:w∉given)(hw:aY (aM v items) 0 r.2≠v.getD r.1.toNat 0):
  Lp v lr K c limit items given found found λI T=>items.length+given.length+1≤c∧((∃rest,dt v lr K c I T items rest (w::given))∨BD v lr K c items given (some w) 0 I T):=
 h.vR λI T rest ho _=>by
  obtain⟨h1,h2⟩:=ho.PJ D0 hr hg hw
  refine⟨h1,h2.imp (λh=>⟨rest,h⟩) λ⟨x,rest',hm,_,hx,hs⟩=>⟨w,r,x,rest',Nat.zero_le _,rfl,hr,hm,hx,λ_=>hs⟩⟩
theorem Lp.right(D0:eO v lr K)(B5:Ip v lr K c)(hw:∀n,n∉given->¬ju v lr (aM v items) n)(ht:eX v lr K c limit items found f1):
  Lp v lr K c limit items given found f1 λI T=>items.length+given.length+1≤c∧BD v lr K c items given none 0 I T:=
 ⟨ht.ok,ht.le,ht.st,λI T rest f ho ha hp=>by
  rcases ho.right D0 B5 hw with h0|⟨h1,n,hn,r,hr,x,rest',hm,_,hx⟩
  ·subst h0;have hnow:=ho.now;have hpe:=ho.pe;rw[List.append_nil]at hpe;have ht2:=ho.to;rw[hnow]at ht2;refine .inl (ht.go T f ht2 ?_ ha (hp.trans (hpe.append_right T)));rw[<-hpe.length_eq];exact ho.co
  exact .inr ⟨h1,n,r,x,rest',Nat.zero_le _,hn,hr,hm,hx,λh=>absurd rfl h⟩⟩
theorem Lp.ZP(h:Lp v lr K c limit items given found f1 λI T=>items.length+given.length+1≤c∧due I T)(hc:items.length+given.length=c):lS v lr K c limit items given found f1:=
 h.vR λ_ _ _ _ hd=>by have:=hd.1;omega
theorem Lp.Zp(h:Lp v lr K c limit items given found f1 λI T=>items.length+given.length+1≤c∧due I T):Lp v lr K c limit items given found f1 due:=h.vR λ_ _ _ _ hd=>hd.2
variable{w:Option Nat}{i:Nat}{r:Rl}{ps:List Int}{p:Int}{S:List Int}
theorem Lp.over(h:Lp v lr K c limit items given found f1 (BD v lr K c items given w i))(hi:lr.length≤i):lS v lr K c limit items given found f1:=
 h.vR λI T _ _⟨n,r,x,rest',h1,_,h3,_⟩=>by
  have:=(List.getElem?_eq_some_iff.1 h3).1;omega
theorem Lp.skip(h:Lp v lr K c limit items given found f1 (BD v lr K c items given w i))(hi:¬YE given w i):Lp v lr K c limit items given found f1 (BD v lr K c items given w (i+1)):=
 h.vR λI T _ _⟨n,r,x,rest',h1,h2,h3⟩=>by
  rcases Nat.lt_or_ge i n with hh|hh
  ·exact⟨n,r,x,rest',hh,h2,h3⟩
  have:n=i:=by omega
  subst this;exact absurd h2 hi
theorem Lp.open(h:Lp v lr K c limit items given found f1 (BD v lr K c items given w i))(hr:lr[i]?=some r):Lp v lr K c limit items given found f1 (pT v lr K c items given w i r r.2):=
 h.vR λI T _ _⟨n,r',x,rest',h1,h2,h3,h4,h5,h6⟩=>by
  rcases Nat.lt_or_ge i n with hh|hh
  ·exact .inr ⟨n,r',x,rest',hh,h2,h3,h4,h5,h6⟩
  have:n=i:=by omega
  subst this;rw[hr]at h3;cases h3
  exact .inl ⟨x,rest',h4,h5,h6⟩
theorem Lp.close(h:Lp v lr K c limit items given found f1 (pT v lr K c items given w i r [])):Lp v lr K c limit items given found f1 (BD v lr K c items given w (i+1)):=
 h.vR λI T _ _ hd=>hd.elim (λ⟨x,rest',h1,_⟩=>absurd h1 List.not_mem_nil) id
theorem IC{x:Fx}(h:bM v lr K (items++[x])):x=pM v K x.1 x.2.2.1∧K x.1 x.2.2.1≠0:=by
 obtain⟨_,h2,h3,h4,_⟩:=h.ok x (List.mem_append_right _ (List.mem_cons_self ..))
 obtain⟨a,b,d,e⟩:=x
 exact⟨by unfold pM;rw[show b=v.getD a.toNat 0 from h2,show e=K a d from h3],by rw[<-h3];exact h4⟩
theorem NR{x:Fx}(h:bM v lr K (items++[x])):(aM v items).getD x.1.toNat 0=v.getD x.1.toNat 0:=
 dV items v x.1.toNat λy hy=>(List.pairwise_append.1 h.pw).2.2 y hy x (List.mem_cons_self ..)
theorem Oj(D0:eO v lr K)(hI:bM v lr K items){to:Int}(hr:r∈lr)(hm:p∈r.2)(hn:(aM v items).getD p.toNat 0=v.getD p.toNat 0)(hk:K p to≠0):bM v lr K (items++[pM v K p to]):=by
 have hp:=D0.pr r hr p hm;refine⟨λx hx=>?_,List.pairwise_append.2 ⟨hI.pw,List.pairwise_singleton ..,λy hy z hz=>?_⟩⟩
 ·rcases List.mem_append.1 hx with hx|hx
  ·exact hI.ok x hx
  rw[List.mem_singleton.1 hx];exact⟨hp,rfl,rfl,hk,r,hr,hm⟩
 rw[List.mem_singleton.1 hz];intro e;have e:y.1.toNat=p.toNat:=e;obtain⟨y1,y2,y3,y4,_⟩:=hI.ok y hy
 have h1:=fM items v hI.pw y hy (by omega);have hy5:K y.1 y.2.2.1≠0:=by rw[<-y3];exact y4
 have h2:=(D0.kb y.1 y.2.2.1 hy5).2.1;rw[e]at h1;rw[h1,<-e]at hn;exact h2 hn
theorem Uk(to:Int):aM v (items++[pM v K p to])=(aM v items).set p.toNat to:=xa ..
theorem Lp.had(h:Lp v lr K c limit items given found f1 (pT v lr K c items given w i r (p::ps)))(hn:(aM v items).getD p.toNat 0≠v.getD p.toNat 0):Lp v lr K c limit items given found f1 (pT v lr K c items given w i r ps):=
 h.vR λI T _ _ hd=>hd.elim (λ⟨x,rest',h1,h2,h3⟩=>by
  rcases List.mem_cons.1 h1 with h1|h1
  ·have:=NR h2.itm;rw[h1]at this;exact absurd this hn
  exact .inl ⟨x,rest',h1,h2,h3⟩) .inr
theorem wu(D0:eO v lr K){m:Nat}(hc:items.length+given.length+1=c)(hr:r∈lr)(hm:p∈r.2){I T:List Fx}(hd:pT v lr K c items given (some m) i r (p::ps) I T):
  (K p (v.getD p.toNat 0+v.getD r.1.toNat 0-aY (aM v items) 0 r.2)≠0∧∃rest',dt v lr K c I T (items++[pM v K p (v.getD p.toNat 0+v.getD r.1.toNat 0-aY (aM v items) 0 r.2)]) rest' given)∨pT v lr K c items given (some m) i r ps I T:=
 hd.elim (λ⟨x,rest',h1,h2,h3⟩=>by
  rcases List.mem_cons.1 h1 with h1|h1
  ·left;obtain⟨_,e⟩:=h2.forced D0 hc hr (by rw[h1];exact hm) (h3 (by simp))
   obtain⟨e1,e2⟩:=IC h2.itm
   rw[h1]at e e1 e2;rw[e]at e1 e2;exact⟨e2,rest',by rw[<-e1];exact h2⟩
  exact .inr (.inl ⟨x,rest',h1,h2,h3⟩)) λh=>.inr (.inr h)
theorem Lp.no(D0:eO v lr K){m:Nat}(h:Lp v lr K c limit items given found f1 (pT v lr K c items given (some m) i r (p::ps)))(hc:items.length+given.length+1=c)(hr:r∈lr)(hm:p∈r.2)
  (hk:K p (v.getD p.toNat 0+v.getD r.1.toNat 0-aY (aM v items) 0 r.2)=0):Lp v lr K c limit items given found f1 (pT v lr K c items given (some m) i r ps):=
 h.vR λI T _ _ hd=>(wu D0 hc hr hm hd).elim (λh=>absurd hk h.1) id
theorem Lp.yes(D0:eO v lr K){m:Nat}{to:Int}(h:Lp v lr K c limit items given found f1 (pT v lr K c items given (some m) i r (p::ps)))(hc:items.length+given.length+1=c)(hr:r∈lr)(hm:p∈r.2)
  (ht:to=v.getD p.toNat 0+v.getD r.1.toNat 0-aY (aM v items) 0 r.2) (k:lS v lr K c limit (items++[pM v K p to]) given f1 f2):Lp v lr K c limit items given found f2 (pT v lr K c items given (some m) i r ps):=
 h.next k λI T hd=>by subst ht;exact(wu D0 hc hr hm hd).imp And.right id
theorem Lp.ZM(h:Lp v lr K c limit items given found f1 (pT v lr K c items given w i r (p::ps)))(hS:∀to,K p to≠0->to∈S):Lp v lr K c limit items given found f1 (Qe v lr K c items given w i r ps p S):=
 h.vR λI T _ _ hd=>hd.elim (λ⟨x,rest',h1,h2,h3⟩=>by
  rcases List.mem_cons.1 h1 with h1|h1
  ·obtain⟨_,e2⟩:=IC h2.itm
   rw[h1]at e2;exact .inl ⟨x,rest',h1,hS _ e2,h2⟩
  exact .inr (.inl ⟨x,rest',h1,h2,h3⟩)) λh=>.inr (.inr h)
theorem Lp.slip{to:Int}(h:Lp v lr K c limit items given found f1 (Qe v lr K c items given w i r ps p (to::S)))(k:lS v lr K c limit (items++[pM v K p to]) given f1 f2):Lp v lr K c limit items given found f2 (Qe v lr K c items given w i r ps p S):=
 h.next k λI T hd=>hd.elim (λ⟨x,rest',h1,h2,h3⟩=>by
  rcases List.mem_cons.1 h2 with h2|h2
  ·obtain⟨e1,_⟩:=IC h3.itm
   rw[h1,h2]at e1;exact .inl ⟨rest',by rw[<-e1];exact h3⟩
  exact .inr (.inl ⟨x,rest',h1,h2,h3⟩)) λh=>.inr (.inr h)
theorem Lp.Yi(h:Lp v lr K c limit items given found f1 (Qe v lr K c items given w i r ps p [])):Lp v lr K c limit items given found f1 (pT v lr K c items given w i r ps):=
 h.vR λI T _ _ hd=>hd.elim (λ⟨x,rest',h1,h2,h3⟩=>absurd h2 List.not_mem_nil) id
end
structure Sg where
 S:Nat
 N:Nat
 C1:Nat
 C2:Nat
 C3:Nat
 pc:AC
 pr:AC
 la:AC
 vv:AC
 lc:List Cl
 ld:List Lad
 lr:List Rl
 v:List Int
 c:Nat
 limit:Nat
def SrC(S:Nat)(r:Option Nat)(k:Nat):Prop:=k=S∨r=some k
structure Clo(z:Sg)(H:Hp):Prop where
 n:(z.C1<z.N∧z.C2<z.N∧z.C3<z.N)∧z.N≤H.nx
 s:z.C1≠z.S∧z.C2≠z.S∧z.C3≠z.S
 g1:H.get z.C1=some (.arr [.o (.ptr z.S 0 0 7)] 127 0 0)
 g2:H.get z.C2=some (.arr [.o (.clo 102 [(z.C1,0,0,1),(z.C2,0,0,1),(z.C3,0,0,1)])] 193 0 0)
 g3:H.get z.C3=some (.arr [.o (.clo 100 [(z.C2,0,0,1),(z.C1,0,0,1)])] 196 0 0)
section
variable{z:Sg}{H H':Hp}{X Y:Nat->Prop}
theorem Clo.fr(h:Clo z H)(hf:Fr Y H H')(hy:∀k,Y k->k=z.S∨z.N≤k):Clo z H':=by
 obtain⟨⟨⟨a1,a2,a3⟩,a4⟩,⟨b1,b2,b3⟩,g1,g2,g3⟩:=h
 have hn:=hf.nx;have key:∀k,k<z.N->k≠z.S->H'.get k=H.get k:=λk hk hs=>hf.get k (by omega) λhh=>(hy k hh).elim hs (by omega);exact⟨⟨⟨a1,a2,a3⟩,by omega⟩,⟨b1,b2,b3⟩,(key _ a1 b1).trans g1,(key _ a2 b2).trans g2,(key _ a3 b3).trans g3⟩
structure SrS(z:Sg)(X:Nat->Prop)(H:Hp)(F:AC)(found:List (List Fx))(r:Option Nat):Prop where
 own:SrR H z.S z.pc z.pr z.la z.vv F z.c z.limit
 dat:SrD z.S z.N H z.pc z.pr z.la z.vv z.lc z.lr z.ld z.v
 fnd:Fnd X H F found r
 xs:X z.S
 xn:∀k,X k->k<H.nx
 rn:∀k,r=some k->z.N≤k
 clo:Clo z H
 ok:FOk z.v z.lr (kF z.ld z.v) z.c z.limit found
 le:found.length≤z.limit+1
variable{F:AC}{found:List (List Fx)}{r:Option Nat}{P:List (List Fx)->Prop}
theorem SrS.gr(h:SrS z X H F found r)(hg:Gr H H'):SrS z X H' F found r:=
 ⟨h.own.gr hg,h.dat.gr hg,h.fnd.gr hg,h.xs,λk hk=>zA0 (h.xn k hk) hg.nx,h.rn,h.clo.fr hg λ_ h=>h.elim,h.ok,h.le⟩
theorem Fnd.rlt{l:List (List Fx)}{q:Nat}(h:Fnd X H F l (some q)):q<H.nx∧¬X q:=by
 rcases h with⟨_,_,e⟩|⟨id,gen,lo,us,ex,_,e,_,_,h5,h6,_⟩
 ·cases e
 cases e;exact⟨h5,h6⟩
theorem SrS.lg(h:SrS z X H F found r)(lg:List Nat):SrS z X ⟨H.t,H.nx,lg⟩ F found r:=⟨h.own,h.dat,h.fnd,h.xs,h.xn,h.rn,⟨h.clo.n,h.clo.s,h.clo.g1,h.clo.g2,h.clo.g3⟩,h.ok,h.le⟩
theorem SrS.rlt(h:SrS z X H F found r):∀k,r=some k->k<H.nx:=λk hk=>by subst hk;exact h.fnd.rlt.1
def FrQ(z:Sg)(X:Nat->Prop)(n0:Nat)(r:Option Nat)(P:List (List Fx)->Prop)(H':Hp):Prop:=∃F' r' found',SrS z X H' F' found' r'∧(∀k,r'=some k->r=some k∨n0≤k)∧P found'
theorem SrS.took(h:SrS z X H F found r)(hf:Fr (SrC z.S r) H H')(q:TkQ X H.nx z.S z.pc z.pr z.la z.vv z.c z.limit r P H')(hP:∀f,P f->FOk z.v z.lr (kF z.ld z.v) z.c z.limit f∧f.length≤z.limit+1):FrQ z X H.nx r P H':=by
 obtain⟨F',r',found',h1,h2,h3,h4⟩:=q
 have hy:∀k,SrC z.S r k->k=z.S∨z.N≤k:=λk hk=>hk.imp id (h.rn k);exact⟨F',r',found',⟨h1,h.dat.fr hf hy,h2,h.xs,λk hk=>zA0 (h.xn k hk) hf.nx,λk hk=>(h3 k hk).elim (h.rn k) λh5=>zA2 h.clo.n.2 h5,h.clo.fr hf hy,(hP _ h4).1,(hP _ h4).2⟩,h3,h4⟩
theorem FrQ.lg{n0:Nat}(h:FrQ z X n0 r P H')(lg:List Nat):FrQ z X n0 r P ⟨H'.t,H'.nx,lg⟩:=by
 obtain⟨F',r',found',h1,h2,h3⟩:=h
 exact⟨F',r',found',h1.lg lg,h2,h3⟩
theorem FrQ.low{n0 n1:Nat}(h:FrQ z X n1 r P H')(hn:n0≤n1):FrQ z X n0 r P H':=by
 obtain⟨F',r',found',h1,h2,h3⟩:=h
 exact⟨F',r',found',h1,λk hk=>(h2 k hk).imp id (zA2 hn),h3⟩
theorem FrQ.mono{n0:Nat}{Q:List (List Fx)->Prop}(h:FrQ z X n0 r P H')(hq:∀f,P f->Q f):FrQ z X n0 r Q H':=by
 obtain⟨F',r',found',h1,h2,h3⟩:=h
 exact⟨F',r',found',h1,h2,hq _ h3⟩
end
def eV(G:List Nat):List (Int×AC):=G.map λm:Nat=>((m:Int),AC.b true)
def vL(G:List Nat)(n:Int):Option AV:=(atG (eV G) n).map AV.one
def Giv(H:Hp)(mv:AC)(G:List Nat):Prop:=(mv=.o .nilM∧G=[])∨∃id,mv=.o (.mp id)∧id<H.nx∧oM H id (vL G)∧(G.length≤2->H.get id=some (gX (λx:Int=>.one (.i .i64 x)) (eV G)))
theorem Giv.lt{H:Hp}{mv:AC}{G:List Nat}(h:Giv H mv G):ltV (.one mv) H.nx:=by
 rcases h with⟨rfl,_⟩|⟨id,rfl,h,_⟩
 ·intro i hi;cases hi
 intro i hi;rw[List.mem_singleton.1 hi];exact h
structure KpF(z:Sg)(H:Hp)(iv nv mv:AC)(items:List Fx)(given:List Nat):Prop where
 it:SlF H iv items
 nw:SlI H nv (aM z.v items)
 gv:Giv H mv given
def Kp(z:Sg)(X:Nat->Prop)(H:Hp)(iv nv mv:AC)(items:List Fx)(given:List Nat):Prop:=∀H',H.nx≤H'.nx->(∀i,i<H.nx->¬X i->H'.get i=H.get i)->KpF z H' iv nv mv items given
section
variable{z:Sg}{H H':Hp}{X Y W:Nat->Prop}{iv nv mv:AC}{items:List Fx}{given:List Nat}
theorem Kp.now(h:Kp z X H iv nv mv items given):KpF z H iv nv mv items given:=h H (zA1 _) λ_ _ _=>rfl
theorem Kp.next(h:Kp z X H iv nv mv items given)(hf:Fr W H H')(hw:∀k,W k->X k∨H.nx≤k)(hy:∀k,Y k->X k∨H.nx≤k):Kp z Y H' iv nv mv items given:=λH2 n g=>
 h H2 (zA2 hf.nx n) λi hi hx=>(g i (zA0 hi hf.nx) λhh=>(hy i hh).elim hx (by omega)).trans (hf.get i hi λhh=>(hw i hh).elim hx (by omega))
theorem Kp.gr(h:Kp z X H iv nv mv items given)(hg:Gr H H'):Kp z X H' iv nv mv items given:=h.next hg (λ_ h=>h.elim) λ_ h=>.inl h
theorem Kp.own{q q2:Option Nat}{items2:List Fx}{iv2 nv2:AC}(h:Kp z X H iv nv mv items given)(hi:oZ H iv2 items2 q)(hq:∀k,q=some k->¬X k)(hn:CJ H nv2 (aM z.v items2) q2)(hq2:∀k,q2=some k->¬X k):Kp z X H iv2 nv2 mv items2 given:=λH2 n g=>by
 have hf:Fr X H ⟨H2.t,H2.nx,H.log⟩:=⟨n,g,[],rfl,λ_ h=>by cases h⟩;have a:oZ ⟨H2.t,H2.nx,H.log⟩ iv2 items2 q:=dg.fr hi hf hq;have b:CJ ⟨H2.t,H2.nx,H.log⟩ nv2 (aM z.v items2) q2:=dg.fr hn hf hq2;exact⟨a.slF,b.slI,(h H2 n g).gv⟩
end
def sQ(z:Sg)(left:Nat):Prop:=∀(X:Nat->Prop)(H:Hp)(iv nv mv F:AC)(items:List Fx)(given:List Nat)(found:List (List Fx))(r:Option Nat),SrS z X H F found r->Kp z (SrC z.S r) H iv nv mv items given->bM z.v z.lr (kF z.ld z.v) items->given.Nodup->(∀n∈given,n<z.lr.length)->items.length+given.length+left=z.c ->
 Con E2 102 [.one iv,.one nv,.one mv,.one (.i .i64 (left:Int)),.one (.o (.ptr z.C1 0 0 1)),.one (.o (.ptr z.C2 0 0 1)),.one (.o (.ptr z.C3 0 0 1))] H (SrC z.S r) λq H'=>q=.tup []∧FrQ z X H.nx r (lS z.v z.lr (kF z.ld z.v) z.c z.limit items given found) H'
theorem QQ:ao Tryz.prog 100=true:=by kernel_rfl
theorem CO:ao Tryz.prog 102=true:=by kernel_rfl
theorem KO{z:Sg}(D0:lA z.ld z.lr z.v)(hc:z.c≤3){left:Nat}(T3:sQ z left)(X:Nat->Prop)(H:Hp)(iv nv mv F:AC)(items:List Fx)(given:List Nat)(found:List (List Fx))(r:Option Nat)(p to:Int)(rl:Rl)
  (hs:SrS z X H F found r) (hk:Kp z (SrC z.S r) H iv nv mv items given) (hI:bM z.v z.lr (kF z.ld z.v) items) (Z4:given.Nodup) (M7:∀n∈given,n<z.lr.length) (X3:items.length+given.length+(left+1)=z.c)
  (hr:rl∈z.lr) (hm:p∈rl.2) (hn:(aM z.v items).getD p.toNat 0=z.v.getD p.toNat 0) (o7:kF z.ld z.v p to≠0):
  Con E2 100 [.one (.i .i64 p),.one (.i .i64 to),.one iv,.one nv,.one mv,.one (.i .i64 ((left+1:Nat):Int)),.one (.o (.ptr z.C2 0 0 1)),.one (.o (.ptr z.C1 0 0 1))] H (SrC z.S r) λq H'=>q=.tup []∧FrQ z X H.nx r (lS z.v z.lr (kF z.ld z.v) z.c z.limit (items++[pM z.v (kF z.ld z.v) p to]) given found) H':=by
 have hI2:=Oj D0.rp hI hr hm hn o7;have V2:=D0.rp.pr rl hr p hm;have hv64:=D0.v64;have C4:items.length≤3:=by omega
 have hcc2:(items++[pM z.v (kF z.ld z.v) p to]).length+given.length+left=z.c:=by rw[List.length_append,List.length_singleton];omega
 have q6:aM z.v (items++[pM z.v (kF z.ld z.v) p to])=(aM z.v items).set p.toNat to:=Uk to;have I1:Hd _:=D0.vl;have hla:=D0.lad V2.1 V2.2;have hlb:left≤3:=by omega
 replace hn:=hd hn;replace o7:=hd o7;replace X3:=hd X3;replace hcc2:=hd hcc2;replace q6:=hd q6;refine Con.of rfl λlg=>?_;have hs:=hs.lg lg;have hk:Kp z (SrC z.S r) ⟨H.t,H.nx,lg⟩ iv nv mv items given:=hk;have e0:H.nx=(⟨H.t,H.nx,lg⟩:Hp).nx:=rfl;rw[e0];clear e0;generalize(⟨H.t,H.nx,lg⟩:Hp)=H at hs hk ⊢
 refine C1.body (E:=E2) (nt:=57) (res:=[]) Tryz.func100 rfl rfl rfl rfl rfl λtm z0=>?_;have h0:=z0 0 _ rfl;have h1:=z0 1 _ rfl;have h2:=z0 2 _ rfl;have h3:=z0 3 _ rfl;have h4:=z0 4 _ rfl;have h5:=z0 5 _ rfl;have h6:=z0 6 _ rfl;have h7:=z0 7 _ rfl;clear z0;have Q3:=hk.now;have i3:=Q3.it.lt;have n3:=Q3.nw.lt;have m3:=Q3.gv.lt;refine zG (qA tyR zm) λK hK=>?_;refine WE.con (vH H nv (aM z.v items) Q3.nw (by rw[cA];omega)) λw' H1 g1⟨u0,q0,hw,K9,J'⟩=>?_;subst hw;have j9:=cA items z.v;rcases K9 with⟨_,h0,_⟩|⟨rid,lo,gen,hqe,rfl,B9,C6,P3,y8⟩
 ·omega
 have hrH:H.nx≤rid:=J' rid hqe;have z5:=ZA (acc:=aM z.v items) (a:=to) V2.1 (by rw[cA];exact V2.2);have hle:p.toNat+1≤((aM z.v items).map (AC.i .i64)).length:=by rw[List.length_map,cA];omega
 replace hqe:=hd hqe;replace P3:=hd P3;replace J':=hd J';have hxa:p<(aM z.v items).length:=by rw[cA];exact V2.2
 generalize hacc:aM z.v items=acc at *;replace hacc:=hd hacc;replace j9:=hd j9;refine zS tyR ?_;refine hK.out _ _ ?_;refine zW (zDf tyR (ixI V2.1 hxa) z5 Nat.mul_one hle) ?_;refine R1.gen (λA2 H2=>Gr H H2∧CJ H2 (.o (.sl rid gen 0 acc.length 1)) (acc.set p.toNat to) (some rid)∧slot A2.tm 0=.one (.i .i64 (p:Int))∧slot A2.tm 1=.one (.i .i64 (to:Int))∧slot A2.tm 2=.one (iv)∧slot A2.tm 4=.one (mv)∧slot A2.tm 5=.one ((.i .i64 ((left+1:Nat):Int)))∧slot A2.tm 6=.one ((.o (.ptr z.C2 0 0 1)))∧slot A2.tm 7=.one ((.o (.ptr z.C1 0 0 1)))∧slot A2.tm 14=.one ((.o (.sl rid gen 0 acc.length 1)))∧A2.nt=57∧A2.dfr=[])
  ⟨g1.mod _ (.inl hrH),.inr ⟨rid,gen,gen,rfl,by rw[List.length_set],an rfl,zA1 _,by rw[List.length_map,Nat.mul_one],y8⟩,zL⟩ ?_
 clear h0 h1 h2 h3 h4 h5 h6 h7 tm hK K z5 hle B9 y8 i3 n3 m3;rintro A H2 ⟨g2,P0,t0,t1,t2,t4,t5,t6,t7,t14,A0,B0⟩;have L3:=hs.gr g2;have R2:=hk.gr g2;have hkn2:=R2.now;have i3:=hkn2.it.lt;have n3:=P0.lt;have m3:=hkn2.gv.lt;obtain⟨o6,S5⟩:=L3.own
 have c1:z.C1<H2.nx:=by have:=L3.clo.n;omega
 have c2:z.C2<H2.nx:=by have:=L3.clo.n;omega
 have G1:=L3.clo.g1;have G2:=L3.clo.g2;have hwl:IntKind.i64.wrap (((left+1:Nat):Int)-1)=(left:Int):=by rw[aP (by omega) (by omega)];omega
 repeat refine R1.aF ?_
 refine R1.e_q 31 (by kernel_rfl) λK hK=>?_;refine zQ (qA tyR AZ) ?_;refine WE.xk (wJ H2 iv items hkn2.it (by omega)) λw' H3 g3⟨u1,q1,hw,l6,hq1⟩=>?_;subst hw;have hs3:=L3.gr g3;have hn23:=g3.nx;obtain⟨S',hS4⟩:=hs3.own
 have hD3:=hs3.dat.now;obtain⟨idv,gv,offv,cellsv,a9,X6,I6,e3,e4⟩:=jm L3.dat.now.vi V2.1 V2.2
 have G_:p<z.ld.length:=by have:=I1.out;omega
 obtain⟨idl,gl,offl,cellsl,ul,E6,U9,R8,O4,f3,f4⟩:=qg L3.dat.now.la V2.1 G_
 rw[a9,E6]at S5 hS4;have hgrv3:rowOf (H3.get idv) gv=some cellsv:=by rw[g3.get _ X6 zB2];exact I6
 have hgrl3:rowOf (H3.get idl) gl=some cellsl:=by rw[g3.get _ U9 zB2];exact R8
 have hidv3:idv<H3.nx:=by omega
 have hidl3:idl<H3.nx:=by omega
 have c13:z.C1<H3.nx:=by omega
 have G13:=hs3.clo.g1;have lu1:=l6.lt;replace hq1:=hd hq1;replace l6:=hd l6;replace P0:=hd P0;replace O4:=hd O4;replace E6:=hd E6;replace a9:=hd a9;replace hn23:=hd hn23;refine zQ (zDe tyR (ixI V2.1 V2.2) (ixI V2.1 G_) tO) ?_;refine WE.xk (rV D0 H3 p to ul V2.1 V2.2 (O4.out.gr g3)) λw' H4 g4 hq4=>?_;subst hq4;have hn34:=g4.nx;have hf4:oZ H4 u1 items q1:=dg.fr l6.out g4 (λ_ _=>zB2);have g24:Gr H2 H4:=g3.gr g4;obtain⟨zz,hz,B2⟩:=Ii
 obtain⟨a8,u9,H9,r9,Q2,V_,o9,H_⟩:=fI mK Ju hz B2 (by decide) hf4 [.i .i64 p,.i .i64 (z.v.getD p.toNat 0),.i .i64 to,.i .i64 (kF z.ld z.v p to)] rfl (by omega)
 clear hz B2 zz;have hq1':∀i,q1=some i->H2.nx≤i:=hq1.out;have m9:FrL H2.nx (H4.new (.arr [.i .i64 p,.i .i64 (z.v.getD p.toNat 0),.i .i64 to,.i .i64 (kF z.ld z.v p to)] 80 0 0)) H9:=FrL.new o9 (by have:=hn23.out;omega) hq1';have g49:Gr H2 H9:=g24.then o9 λi hi=>.inl (hq1' i hi);have V':oZ H9 u9 (items++[pM z.v (kF z.ld z.v) p to]) (some r9):=by
  show dg _ _ _ _ _ _ _;rw[List.length_append,List.flatMap_append];exact V_
 have hrw9:CJ H9 (.o (.sl rid gen 0 acc.length 1)) (aM z.v (items++[pM z.v (kF z.ld z.v) p to])) (some rid):=by
  rw[q6.out];exact dg.fr P0.out g49 (λ_ _=>zB2)
 have C7:H2.nx≤r9:=H_.elim (hq1' r9) λh=>by have:=hn23.out;omega
 have hridn:H.nx≤rid:=hrH;have z_:Gr H H9:=g2.gr g49;have hs9:=hs.gr z_;have Z':∀k,H.nx≤k->¬SrC z.S r k:=λk hk hh=>by
  rcases hh with hh|hh
  ·have:=hs.own.1;omega
  have:=hs.rlt k hh;omega
 have hk9:Kp z (SrC z.S r) H9 u9 (.o (.sl rid gen 0 acc.length 1)) mv (items++[pM z.v (kF z.ld z.v) p to]) given:=
  (hk.gr z_).own V' (λk hk=>by cases hk;exact Z' _ (by have:=g2.nx;omega)) hrw9 λk hk=>by cases hk;exact Z' _ hridn
 clear o9 H_ V_ hf4;replace hs9:=hd hs9;replace hk9:=hd hk9;replace Z':=hd Z';replace V':=hd V';replace hrw9:=hd hrw9;replace hq1':=hd hq1';replace C7:=hd C7;replace hridn:=hd hridn;replace z_:=hd z_;replace m9:=hd m9;refine zQ (zDd tyR CO oz) ?_;refine⟨a8,m9.out,?_⟩
 refine WE.con (T3 X H9 u9 (.o (.sl rid gen 0 acc.length 1)) mv F (items++[pM z.v (kF z.ld z.v) p to]) given found r hs9.out hk9.out hI2 Z4 M7 hcc2.out) λw' H10 f10⟨hw,hq⟩=>?_;subst hw;replace hq:=hd hq;replace f10:=hd f10;refine zQ tyR ?_;refine hK.out _ _ ?_;exact⟨_,_,bX (.inl rfl) qe,(Fr.none z_.out).then f10.out λk h=>.inr h,λlg'=>⟨rfl,(hq.out.low z_.out.nx).lg lg'⟩⟩
theorem rm(n:Nat):∀G:List Nat,atG (eV G) (n:Int)=if n∈G then some (.b true)else none
 |[]=>rfl
 |m::G=>by
  have e:atG (eV (m::G)) (n:Int)=if(m:Int)=(n:Int)then some (.b true)else atG (eV G) (n:Int):=rfl;rw[e,rm n G];by_cases h:m=n
  ·subst h;rw[zB0 rfl,zB0 (List.mem_cons_self ..)]
  rw[zB1 (by omega)];by_cases h2:n∈G
  ·rw[zB0 h2,zB0 (List.mem_cons_of_mem _ h2)]
  rw[zB1 h2,zB1 λhh=>(List.mem_cons.1 hh).elim (λe=>h e.symm) h2]
theorem Giv.look{H:Hp}{mv:AC}{G:List Nat}(h:Giv H mv G)(n:Nat):aX Tryz.prog H 3 (.one (.b false)) (.one mv) (.one (.i .i64 (n:Int))) false=.val (.one (.b (decide (n∈G)))) H:=by
 rcases h with⟨rfl,rfl⟩|⟨id,rfl,_,hm,_⟩
 ·rw[lookup_nil (BU Dg) (k:=(n:Int))];rfl
 rw[PX Dg hm];unfold vL;rw[rm];by_cases hn:n∈G
 ·rw[zB0 hn,decide_eq_true hn];rfl
 rw[zB1 hn,decide_eq_false hn];rfl
def Nx(X:Nat->Prop)(H H':Hp):Prop:=H.nx≤H'.nx∧∀i,i<H.nx->¬X i->H'.get i=H.get i
section
variable{X Y:Nat->Prop}{H1 H2 H3:Hp}
theorem Nx.refl(H:Hp):Nx X H H:=⟨zA1 _,λ_ _ _=>rfl⟩
theorem Nx.fr(h:Nx X H1 H2):Fr X H1 ⟨H2.t,H2.nx,H1.log⟩:=⟨h.1,h.2,[],rfl,λ_ h=>by cases h⟩
theorem Nx.of(h:Fr X H1 H2):Nx X H1 H2:=⟨h.nx,h.get⟩
theorem Nx.then(h:Nx X H1 H2)(k:Nx Y H2 H3)(hy:∀i,Y i->X i∨H1.nx≤i):Nx X H1 H3:=
 ⟨zA2 h.1 k.1,λi hi hx=>(k.2 i (zA0 hi h.1) λhh=>(hy i hh).elim hx (by omega)).trans (h.2 i hi hx)⟩
theorem Nx.gr(h:Nx X H1 H2)(k:Gr H2 H3):Nx X H1 H3:=h.then (Nx.of k) λ_ h=>h.elim
end
structure Bs(z:Sg)(H1:Hp)(b:Nat)(iv nv mv:AC)(left:Nat)(items:List Fx)(given:List Nat)(r0:Option Nat):Prop where
 kp:Kp z (SrC z.S r0) H1 iv nv mv items given
 b0:H1.get b=some (.arr [iv] 30 0 0)
 b1:H1.get (b+1)=some (.arr [nv] 27 0 0)
 b2:H1.get (b+2)=some (.arr [mv] 194 0 0)
 b3:H1.get (b+3)=some (.arr [.i .i64 (left:Int)] 3 0 0)
 n:b+3<H1.nx
 ne:∀j,b≤j->¬SrC z.S r0 j
 nb:z.N≤b
 I:bM z.v z.lr (kF z.ld z.v) items
 nd:given.Nodup
 gl:∀n∈given,n<z.lr.length
 cc:items.length+given.length+left=z.c
structure Wk(z:Sg)(X:Nat->Prop)(H1:Hp)(r0:Option Nat)(H:Hp)(F:AC)(found:List (List Fx))(r:Option Nat):Prop where
 nx:Nx (SrC z.S r0) H1 H
 st:SrS z X H F found r
 rr:∀k,r=some k->r0=some k∨H1.nx≤k
section
variable{z:Sg}{X:Nat->Prop}{H1 H H':Hp}{b:Nat}{iv nv mv F:AC}{left:Nat}{items:List Fx}{given:List Nat}{r0 r:Option Nat}{found:List (List Fx)}
theorem Wk.gr(h:Wk z X H1 r0 H F found r)(g:Gr H H'):Wk z X H1 r0 H' F found r:=⟨h.nx.gr g,h.st.gr g,h.rr⟩
structure BxF(H:Hp)(b:Nat)(iv nv mv:AC)(left:Nat):Prop where
 b0:H.get b=some (.arr [iv] 30 0 0)
 b1:H.get (b+1)=some (.arr [nv] 27 0 0)
 b2:H.get (b+2)=some (.arr [mv] 194 0 0)
 b3:H.get (b+3)=some (.arr [.i .i64 (left:Int)] 3 0 0)
 n:(b<H.nx∧b+1<H.nx)∧b+2<H.nx∧b+3<H.nx
theorem Bs.box(h:Bs z H1 b iv nv mv left items given r0)(k:Nx (SrC z.S r0) H1 H):BxF H b iv nv mv left:=by
 have hn:=h.n;have hk:=k.1;exact⟨(k.2 _ (by omega) (h.ne _ (by omega))).trans h.b0,(k.2 _ (by omega) (h.ne _ (by omega))).trans h.b1,(k.2 _ (by omega) (h.ne _ (by omega))).trans h.b2,(k.2 _ (by omega) (h.ne _ (by omega))).trans h.b3,by omega⟩
theorem Bs.now(h:Bs z H1 b iv nv mv left items given r0)(k:Nx (SrC z.S r0) H1 H):KpF z H iv nv mv items given:=h.kp H k.1 k.2
theorem Bs.kpn(h:Bs z H1 b iv nv mv left items given r0)(k:Nx (SrC z.S r0) H1 H)(hr:∀j,r=some j->r0=some j∨H1.nx≤j):Kp z (SrC z.S r) H iv nv mv items given:=λH2 n g=>
 h.kp H2 (zA2 k.1 n) λi hi hx=>(g i (zA0 hi k.1) λhh=>by
  rcases hh with hh|hh
  ·exact hx (.inl hh)
  exact(hr i hh).elim (λh=>hx (.inr h)) (by omega)).trans (k.2 i hi hx)
theorem Wk.call(h:Wk z X H1 r0 H F found r)(f:Fr (SrC z.S r) H H'){P:List (List Fx)->Prop}(q:FrQ z X H.nx r P H'):∃F' r' found',Wk z X H1 r0 H' F' found' r'∧P found':=by
 obtain⟨F',r',found',h1,h2,h3⟩:=q
 have hn:=h.nx.1;exact⟨F',r',found',⟨h.nx.then (Nx.of f) λi hi=>hi.elim (λe=>.inl (.inl e)) λe=>(h.rr i e).imp .inr id,h1,λk hk=>(h2 k hk).elim (h.rr k) λh4=>.inr (zA2 hn h4)⟩,h3⟩
end
def wI(w:Option Nat):Int:=match w with|some n=>(n:Int)|none=>-1
def Yu(z:Sg)(items:List Fx)(given:List Nat)(w:Option Nat):Prop:=match w with
 |none=>∀n,n∉given->¬ju z.v z.lr (aM z.v items) n
 |some n=>n∉given∧∃r,z.lr[n]?=some r∧aY (aM z.v items) 0 r.2≠z.v.getD r.1.toNat 0
theorem srch{c:Code}(hc:atF Tryz.f102 [1,0,1,1,1,0,1]=some c){z:Sg}(D0:lA z.ld z.lr z.v){X:Nat->Prop}{H1:Hp}{b:Nat}{iv nv mv F:AC}{left:Nat}{items:List Fx}{given:List Nat}{r0 r:Option Nat}{found:List (List Fx)}{rn:Option Nat}{H:Hp}{A:aa}{K:ak->aa->Hp->Prop}
  (hB:Bs z H1 b iv nv mv left items given r0) (hW:Wk z X H1 r0 H F found r)
  (hs:slot A.tm 4=.one (.o (.ptr z.C1 0 0 1))∧slot A.tm 5=.one (.o (.ptr z.C2 0 0 1))∧slot A.tm 6=.one (.o (.ptr z.C3 0 0 1))∧slot A.tm 7=.one (.o (.ptr b 0 0 1))∧slot A.tm 8=.one (.o (.ptr (b+1) 0 0 1))∧slot A.tm 9=.one (.o (.ptr (b+2) 0 0 1))∧slot A.tm 10=.one (.o (.ptr (b+3) 0 0 1)) ∧
   slot A.tm 11=.one (.i .i64 (-1))∧slot A.tm 43=.one z.pr∧slot A.tm 44=.one (.i .i64 (z.lr.length:Int))∧slot A.tm 45=.one (.i .i64 0)∧A.nt=228∧A.dfr=[])
  (hK:∀(A2:aa)(H2:Hp)(w:Option Nat),Gr H H2->Yu z items given w->slot A2.tm 4=.one (.o (.ptr z.C1 0 0 1))∧slot A2.tm 5=.one (.o (.ptr z.C2 0 0 1))∧slot A2.tm 6=.one (.o (.ptr z.C3 0 0 1))∧slot A2.tm 7=.one (.o (.ptr b 0 0 1))∧slot A2.tm 8=.one (.o (.ptr (b+1) 0 0 1))∧slot A2.tm 9=.one (.o (.ptr (b+2) 0 0 1))∧slot A2.tm 10=.one (.o (.ptr (b+3) 0 0 1)) ∧
   slot A2.tm 11=.one (.i .i64 (wI w))∧A2.nt=228∧A2.dfr=[]->K .normal A2 H2):R1 E2 none c A H K:=by
 cases hc
 obtain⟨t4,t5,t6,t7,t8,t9,t10,t11,t43,t44,t45,A0,B0⟩:=hs
 replace hK:=hd hK;replace hB:=hd hB;replace hW:=hd hW;refine R1.og λK1 k1 k2 k3 k4=>?_;refine R1.loop (λm A H2=>∃i:Nat,m=z.lr.length-i∧i≤z.lr.length∧Gr H H2∧Hd (∀n,n<i->n∉given->¬ju z.v z.lr (aM z.v items) n)∧slot A.tm 4=.one ((.o (.ptr z.C1 0 0 1)))∧slot A.tm 5=.one ((.o (.ptr z.C2 0 0 1)))∧slot A.tm 6=.one ((.o (.ptr z.C3 0 0 1)))∧slot A.tm 7=.one ((.o (.ptr b 0 0 1)))∧slot A.tm 8=.one ((.o (.ptr (b+1) 0 0 1)))∧slot A.tm 9=.one ((.o (.ptr (b+2) 0 0 1)))∧slot A.tm 10=.one ((.o (.ptr (b+3) 0 0 1)))∧slot A.tm 11=.one ((.i .i64 (-1)))∧slot A.tm 43=.one (z.pr)∧slot A.tm 44=.one (.i .i64 (z.lr.length:Int))∧slot A.tm 45=.one (.i .i64 (i:Int))∧A.nt=228∧A.dfr=[]) ?_ z.lr.length
  ⟨0,rfl,Nat.zero_le _,Fr.refl _,λn h=>absurd h (Nat.not_lt_zero n),t4,t5,t6,t7,t8,t9,t10,t11,t43,t44,t45,A0,B0⟩
 clear t4 t5 t6 t7 t8 t9 t10 t11 t43 t44 t45 A0 B0 A;rintro m A H2 ⟨i,rfl,hil2,g2,L5,t4,t5,t6,t7,t8,t9,t10,t11,t43,t44,t45,A0,B0⟩;have y7:=hW.out.gr g2;have P_:=y7.st.dat.now;have p1:=P_.rl.len;have p3:=P_.rl.lt;have hr64:=D0.r64;refine zW tyR ?_;refine zI tyR (λq9=>?_) (λq9=>?_)
 ·have C0:i<z.lr.length:=by omega
  have ex:z.lr[i]?=some z.lr[i]:=zB4 C0;have N0:z.lr.drop i=z.lr[i]::z.lr.drop (i+1):=List.drop_eq_getElem_cons C0;have I2:z.lr.take (i+1)=z.lr.take i++[z.lr[i]]:=List.take_succ_eq_append_getElem C0;have E0:z.lr[i]∈z.lr:=List.getElem_mem C0;generalize z.lr[i]=x at ex N0 I2 E0;have B3:=zC0 i (by omega);have P4:=D0.rp.tr x E0;have V7:=D0.rp.pr x E0;have G7:=D0.rp.pl x E0;obtain⟨idr,g,off,cells,W6,hid,B1,K0⟩:=P_.rl.open (by omega)
  obtain⟨u1,O0⟩:=K0 i x ex
  obtain⟨X1,y1,y2,_,_,_,_⟩:=O0
  clear K0 I2 E0 N0;have lu1:=X1.lt;rw[W6]at t43 p1 p3;replace W6:=hd W6;replace ex:=hd ex;replace y7:=hd y7;replace P_:=hd P_;refine zW tyR ?_;refine R1.fb λK2 q1 q2 q3 q4=>?_;refine zG (qA tyR (ixC C0)) λK hK'=>?_;refine hK'.out _ _ ?_;refine R1.gen (λA4 H4=>Gr H2 H4∧H2.nx<H4.nx∧H4.get H2.nx=some (.arr [.i .i64 x.1,u1] 82 0 0)∧slot A4.tm 4=.one ((.o (.ptr z.C1 0 0 1)))∧slot A4.tm 5=.one ((.o (.ptr z.C2 0 0 1)))∧slot A4.tm 6=.one ((.o (.ptr z.C3 0 0 1)))∧slot A4.tm 7=.one ((.o (.ptr b 0 0 1)))∧slot A4.tm 8=.one ((.o (.ptr (b+1) 0 0 1)))∧slot A4.tm 9=.one ((.o (.ptr (b+2) 0 0 1)))∧slot A4.tm 10=.one ((.o (.ptr (b+3) 0 0 1)))∧slot A4.tm 11=.one ((.i .i64 (-1)))∧slot A4.tm 12=.one (.i .i64 (i:Int))∧slot A4.tm 13=.one ((.o (.ptr H2.nx 0 0 2)))∧slot A4.tm 43=.one ((.o (.sl idr g off z.lr.length 2)))∧slot A4.tm 44=.one (.i .i64 (z.lr.length:Int))∧slot A4.tm 45=.one (.i .i64 (i:Int))∧A4.nt=228∧A4.dfr=[])
   ⟨((Fr.refl _).new _).mod _ (.inl (zA1 _)),zA6 _,an rfl,zL⟩ ?_
  clear t4 t5 t6 t7 t8 t9 t10 t11 t43 t44 t45 A0 B0 A hid B1 y1 y2 hK' K p1 p3 lu1;rintro A H4 ⟨g4,n4,rx,t4,t5,t6,t7,t8,t9,t10,t11,t12,t13,t43,t44,t45,A0,B0⟩;have g24:=g2.gr g4;have F2:=hW.out.gr g24;obtain⟨x0,x1,x2,x3,⟨m0,m1⟩,m2,m3⟩:=hB.out.box F2.nx
  have i_:=hB.out.now F2.nx;have I3:=i_.gv.look i;have hmv:=i_.gv.lt;have hnv:=i_.nw.lt;have hcn:=F2.st.clo.n;have c1:z.C1<H4.nx:=by omega
  have G1:=F2.st.clo.g1;have G1:=G1;obtain⟨o6,S5⟩:=F2.st.own
  clear hcn x0 x3 m0 m3;by_cases hgi:i∈given
  ·rw[decide_eq_true hgi]at I3;have R9:Hd (∀n,n<i+1->n∉given->¬ju z.v z.lr (aM z.v items) n):=λn hn hg=>by
    rcases Nat.lt_or_ge n i with h|h
    ·exact L5.out n h hg
    have:n=i:=by omega
    subst this;exact absurd hgi hg
   replace hgi:=hd hgi;replace i_:=hd i_;replace F2:=hd F2;refine zO (qA tyR fJ) λK hK'=>?_;refine hK'.out _ _ ?_;refine R1.jw (λA5=>slot A5.tm 4=.one ((.o (.ptr z.C1 0 0 1)))∧slot A5.tm 5=.one ((.o (.ptr z.C2 0 0 1)))∧slot A5.tm 6=.one ((.o (.ptr z.C3 0 0 1)))∧slot A5.tm 7=.one ((.o (.ptr b 0 0 1)))∧slot A5.tm 8=.one ((.o (.ptr (b+1) 0 0 1)))∧slot A5.tm 9=.one ((.o (.ptr (b+2) 0 0 1)))∧slot A5.tm 10=.one ((.o (.ptr (b+3) 0 0 1)))∧slot A5.tm 11=.one ((.i .i64 (-1)))∧slot A5.tm 43=.one ((.o (.sl idr g off z.lr.length 2)))∧slot A5.tm 44=.one (.i .i64 (z.lr.length:Int))∧slot A5.tm 45=.one (.i .i64 (i:Int))∧slot A5.tm 67=.one (.b false)∧A5.nt=228∧A5.dfr=[]) zL ?_;clear t4 t5 t6 t7 t8 t9 t10 t11 t12 t13 t43 t44 t45 A0 B0 A hK' K;rintro A ⟨t4,t5,t6,t7,t8,t9,t10,t11,t43,t44,t45,t67,A0,B0⟩;rw[<-W6.out]at t43;refine zW tyR ?_;refine q1.out _ _ ?_;refine zW tyR ?_;exact⟨z.lr.length-(i+1),by omega,i+1,rfl,C0,g24,R9,zL⟩
  rw[decide_eq_false hgi]at I3;replace hgi:=hd hgi;replace i_:=hd i_;replace F2:=hd F2;refine zO (zDd tyR fJ pK) λK hK'=>?_;refine WE.xk (nT H4 u1 nv x.1 x.2 (aM z.v items) ((X1.gr g4)) i_.out.nw (by rw[cA];exact V7) (by omega)) λw' H5 g5 hq5=>?_;subst hq5;have O6:=F2.out.gr g5;have hn45:=g5.nx;generalize J2:aY (aM z.v items) 0 x.2=n;obtain⟨S',hS4⟩:=O6.st.own
  obtain⟨idv,gv,offv,cellsv,a9,X6,I6,e3,e4⟩:=jm F2.out.st.dat.now.vi P4.1 P4.2
  have hgrv5:rowOf (H5.get idv) gv=some cellsv:=by rw[g5.get _ X6 zB2];exact I6
  have hidv5:idv<H5.nx:=by omega
  have c15:z.C1<H5.nx:=by omega
  have G15:=O6.st.clo.g1;have rx5:=(g5.get _ n4 zB2).trans rx;have n45:H2.nx<H5.nx:=by omega
  rw[a9]at hS4 S5;replace a9:=hd a9;replace hn45:=hd hn45;replace O6:=hd O6;by_cases e:n=z.v.getD x.1.toNat 0
  ·have ce:(n==z.v.getD x.1.toNat 0)=true:=beq_iff_eq.2 e;have R9:Hd (∀n,n<i+1->n∉given->¬ju z.v z.lr (aM z.v items) n):=λm hm hg=>by
    rcases Nat.lt_or_ge m i with h|h
    ·exact L5.out m h hg
    have:m=i:=by omega
    subst this;rintro⟨r',h1,h2⟩
    rw[ex.out]at h1;cases h1
    exact h2 (J2.trans e)
   replace e:=hd e;replace J2:=hd J2;refine zQ (zDd tyR fJ (ixI P4.1 P4.2)) ?_;refine hK'.out _ _ ?_;refine R1.jw (λA5=>slot A5.tm 4=.one ((.o (.ptr z.C1 0 0 1)))∧slot A5.tm 5=.one ((.o (.ptr z.C2 0 0 1)))∧slot A5.tm 6=.one ((.o (.ptr z.C3 0 0 1)))∧slot A5.tm 7=.one ((.o (.ptr b 0 0 1)))∧slot A5.tm 8=.one ((.o (.ptr (b+1) 0 0 1)))∧slot A5.tm 9=.one ((.o (.ptr (b+2) 0 0 1)))∧slot A5.tm 10=.one ((.o (.ptr (b+3) 0 0 1)))∧slot A5.tm 11=.one ((.i .i64 (-1)))∧slot A5.tm 43=.one ((.o (.sl idr g off z.lr.length 2)))∧slot A5.tm 44=.one (.i .i64 (z.lr.length:Int))∧slot A5.tm 45=.one (.i .i64 (i:Int))∧slot A5.tm 67=.one (.b false)∧A5.nt=228∧A5.dfr=[]) zL ?_;clear t4 t5 t6 t7 t8 t9 t10 t11 t12 t13 t43 t44 t45 A0 B0 A hK' K;rintro A ⟨t4,t5,t6,t7,t8,t9,t10,t11,t43,t44,t45,t67,A0,B0⟩;rw[<-W6.out]at t43;refine zW tyR ?_;refine q1.out _ _ ?_;refine zW tyR ?_;exact⟨z.lr.length-(i+1),by omega,i+1,rfl,C0,g24.gr g5,R9,zL⟩
  have ce:(n==z.v.getD x.1.toNat 0)=false:=zB5 e;have I5:Hd (Yu z items given (some i)):=⟨hgi.out,x,ex.out,λh=>e (J2.symm.trans h)⟩;replace e:=hd e;replace J2:=hd J2;refine zQ (zDd tyR fJ (ixI P4.1 P4.2)) ?_;refine hK'.out _ _ ?_;refine R1.jw (λA5=>slot A5.tm 4=.one ((.o (.ptr z.C1 0 0 1)))∧slot A5.tm 5=.one ((.o (.ptr z.C2 0 0 1)))∧slot A5.tm 6=.one ((.o (.ptr z.C3 0 0 1)))∧slot A5.tm 7=.one ((.o (.ptr b 0 0 1)))∧slot A5.tm 8=.one ((.o (.ptr (b+1) 0 0 1)))∧slot A5.tm 9=.one ((.o (.ptr (b+2) 0 0 1)))∧slot A5.tm 10=.one ((.o (.ptr (b+3) 0 0 1)))∧slot A5.tm 11=.one ((.i .i64 (-1)))∧slot A5.tm 12=.one (.i .i64 (i:Int))∧slot A5.tm 67=.one (.b true)∧A5.nt=228∧A5.dfr=[]) zL ?_;clear t4 t5 t6 t7 t8 t9 t10 t11 t12 t13 t43 t44 t45 A0 B0 A hK' K;rintro A ⟨t4,t5,t6,t7,t8,t9,t10,t11,t12,t67,A0,B0⟩;refine zW tyR ?_;refine q3.out _ _ _ (by decide) ?_;refine k2.out _ _ ?_;exact hK.out _ _ (some i) (g24.gr g5) I5.out zL
 have I5:Hd (Yu z items given none):=λn hg hw=>by
  obtain⟨r',h1,h2⟩:=hw
  have:=(List.getElem?_eq_some_iff.1 h1).1;exact L5.out n (by omega) hg ⟨r',h1,h2⟩
 refine zW tyR ?_;refine k2.out _ _ ?_;exact hK.out _ _ none g2 I5.out zL
abbrev kvI:Int->AV:=λx=>.one (.i .i64 x)
theorem Dk{x:Int}(hx:x<0):∀G:List Nat,atG (eV G) x=none
 |[]=>rfl
 |m::G=>by
  have e:atG (eV (m::G)) x=if(m:Int)=x then some (.b true)else atG (eV G) x:=rfl;rw[e,zB1 (by omega),Dk hx G]
theorem yV{G G':List Nat}(h:∀m,m∈G↔m∈G'):vL G=vL G':=funext λx=>by
 unfold vL;rcases Int.lt_or_le x 0 with hx|hx
 ·rw[Dk hx,Dk hx]
 obtain⟨m,rfl⟩:=Int.eq_ofNat_of_zero_le hx
 rw[rm,rm];by_cases hm:m∈G
 ·rw[zB0 hm,zB0 ((h m).1 hm)]
 rw[zB1 hm,zB1 λhh=>hm ((h m).2 hh)]
theorem ZH{G:List Nat}{m:Nat}(h:m∉G):oV (eV G) (m:Int) (.b true)=eV (G++[m]):=by
 rw[EN (by rw[rm,zB1 h])];unfold eV;rw[List.map_append];rfl
theorem Vy{G:List Nat}{i:Nat}{p:Int×AC}(h:(eV G)[i]?=some p):∃m,G[i]?=some m∧p=((m:Int),.b true):=by
 unfold eV at h;rw[List.getElem?_map]at h;cases hg:G[i]? with
 |none=>rw[hg]at h;cases h
 |some m=>rw[hg]at h;exact⟨m,rfl,(Option.some.inj h).symm⟩
theorem NY{l:List Nat}{n:Nat}(h:l.Nodup)(hb:∀i∈l,i<n):l.length≤n:=by
 have:=List.Nodup.length_le_of_subset (l₁:=l) (l₂:=List.range n) h λi hi=>List.mem_range.2 (hb i hi);rw[List.length_range]at this;exact this
theorem Us{id:Nat}{Q:ak->aa->Hp->Prop}{A:aa}{H:Hp}(h:Q .normal A H):InB id Q (.exit id) A H:=by
 show(if id=id then Q .normal A H else Q (.exit id) A H)
 rw[zB0 rfl];exact h
structure CpQ(H:Hp)(M I n:Nat)(given:List Nat)(H2:Hp):Prop where
 nx:H2.nx=H.nx
 get:∀i,i≠M->i≠I->H2.get i=H.get i
 it:∃x,H2.get I=some (.oth x)
 mp:∃G,H2.get M=some (gX kvI (eV G))∧(∀m,m∈G↔m=n∨m∈given)∧(given.length≤1->G=n::given)
 log:∃l,H2.log=l++H.log∧∀k∈l,k=M∨k=I
theorem blk2{c:Code}(hc:atF Tryz.f102 [1,0,1,1,1,1,1,1,0,1,0,1,0,1]=some c){z:Sg}{b n M I:Nat}{given:List Nat}{H:Hp}{A:aa}{mv:AC}{K:ak->aa->Hp->Prop}
  (hg:(mv=.o .nilM∧given=[]∧H.get I=some (.oth (.iter none 0 [] 0)))∨∃id,mv=.o (.mp id)∧id≠M∧id≠I∧H.get id=some (gX kvI (eV given))∧H.get I=some (lJ id given.length []))
  (Z4:given.Nodup) (hn:n∉given) (hM:H.get M=some (gX kvI (eV [n]))) (hMI:M≠I) (hMn:M<H.nx) (hIn:I<H.nx)
  (hs:slot A.tm 4=.one ((.o (.ptr z.C1 0 0 1)))∧slot A.tm 5=.one ((.o (.ptr z.C2 0 0 1)))∧slot A.tm 6=.one ((.o (.ptr z.C3 0 0 1)))∧slot A.tm 7=.one ((.o (.ptr b 0 0 1)))∧slot A.tm 8=.one ((.o (.ptr (b+1) 0 0 1)))∧slot A.tm 9=.one ((.o (.ptr (b+2) 0 0 1)))∧slot A.tm 10=.one ((.o (.ptr (b+3) 0 0 1)))∧slot A.tm 11=.one (.i .i64 (n:Int))∧slot A.tm 14=.one ((.o (.mp M)))∧slot A.tm 84=.one ((.o (.it I)))∧A.nt=228∧A.dfr=[])
  (hK:∀(A2:aa)(H2:Hp),Fr (λk=>k=M∨k=I) H H2->oM H2 M (vL (n::given))->(given.length≤1->H2.get M=some (gX kvI (eV (n::given))))->slot A2.tm 4=.one ((.o (.ptr z.C1 0 0 1)))∧slot A2.tm 5=.one ((.o (.ptr z.C2 0 0 1)))∧slot A2.tm 6=.one ((.o (.ptr z.C3 0 0 1)))∧slot A2.tm 7=.one ((.o (.ptr b 0 0 1)))∧slot A2.tm 8=.one ((.o (.ptr (b+1) 0 0 1)))∧slot A2.tm 9=.one ((.o (.ptr (b+2) 0 0 1)))∧slot A2.tm 10=.one ((.o (.ptr (b+3) 0 0 1)))∧slot A2.tm 11=.one (.i .i64 (n:Int))∧slot A2.tm 14=.one ((.o (.mp M)))∧A2.nt=228∧A2.dfr=[]->K .normal A2 H2):R1 E2 none c A H K:=by
 cases hc
 refine R1.Yh (nt:=228) (df:=[]) (λA2 H2=>(slot A2.tm 4=.one (.o (.ptr z.C1 0 0 1))∧slot A2.tm 5=.one (.o (.ptr z.C2 0 0 1))∧slot A2.tm 6=.one (.o (.ptr z.C3 0 0 1))∧slot A2.tm 7=.one (.o (.ptr b 0 0 1))∧slot A2.tm 8=.one (.o (.ptr (b+1) 0 0 1))∧slot A2.tm 9=.one (.o (.ptr (b+2) 0 0 1))∧slot A2.tm 10=.one (.o (.ptr (b+3) 0 0 1))∧slot A2.tm 11=.one (.i .i64 (n:Int))∧slot A2.tm 14=.one (.o (.mp M)))∧CpQ H M I n given H2) rfl ?_ ?_ ?_
 ·refine RA.mono (Q:=λe A' H'=>e=.exit 2∧CpQ H M I n given H'∧slot A'.tm 4=.one ((.o (.ptr z.C1 0 0 1)))∧slot A'.tm 5=.one ((.o (.ptr z.C2 0 0 1)))∧slot A'.tm 6=.one ((.o (.ptr z.C3 0 0 1)))∧slot A'.tm 7=.one ((.o (.ptr b 0 0 1)))∧slot A'.tm 8=.one ((.o (.ptr (b+1) 0 0 1)))∧slot A'.tm 9=.one ((.o (.ptr (b+2) 0 0 1)))∧slot A'.tm 10=.one ((.o (.ptr (b+3) 0 0 1)))∧slot A'.tm 11=.one (.i .i64 (n:Int))∧slot A'.tm 14=.one ((.o (.mp M)))∧A'.nt=228∧A'.dfr=[]) ?_ λe A' H' hq=>?_;rotate_left
  ·obtain⟨rfl,h0,h1,h2,h3,h4,h5,h6,h7,h8,h9,h10,h11⟩:=hq
   refine Us ?_;exact⟨rfl,h10,h11,⟨h1,h2,h3,h4,h5,h6,h7,h8,h9⟩,h0⟩
  clear hK;obtain⟨t4,t5,t6,t7,t8,t9,t10,t11,t14,t84,A0,B0⟩:=hs
  rcases hg with⟨rfl,rfl,S3⟩|⟨id,rfl,hidM,hidI,hmp,S3⟩
  ·have W7:ei H (.one (.o (.it I)))=.val lI H:=Rg S3;refine RA.round ?_;refine RA.seq ?_;refine RA.region ?_;refine OA.val (v:=lI) (H':=H) (λ_ _=>rfl) (by rw[A0];rfl) (by show ei H (slot A.tm 84)=_;rw[t84];exact W7) ?_;refine OA.val (v:=.one (.b false)) (H':=H) (λ_ _=>rfl) (by rw[az,A0];rfl) (by show bV H (slot (bI A (some 85) lI).tm 85) 0=_;simp only[ae,reduceIte];rfl) ?_;refine OA.nil ?_;refine RA.seq ?_;refine RA.cond (b:=false) (by show slot (bI (bI A (some 85) lI) (some 86) (.one (.b false))).tm 86=_;simp only[ae,reduceIte]) ?_;refine RA.exit ?_;exact⟨rfl,⟨rfl,λ_ _ _=>rfl,⟨_,S3⟩,⟨[n],hM,λm=>by simp,λ_=>rfl⟩,⟨[],rfl,λ_ h=>by cases h⟩⟩,zL⟩
  refine RA.loop (λk A H8=>∃(seen picked:List Nat),k=given.length-seen.length∧seen.Nodup∧(∀i∈seen,i<given.length)∧(∀m,m∈picked↔∃i∈seen,given[i]?=some m)∧(given.length≤1->picked=seen.map λi=>given.getD i 0)∧H8.nx=H.nx∧(∀i,i≠M->i≠I->H8.get i=H.get i)∧H8.get I=some (lJ id given.length seen)∧H8.get M=some (gX kvI (eV (n::picked)))∧(∃l,H8.log=l++H.log∧∀k∈l,k=M∨k=I)∧slot A.tm 4=.one ((.o (.ptr z.C1 0 0 1)))∧slot A.tm 5=.one ((.o (.ptr z.C2 0 0 1)))∧slot A.tm 6=.one ((.o (.ptr z.C3 0 0 1)))∧slot A.tm 7=.one ((.o (.ptr b 0 0 1)))∧slot A.tm 8=.one ((.o (.ptr (b+1) 0 0 1)))∧slot A.tm 9=.one ((.o (.ptr (b+2) 0 0 1)))∧slot A.tm 10=.one ((.o (.ptr (b+3) 0 0 1)))∧slot A.tm 11=.one (.i .i64 (n:Int))∧slot A.tm 14=.one ((.o (.mp M)))∧slot A.tm 84=.one ((.o (.it I)))∧A.nt=228∧A.dfr=[]) ?_ given.length
   ⟨[],[],rfl,List.nodup_nil,λ_ h=>absurd h List.not_mem_nil,λm=>⟨λh=>absurd h List.not_mem_nil,λ⟨i,hi,_⟩=>absurd hi List.not_mem_nil⟩,λ_=>rfl,rfl,λ_ _ _=>rfl,S3,hM,⟨[],rfl,λ_ h=>by cases h⟩,t4,t5,t6,t7,t8,t9,t10,t11,t14,t84,A0,B0⟩
  clear t4 t5 t6 t7 t8 t9 t10 t11 t14 t84 A0 B0 A S3 hM;rintro k A H8 ⟨seen,picked,rfl,snd,sbd,hpk,hex,n8,g8,S3,hM8,hlog,t4,t5,t6,t7,t8,t9,t10,t11,t14,t84,A0,B0⟩;have hmp8:H8.get id=some (gX kvI (eV given)):=(g8 id hidM hidI).trans hmp;have hel:(eV given).length=given.length:=List.length_map ..;rw[<-hel]at S3;refine RA.seq ?_;by_cases Z1:∀i,i<given.length->i∈seen
  ·have W7:ei H8 (.one (.o (.it I)))=.val lI H8:=NL S3 hmp8 λi hi=>Z1 i (by rwa [hel]at hi);refine RA.region ?_;refine OA.val (v:=lI) (H':=H8) (λ_ _=>rfl) (by rw[A0];rfl) (by show ei H8 (slot A.tm 84)=_;rw[t84];exact W7) ?_;refine OA.val (v:=.one (.b false)) (H':=H8) (λ_ _=>rfl) (by rw[az,A0];rfl) (by show bV H8 (slot (bI A (some 85) lI).tm 85) 0=_;simp only[ae,reduceIte];rfl) ?_;refine OA.nil ?_;refine RA.seq ?_;refine RA.cond (b:=false) (by show slot (bI (bI A (some 85) lI) (some 86) (.one (.b false))).tm 86=_;simp only[ae,reduceIte]) ?_;refine RA.exit ?_;have hmm:∀m,m∈picked↔m∈given:=λm=>by
    rw[hpk];constructor
    ·rintro⟨i,_,h⟩;exact List.mem_of_getElem? h
    intro h;obtain⟨i,hi⟩:=List.mem_iff_getElem?.1 h
    exact⟨i,Z1 i (List.getElem?_eq_some_iff.1 hi).1,hi⟩
   refine⟨rfl,⟨n8,g8,⟨_,S3⟩,⟨n::picked,hM8,λm=>by rw[List.mem_cons,hmm],λhl=>?_⟩,hlog⟩,zL⟩
   rw[hex hl];congr 1
   cases given with
   |nil=>
    cases seen with
    |nil=>rfl
    |cons a l=>have:=sbd a (List.mem_cons_self ..);cases this
   |cons g gs=>
    cases gs with
    |cons g2 gs=>simp at hl
    |nil=>
     cases seen with
     |nil=>exact absurd (Z1 0 (by simp)) List.not_mem_nil
     |cons a l=>
      have ha:a=0:=by have:=sbd a (List.mem_cons_self ..);simp at this;exact this
      subst ha;cases l with
      |nil=>rfl
      |cons a2 l=>
       have ha2:a2=0:=by have:=sbd a2 (List.mem_cons_of_mem _ (List.mem_cons_self ..));simp at this;exact this
       subst ha2;exact absurd (List.mem_cons_self ..) (List.nodup_cons.1 snd).1
  obtain⟨i0,l5,hi0s⟩:∃i,i<given.length∧i∉seen:=Classical.byContradiction λhn=>Z1 λi hi=>Classical.byContradiction λh=>hn ⟨i,hi,h⟩
  obtain⟨ws,hws,Z0,hall2⟩:=OY (kv:=kvI) S3 hmp8 ⟨i0,by rw[hel];exact l5,hi0s⟩
  refine RA.region ?_;refine OA.om (vs:=ws) (λ_ _=>rfl) (by rw[A0];rfl) (by show ei H8 (slot A.tm 84)=_;rw[t84];exact hws) Z0 λx hx=>?_;obtain⟨i,pe,hp,hni,rfl⟩:=hall2 x hx
  obtain⟨m,hm,rfl⟩:=Vy hp
  refine OA.val (v:=.one (.b true)) (H':=H8.mod I (lJ id (eV given).length (seen++[i]))) (λ_ _=>rfl) (by rw[az,A0];rfl) (by show bV _ (slot (bI A (some 85) _).tm 85) 0=_;simp only[ae,reduceIte];rfl) ?_;refine OA.nil ?_;refine RA.seq ?_;refine RA.cond (b:=true) (by show slot (bI (bI A (some 85) _) (some 86) (.one (.b true))).tm 86=_;simp only[ae,reduceIte]) ?_;refine RA.skip ?_;refine RA.of ?_;have hilt:i<given.length:=(List.getElem?_eq_some_iff.1 hm).1;have snd2:(seen++[i]).Nodup:=List.pairwise_append.2 ⟨snd,List.pairwise_singleton _ _,λa ha b hb e=>hni (by rw[<-List.mem_singleton.1 hb,<-e];exact ha)⟩;have sbd2:∀q∈seen++[i],q<given.length:=λq hq=>by
   rcases List.mem_append.1 hq with hq|hq
   ·exact sbd q hq
   rw[List.mem_singleton.1 hq];exact hilt
  have hle2:=NY snd2 sbd2;rw[List.length_append,List.length_singleton]at hle2;have hpk2:∀y,y∈picked++[m]↔∃q∈seen++[i],given[q]?=some y:=λy=>by
   rw[List.mem_append,hpk];constructor
   ·rintro(⟨q,hq,e⟩|hz)
    ·exact⟨q,List.mem_append_left _ hq,e⟩
    rw[List.mem_singleton.1 hz];exact⟨i,List.mem_append_right _ (List.mem_singleton.2 rfl),hm⟩
   rintro⟨q,hq,e⟩
   rcases List.mem_append.1 hq with hq|hq
   ·exact .inl ⟨q,hq,e⟩
   rw[List.mem_singleton.1 hq,hm]at e;exact .inr (List.mem_singleton.2 (Option.some.inj e).symm)
  have A_:given.length≤1->picked++[m]=(seen++[i]).map λi=>given.getD i 0:=λhl=>by
   rw[hex hl,List.map_append];show _=_++[given.getD i 0];rw[List.getD_eq_getElem?_getD,hm];rfl
  have hmp2:m∉n::picked:=λh=>by
   rcases List.mem_cons.1 h with h|h
   ·subst h;exact hn (List.mem_of_getElem? hm)
   obtain⟨q,hq,e⟩:=(hpk m).1 h
   have hqi:q≠i:=λe=>hni (by rw[<-e];exact hq);obtain⟨l1,e1⟩:=List.getElem?_eq_some_iff.1 e
   obtain⟨l2,e2⟩:=List.getElem?_eq_some_iff.1 hm
   exact hqi ((List.getElem_inj (h₀:=l1) (h₁:=l2) Z4).1 (e1.trans e2.symm))
  obtain⟨lg,elg,flg⟩:=hlog
  refine R1.gen (λA9 H9=>H9.nx=H.nx∧(∀i,i≠M->i≠I->H9.get i=H.get i)∧H9.get I=some (lJ id (eV given).length (seen++[i]))∧H9.get M=some (gX kvI (eV (n::picked)))∧(∃l,H9.log=l++H.log∧∀k∈l,k=M∨k=I)∧slot A9.tm 4=.one ((.o (.ptr z.C1 0 0 1)))∧slot A9.tm 5=.one ((.o (.ptr z.C2 0 0 1)))∧slot A9.tm 6=.one ((.o (.ptr z.C3 0 0 1)))∧slot A9.tm 7=.one ((.o (.ptr b 0 0 1)))∧slot A9.tm 8=.one ((.o (.ptr (b+1) 0 0 1)))∧slot A9.tm 9=.one ((.o (.ptr (b+2) 0 0 1)))∧slot A9.tm 10=.one ((.o (.ptr (b+3) 0 0 1)))∧slot A9.tm 11=.one (.i .i64 (n:Int))∧slot A9.tm 14=.one ((.o (.mp M)))∧slot A9.tm 84=.one ((.o (.it I)))∧A9.nt=228∧A9.dfr=[])
   ⟨n8,λq q1 q2=>(au q2).trans (g8 q q1 q2),an rfl,(au hMI).trans hM8,⟨I::lg,congrArg (I::·) elg,λk hk=>(List.mem_cons.1 hk).elim .inr (flg k)⟩,zL⟩ ?_
  clear t4 t5 t6 t7 t8 t9 t10 t11 t14 t84 A0 B0 A hws Z0 hall2 hx S3 hM8 g8 n8 hmp8 Z1 l5 hi0s ws flg elg lg H8;rintro A H9 ⟨n9,g9,hit9,hM9,⟨lg,elg,flg⟩,t4,t5,t6,t7,t8,t9,t10,t11,t14,t84,A0,B0⟩;have hmp9:H9.get id=some (gX kvI (eV given)):=(g9 id hidM hidI).trans hmp;have hent:gF H9 (.one (.o (.it I)))=.val (.tup [(false,[.i .i64 (m:Int)]),(false,[.b true])]) H9:=WQ hit9 hmp9 hp;have hup:aU Tryz.prog H9 3 (.one (.o (.mp M))) (.one (.i .i64 (m:Int))) (.one (.b true))=.val aD (H9.mod M (gX kvI (eV (n::picked++[m])))):=by
   rw[EJ (BU Dg) (k:=(m:Int)) (x:=.b true) hM9,ZH hmp2]
  have hM9n:M<H9.nx:=by omega
  replace n9:=hd n9;replace g9:=hd g9;replace hit9:=hd hit9;replace hM9:=hd hM9;replace elg:=hd elg;replace flg:=hd flg;replace hm:=hd hm;replace hp:=hd hp;replace hmp:=hd hmp;replace hmp9:=hd hmp9;replace hmp2:=hd hmp2;replace hex:=hd hex;replace A_:=hd A_;replace hpk:=hd hpk;replace hpk2:=hd hpk2;replace hel:=hd hel;replace hn:=hd hn;refine R1.og λK3 q1 q2 q3 q4=>?_;refine zW (zDe tyR (@TT) hent hup) ?_;refine q1.out _ _ ?_;exact⟨given.length-(seen++[i]).length,by rw[List.length_append,List.length_singleton];omega,seen++[i],picked++[m],rfl,snd2,sbd2,hpk2.out,A_.out,n9.out,λq q1 q2=>(au q1).trans (g9.out q q1 q2),by rw[<-hel.out];exact(au hMI.symm).trans hit9.out,an rfl,⟨M::lg,congrArg (M::·) elg.out,λk hk=>(List.mem_cons.1 hk).elim .inl (flg.out k)⟩,zL⟩
 ·intro i hi;by_cases h1:i=M
  ·subst h1;refine .inr (.inl ⟨vL (n::given),λA2 H2 hp=>?_⟩);obtain⟨G,a1,a2,_⟩:=hp.2.mp
   refine⟨_,_,_,a1,kO 0 _,λx=>?_⟩
   rw[nO];exact congrFun (yV λm=>by rw[a2,List.mem_cons]) x
  by_cases h2:i=I
  ·subst h2;exact .inr (.inr λA2 H2 hp=>hp.2.it)
  exact .inl ⟨H.get i,λA2 H2 hp=>hp.2.get i h1 h2⟩
 intro A' H' j;have V0:H.nx≤H'.nx:=j.nx λA2 H2 hp=>Nat.le_of_eq hp.2.nx.symm;refine hK A' H' ⟨V0,λi hi hx=>j.old i _ hi λA2 H2 hp=>⟨Nat.le_of_eq hp.2.nx.symm,hp.2.get i (λe=>hx (.inl e)) λe=>hx (.inr e)⟩,j.log _ (λi hi hx=>⟨H.get i,λA2 H2 hp=>hp.2.get i (λe=>hx (.inl e)) λe=>hx (.inr e)⟩) λA2 H2 hp=>?_⟩ ?_ ?_ ?_
 ·obtain⟨l,e,f⟩:=hp.2.log
  exact⟨l,e,λk hk=>.inr (f k hk)⟩
 ·refine j.map M _ hMn λA2 H2 hp=>⟨Nat.le_of_eq hp.2.nx.symm,?_⟩;obtain⟨G,a1,a2,_⟩:=hp.2.mp
  refine⟨_,_,_,a1,kO 0 _,λx=>?_⟩
  rw[nO];exact congrFun (yV λm=>by rw[a2,List.mem_cons]) x
 ·intro hl;refine j.old M _ hMn λA2 H2 hp=>⟨Nat.le_of_eq hp.2.nx.symm,?_⟩;obtain⟨G,a1,_,a3⟩:=hp.2.mp
  rw[a1,a3 hl]
 refine⟨j.slot 4 _ (by omega) λA2 H2 hp=>hp.1.1,j.slot 5 _ (by omega) λA2 H2 hp=>hp.1.2.1,j.slot 6 _ (by omega) λA2 H2 hp=>hp.1.2.2.1,j.slot 7 _ (by omega) λA2 H2 hp=>hp.1.2.2.2.1,j.slot 8 _ (by omega) λA2 H2 hp=>hp.1.2.2.2.2.1,j.slot 9 _ (by omega) λA2 H2 hp=>hp.1.2.2.2.2.2.1,j.slot 10 _ (by omega) λA2 H2 hp=>hp.1.2.2.2.2.2.2.1,j.slot 11 _ (by omega) λA2 H2 hp=>hp.1.2.2.2.2.2.2.2.1,j.slot 14 _ (by omega) λA2 H2 hp=>hp.1.2.2.2.2.2.2.2.2,j.ntE,j.dfr⟩
end Go.Proofs.YtgepceljhelekaaGreat
