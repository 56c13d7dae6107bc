/- A part of the proof. -/
import Derived.Test.YtgepceljhelekaaGreatPAAi
import Derived.Sort.Defs
import Derived.Sort.Lot0
import Derived.Sort.LotD5
import Derived.KernelRfl
set_option maxRecDepth 100000
set_option maxHeartbeats 64000000
set_option linter.all false
open Go.Proofs.Tryz (prog)
noncomputable section
namespace Go.Proofs.YtgepceljhelekaaGreat
open Go Go.Eng
def aaW(p:Nat->Bool):∀n:Nat,(∀j,j<n->p j=false)->(List.range n).filter p=[]
 |0,_=>rfl
 |n+1,h=>by rw[List.range_succ,xa,aaW p n λj hj=>h j aa,List.filter_cons,h n aa];rfl
def aaX(p:Nat->Bool)(i:Nat):∀n:Nat,i<n->(∀j,j<n->p j=decide (j=i))->(List.range n).filter p=[i]
 |0,h,_=>absurd h (Nat.not_lt_zero i)
 |n+1,hi,h=>by
  rw[List.range_succ,xa,List.filter_cons,h n aa];by_cases he:n=i
  ·subst he;rw[aaW p n λj hj=>by rw[h j aa];exact bJ aa,bp rfl];rfl
  rw[aaX p i n aa λj hj=>h j aa,bJ he];rfl
def acb(p:Nat->Bool)(i:Nat):∀n:Nat,i+1<n->(∀j,j<n->p j=(decide (j=i)||decide (j=i+1)))->(List.range n).filter p=[i,i+1]
 |0,h,_=>absurd h (Nat.not_lt_zero _)
 |n+1,hi,h=>by
  rw[List.range_succ,xa,List.filter_cons,h n aa];by_cases he:n=i+1
  ·subst he;rw[aaX p i (i+1) aa λj hj=>by rw[h j aa,bJ (show¬j=i+1 by omega),Bool.or_false],bp rfl,Bool.or_true];rfl
  rw[acb p i n aa λj hj=>h j aa,bJ he,bJ (show¬n=i by omega)];rfl
def fO(cs ds:List Int)(n:Nat):List Nat:=(List.range n).filter λi=>cs.getD i 0 != ds.getD i 0
def jx(cs ds:List Int):List Nat->Int
 |[a]=>if cs.getD a 0=ds.getD a 0+1 then 1 else if cs.getD a 0+1=ds.getD a 0 then 2 else 0
 |[a,b]=>if b=a+1 then(if ds.getD b 0=0/\1<=ds.getD a 0/\cs.getD a 0=0/\cs.getD b 0=ds.getD a 0 then 3 else if ds.getD a 0=0/\1<=ds.getD b 0/\cs.getD b 0=0/\cs.getD a 0=ds.getD b 0 then 4 else 0)else 0
 |_=>0
def eJ(l:List Int)(i j:Nat)(d:Int)(hi:i<l.length):(l.set i d).getD j 0=if j=i then d else l.getD j 0:=by
 rw[bt,HO];by_cases h:i=j
 ·subst h;rw[ad rfl,ad hi,ad rfl];rfl
 rw[ab h,ab (λe=>h e.symm),bt]
def aca{l k:List Int}(h:l.length=k.length)(he:∀j,j<l.length->l.getD j 0=k.getD j 0):l=k:=by
 apply List.ext_getElem? ;intro j;rcases cL j l.length with hj|hj
 ·have:=he j hj;rw[bt,bt,aA hj,aA (h▸hj)]at this;rw[aA hj,aA (h▸hj)];exact congrArg some this
 rw[iY hj,iY (h▸hj)]
def tY.set{us:List Pr}{ds:List Int}(h:tY us ds){i:Nat}{d:Int}(hi:i<us.length)(h0:0<=d)(h1:i+1<us.length->d<(us.getD (i+1) ([],0)).2):tY us (ds.set i d):=by
 have hl:=h.1;refine⟨by rw[fl];exact hl,λj hj=>?_⟩;rw[eJ _ _ _ _ aa];by_cases e:j=i
 ·subst e;rw[ad rfl];exact⟨h0,h1⟩
 rw[ab e];exact h.2 j hj
def iK{us:List Pr}{i:Nat}{k:Int}(hi:i<us.length):nP us i k=true↔(i+1<us.length->k<(us.getD (i+1) ([],0)).2):=by
 unfold nP;rw[iZ,jr,bI];constructor
 ·rintro(h|h) h2
  ·omega
  exact h
 intro h;rcases cL (i+1) us.length with h1|h1
 ·exact .inr (h h1)
 exact .inl aa
def eW{b:Bool}{x y:Sp}:y∈one b x↔b=true/\okN x.2.2=true/\y=x:=by
 unfold one;cases b with
 |false=>simp
 |true=>
  cases h:okN x.2.2 with
  |false=>simp
  |true=>simp
def JE{m k:Int}:∀{S:List Sp},(∀x∈S,x.2.2=m->x.1=k)->(k=0\/∃x∈S,x.2.2=m)->iO S m=k
 |[],_,h=>by
  rcases h with h|⟨x,hx,_⟩
  ·exact h.symm
  cases hx
 |x::S,h1,h2=>by
  rw[iO];by_cases h:x.2.2=m
  ·rw[ad h];exact h1 x (aT ..) h
  rw[ab h];refine JE (λy hy=>h1 y (aR _ hy)) ?_;rcases h2 with h2|⟨y,hy,e⟩
  ·exact .inl h2
  rcases List.mem_cons.1 hy with rfl|hy
  ·exact absurd e h
  exact .inr ⟨y,hy,e⟩
def QT{cs:List Int}{i n:Nat}{d:Int}(hl:cs.length=n)(hi:i<n)(hd:d≠cs.getD i 0):fO cs (cs.set i d) n=[i]:=by
 unfold fO;refine aaX _ i n hi λj hj=>?_;rw[eJ _ _ _ _ aa];by_cases e:j=i
 ·subst e;rw[ad rfl,bp rfl];exact bne_iff_ne.2 λh=>hd h.symm
 rw[ab e,bJ e];exact HP _
def QU{cs:List Int}{i n:Nat}{d e:Int}(hl:cs.length=n)(hi:i+1<n)(hd:d≠cs.getD i 0)(he:e≠cs.getD (i+1) 0):fO cs ((cs.set i d).set (i+1) e) n=[i,i+1]:=by
 unfold fO;refine acb _ i n hi λj hj=>?_;rw[eJ _ _ _ _ (by rw[fl];omega),eJ _ _ _ _ aa];by_cases h1:j=i+1
 ·subst h1;rw[ad rfl,bp (show i+1=i+1 from rfl),Bool.or_true];exact bne_iff_ne.2 λh=>he h.symm
 rw[ab h1,bJ h1,Bool.or_false];by_cases h:j=i
 ·subst h;rw[ad rfl,bp rfl];exact bne_iff_ne.2 λh=>hd h.symm
 rw[ab h,bJ h];exact HP _
def Pn{cs ds:List Int}{n j:Nat}:j∈fO cs ds n↔j<n/\cs.getD j 0≠ds.getD j 0:=by unfold fO;rw[xP,CD,bne_iff_ne]
def JF{nm:List UInt8}{us:List Pr}(L0:aP nm us=0){n m:Int}(J3:1<=n)(hm1:1<=m)(hm2:m<=1099511627776):
  iO (gM us (az us n) (eY nm us) n) m=jx (az us n) (az us m) (fO (az us n) (az us m) us.length):=by
 obtain⟨hL,B8,hf⟩:=eR L0;have L9:∀x∈us,1<=x.2:=λx hx=>(hf x hx).1;obtain⟨x0,l0,hxl,O0⟩:=eT L0;have Q0:us≠[]:=by rw[hxl];simp
 have z_:=oJ us n aa L9;have hdm:=oJ us m aa L9;have hen:=ru us n Q0;have hem:=ru us m Q0;have huq:∀ds,tY us ds->evH us ds=m->az us m=ds:=λds h1 h2=>by rw[<-h2];exact Ct us ds h1
 have hv:∀i,i<us.length->(eY nm us).getD i 0=vW us i:=λi hi=>(lh L0 hi).1;clear B8 hf hxl O0;generalize eY nm us=vs at hv |-;generalize az us m=ds at hdm hem huq |-;generalize az us n=cs at z_ hen |-;have hl:=z_.1;have hlm:=hdm.1;have e1:∀i d,i<us.length->evH us (cs.set i d)=n+(d-cs.getD i 0)*vW us i:=λi d hi=>by rw[Bh us cs i d hl hi,hen]
 have e2:∀i d e,i+1<us.length->evH us ((cs.set i d).set (i+1) e)=n+(d-cs.getD i 0)*vW us i+(e-cs.getD (i+1) 0)*vW us (i+1):=λi d e hi=>by rw[Bh us (cs.set i d) (i+1) e (by rw[fl];exact hl) hi,e1 i d aa,eJ _ _ _ _ aa,ab aa]
 have g1:∀i d,i<us.length->(cs.set i d).getD i 0=d:=λi d hi=>by rw[eJ _ _ _ _ aa,ad rfl]
 have g2:∀i d e,i+1<us.length->((cs.set i d).set (i+1) e).getD i 0=d/\((cs.set i d).set (i+1) e).getD (i+1) 0=e:=λi d e hi=>by exact⟨by rw[eJ _ _ _ _ (by rw[fl];omega),ab aa,g1 i d aa],by rw[eJ _ _ _ _ (by rw[fl];omega),ad rfl]⟩
 have okm:okN m=true:=by unfold okN;rw[bp hm1,bp hm2];rfl
 refine JE (λx hx O7=>?_) ?_
 ·unfold gM at hx;obtain⟨i,hi,hx⟩:=List.mem_flatMap.1 hx;rw[CD]at hi;obtain⟨c0,c1⟩:=z_.2 i hi;unfold fz at hx;rw[iU,iU,eW,eW]at hx;rcases hx with(⟨h1,_,rfl⟩|⟨h1,_,rfl⟩)|hx
  ·replace O7:n-vs.getD i 0=m:=O7;rw[hv i hi]at O7;have hc:=pX h1;have:=huq (cs.set i (cs.getD i 0-1)) (z_.set hi aa λh=>by have:=c1 h;omega) (by rw[e1 i _ hi,<-O7,show cs.getD i 0-1-cs.getD i 0=-1 by omega,ow,lG];omega);subst this;rw[QT hl hi aa];show 1=(if _ then(1:Int)else _);rw[g1 i _ hi,ad aa]
  ·replace O7:n+vs.getD i 0=m:=O7;rw[hv i hi]at O7;have hc:=(iK hi).1 h1;have:=huq (cs.set i (cs.getD i 0+1)) (z_.set hi aa hc) (by rw[e1 i _ hi,<-O7,show cs.getD i 0+1-cs.getD i 0=1 by omega,lG]);subst this;rw[QT hl hi aa];show 2=(if _ then(1:Int)else _);rw[g1 i _ hi,ab aa,ad rfl]
  by_cases I2:i+1=us.length
  ·rw[ad I2]at hx;cases hx
  have I3:i+1<us.length:=aa;obtain⟨d0,d1⟩:=z_.2 (i+1) I3;rw[ab I2,iU,eW,eW]at hx;rcases hx with⟨h1,_,rfl⟩|⟨h1,_,rfl⟩
  ·rw[aV,aV,jr,bI]at h1;obtain⟨⟨h1,h2⟩,h3⟩:=h1;replace O7:n-cs.getD (i+1) 0*vs.getD (i+1) 0+cs.getD (i+1) 0*vs.getD i 0=m:=O7;rw[hv i hi,hv (i+1) I3]at O7;have:=huq ((cs.set i (cs.getD (i+1) 0)).set (i+1) 0) ((z_.set hi d0 ((iK hi).1 h3)).set I3 aa λh=>by have:=d1 h;omega) (by rw[e2 i _ _ I3,<-O7,h1,Int.sub_zero,Int.zero_sub,ow];omega);subst this;rw[QU hl I3 aa aa];show 3=(if _ then(if _ then(3:Int)else _)else _);rw[ad rfl,(g2 i _ _ I3).1,(g2 i _ _ I3).2,ad ⟨rfl,aa,h1,rfl⟩]
  rw[aV,aV,jr,bI]at h1;obtain⟨⟨h1,h2⟩,h3⟩:=h1;replace O7:n-cs.getD i 0*vs.getD i 0+cs.getD i 0*vs.getD (i+1) 0=m:=O7;rw[hv i hi,hv (i+1) I3]at O7;have:=huq ((cs.set i 0).set (i+1) (cs.getD i 0)) ((z_.set hi (ot 0) λh=>by have:=c1 h;omega).set I3 c0 ((iK I3).1 h3)) (by rw[e2 i _ _ I3,<-O7,h1,Int.sub_zero,Int.zero_sub,ow];omega);subst this;rw[QU hl I3 aa aa];show 4=(if _ then(if _ then(3:Int)else if _ then 4 else _)else _);rw[ad rfl,(g2 i _ _ I3).1,(g2 i _ _ I3).2,ab (λh=>aa),ad ⟨rfl,aa,h1,rfl⟩]
 have md:=@Pn cs ds us.length;have found:∀(i:Nat)(x:Sp),i<us.length->x∈fz us cs vs n i->x.2.2=m->∃x∈gM us cs vs n,x.2.2=m:=λi x hi hx he=>⟨x,List.mem_flatMap.2 ⟨i,List.mem_range.2 hi,hx⟩,he⟩;generalize fO cs ds us.length=D at md |-;rcases D with _|⟨a,_|⟨b,_|⟨c,D⟩⟩⟩
 ·exact .inl rfl
 ·have ha:=(md.1 (aT ..)).1;have hds:ds=cs.set a (ds.getD a 0):=aca (by rw[fl];omega) λj hj=>by
   rw[eJ _ _ _ _ aa];by_cases e:j=a
   ·subst e;rw[ad rfl]
   rw[ab e];exact fL λh=>e (List.mem_singleton.1 (md.2 ⟨aa,λh'=>h h'.symm⟩))
  have hev:m=n+(ds.getD a 0-cs.getD a 0)*vW us a:=by rw[<-e1 a _ ha,<-hds,hem]
  have hda:=hdm.2 a ha;show(if _ then(1:Int)else if _ then 2 else 0)=0\/_;by_cases k1:cs.getD a 0=ds.getD a 0+1
  ·refine .inr (found a _ ha (dC _ (dC _ (eW.2 ⟨bp aa,?_,rfl⟩))) ?_)
   ·show okN (n-vs.getD a 0)=true;rw[hv a ha,show n-vW us a=m by rw[hev,k1,show ds.getD a 0-(ds.getD a 0+1)=-1 by omega,ow,lG];omega];exact okm
   show n-vs.getD a 0=m;rw[hv a ha,hev,k1,show ds.getD a 0-(ds.getD a 0+1)=-1 by omega,ow,lG];omega
  rw[ab k1];by_cases k2:cs.getD a 0+1=ds.getD a 0
  ·have hm:n+vs.getD a 0=m:=by rw[hv a ha,hev,<-k2,show cs.getD a 0+1-cs.getD a 0=1 by omega,lG]
   exact .inr (found a (2,(us.getD a ([],0)).1,n+vs.getD a 0) ha (dC _ (du _ (eW.2 ⟨(iK ha).2 λh=>by rw[k2];exact hda.2 h,by show okN (n+vs.getD a 0)=true;rw[hm];exact okm,rfl⟩))) hm)
  rw[ab k2];exact .inl rfl
 ·have ha:=(md.1 (aT ..)).1;have hb:=(md.1 (aR _ (aT ..))).1;show(if _ then(if _ then(3:Int)else if _ then 4 else 0)else 0)=0\/_;by_cases hba:b=a+1
  case neg=>rw[ab hba];exact .inl rfl
  subst hba;rw[ad rfl];have hds:ds=(cs.set a (ds.getD a 0)).set (a+1) (ds.getD (a+1) 0):=aca (by rw[fl,fl];omega) λj hj=>by
   rw[eJ _ _ _ _ (by rw[fl];omega),eJ _ _ _ _ aa];by_cases e:j=a+1
   ·subst e;rw[ad rfl]
   rw[ab e];by_cases e':j=a
   ·subst e';rw[ad rfl]
   rw[ab e'];refine fL λh=>?_;have:=md.2 ⟨show j<us.length by omega,λh'=>h h'.symm⟩;rcases List.mem_cons.1 this with h|h
   ·exact e' h
   exact e (List.mem_singleton.1 h)
  have hev:m=n+(ds.getD a 0-cs.getD a 0)*vW us a+(ds.getD (a+1) 0-cs.getD (a+1) 0)*vW us (a+1):=by rw[<-e2 a _ _ hb,<-hds,hem]
  have hda:=hdm.2 a ha;have hdb:=hdm.2 (a+1) hb;have I2:¬a+1=us.length:=aa;by_cases k1:ds.getD (a+1) 0=0/\1<=ds.getD a 0/\cs.getD a 0=0/\cs.getD (a+1) 0=ds.getD a 0
  ·obtain⟨p1,p2,p3,p4⟩:=k1;have hm:n-cs.getD (a+1) 0*vs.getD (a+1) 0+cs.getD (a+1) 0*vs.getD a 0=m:=by rw[hv a ha,hv (a+1) hb,hev,p1,p3,p4,Int.sub_zero,Int.zero_sub,ow];omega
   refine .inr (found a (3,(us.getD a ([],0)).1,n-cs.getD (a+1) 0*vs.getD (a+1) 0+cs.getD (a+1) 0*vs.getD a 0) ha (du _ ?_) hm);rw[ab I2];exact dC _ (eW.2 ⟨by rw[beq_iff_eq.2 p3,bp (show 0<cs.getD (a+1) 0 by omega),(iK ha).2 λh=>by rw[p4];exact hda.2 h];rfl,by show okN (n-cs.getD (a+1) 0*vs.getD (a+1) 0+cs.getD (a+1) 0*vs.getD a 0)=true;rw[hm];exact okm,rfl⟩)
  rw[ab k1];by_cases k2:ds.getD a 0=0/\1<=ds.getD (a+1) 0/\cs.getD (a+1) 0=0/\cs.getD a 0=ds.getD (a+1) 0
  ·obtain⟨p1,p2,p3,p4⟩:=k2;have hm:n-cs.getD a 0*vs.getD a 0+cs.getD a 0*vs.getD (a+1) 0=m:=by rw[hv a ha,hv (a+1) hb,hev,p1,p3,p4,Int.sub_zero,Int.zero_sub,ow];omega
   refine .inr (found a (4,(us.getD (a+1) ([],0)).1,n-cs.getD a 0*vs.getD a 0+cs.getD a 0*vs.getD (a+1) 0) ha (du _ ?_) hm);rw[ab I2];exact du _ (eW.2 ⟨by rw[beq_iff_eq.2 p3,bp (show 0<cs.getD a 0 by omega),(iK hb).2 λh=>by rw[p4];exact hdb.2 h];rfl,by show okN (n-cs.getD a 0*vs.getD a 0+cs.getD a 0*vs.getD (a+1) 0)=true;rw[hm];exact okm,rfl⟩)
  rw[ab k2];exact .inl rfl
 exact .inl rfl
def Tz:ao prog 131=true:=ae
def iQ(nm:List UInt8)(us:List Pr)(m n:Int):Int:=
 if(1<=m/\1<=n)/\(m<=1099511627776/\n<=1099511627776)then jx (cy nm us n).1 (cy nm us m).1 (fO (cy nm us n).1 (cy nm us m).1 (cy nm us n).1.length)else 0
def IT(cs ds:List Int)(i:Nat):fO cs ds (i+1)=fO cs ds i++(if cs.getD i 0=ds.getD i 0 then[]else[i]):=by
 unfold fO;rw[List.range_succ,xa,List.filter_cons];by_cases h:cs.getD i 0=ds.getD i 0
 ·rw[ad h,ab (by rw[h];simp)];rfl
 rw[ab h,ad (bne_iff_ne.2 h)];rfl
def Gl(cs ds:List Int):∀i,(fO cs ds i).length<=i
 |0=>ai _
 |i+1=>by
  rw[IT,aI];have:=Gl cs ds i;split
  ·exact tC this
  exact Nat.succ_le_succ this
def ints(l:List Nat):List Int:=l.map λk:Nat=>(k:Int)
def yU(nm:List UInt8)(us:List Pr)(n:Int):((cy nm us n).1.length<=us.length)/\∀i,i<(cy nm us n).1.length->0<=(cy nm us n).1.getD i 0/\(cy nm us n).1.getD i 0<=1099511627776:=by
 unfold cy;by_cases L0:aP nm us=0
 case neg=>rw[ad L0];exact⟨Nat.zero_le _,λi hi=>absurd hi (Nat.not_lt_zero i)⟩
 rw[ab (λh=>h L0)];by_cases hn:0<=n/\n<=1099511627776
 case neg=>rw[ab hn];exact⟨Nat.zero_le _,λi hi=>absurd hi (Nat.not_lt_zero i)⟩
 rw[ad hn];refine⟨mZ (eC us n),λi hi=>?_⟩;exact(zN L0 hn.1 hn.2 i (by rw[eC]at hi;exact hi)).1
def WR(us:List Pr)(cs ds:List Int):List Nat->List UInt8
 |[a]=>(us.getD a ([],0)).1
 |[a,b]=>if jx cs ds [a,b]=3 then(us.getD a ([],0)).1 else(us.getD b ([],0)).1
 |_=>[]
def sn(us:List Pr)(n m:Int):Sp:=(jx (az us n) (az us m) (fO (az us n) (az us m) us.length),WR us (az us n) (az us m) (fO (az us n) (az us m) us.length),m)
def tn{nm:List UInt8}{us:List Pr}(L0:aP nm us=0){n:Int}(J3:1<=n){i:Nat}(hi:i<us.length){x:Sp}(hx:x∈fz us (az us n) (eY nm us) n i):
  okN x.2.2=true/\x=sn us n x.2.2/\x.1≠0/\(fO (az us n) (az us x.2.2) us.length=[i]\/i+1<us.length/\fO (az us n) (az us x.2.2) us.length=[i,i+1]):=by
 obtain⟨hL,B8,hf⟩:=eR L0;have L9:∀x∈us,1<=x.2:=λx hx=>(hf x hx).1;obtain⟨x0,l0,hxl,O0⟩:=eT L0;have Q0:us≠[]:=by rw[hxl];simp
 have z_:=oJ us n aa L9;have hen:=ru us n Q0;have huq:∀ds m,tY us ds->evH us ds=m->az us m=ds:=λds m h1 h2=>by rw[<-h2];exact Ct us ds h1
 have hv:∀i,i<us.length->(eY nm us).getD i 0=vW us i:=λi hi=>(lh L0 hi).1;clear B8 hf hxl O0;unfold sn;generalize eY nm us=vs at hv hx;generalize az us n=cs at z_ hen hx |-;have hl:=z_.1;have e1:∀i d,i<us.length->evH us (cs.set i d)=n+(d-cs.getD i 0)*vW us i:=λi d hi=>by rw[Bh us cs i d hl hi,hen]
 have e2:∀i d e,i+1<us.length->evH us ((cs.set i d).set (i+1) e)=n+(d-cs.getD i 0)*vW us i+(e-cs.getD (i+1) 0)*vW us (i+1):=λi d e hi=>by rw[Bh us (cs.set i d) (i+1) e (by rw[fl];exact hl) hi,e1 i d aa,eJ _ _ _ _ aa,ab aa]
 have g1:∀i d,i<us.length->(cs.set i d).getD i 0=d:=λi d hi=>by rw[eJ _ _ _ _ aa,ad rfl]
 have g2:∀i d e,i+1<us.length->((cs.set i d).set (i+1) e).getD i 0=d/\((cs.set i d).set (i+1) e).getD (i+1) 0=e:=λi d e hi=>by exact⟨by rw[eJ _ _ _ _ (by rw[fl];omega),ab aa,g1 i d aa],by rw[eJ _ _ _ _ (by rw[fl];omega),ad rfl]⟩
 obtain⟨c0,c1⟩:=z_.2 i hi;unfold fz at hx;rw[iU,iU,eW,eW]at hx;rcases hx with(⟨h1,hk,rfl⟩|⟨h1,hk,rfl⟩)|hx
 ·have hc:=pX h1;have:=huq (cs.set i (cs.getD i 0-1)) (n-vs.getD i 0) (z_.set hi aa λh=>by have:=c1 h;omega) (by rw[e1 i _ hi,hv i hi,show cs.getD i 0-1-cs.getD i 0=-1 by omega,ow,lG];omega);refine⟨hk,?_,(show(1:Int)≠0 by decide),.inl ?_⟩
  ·show((1:Int),_,_)=_;rw[this,QT hl hi aa];have ek:jx cs (cs.set i (cs.getD i 0-1)) [i]=1:=by show(if _ then(1:Int)else _)=1;rw[g1 i _ hi,ad aa]
   rw[ek];rfl
  show fO cs (az us (n-vs.getD i 0)) us.length=_;rw[this,QT hl hi aa]
 ·have hc:=(iK hi).1 h1;have:=huq (cs.set i (cs.getD i 0+1)) (n+vs.getD i 0) (z_.set hi aa hc) (by rw[e1 i _ hi,hv i hi,show cs.getD i 0+1-cs.getD i 0=1 by omega,lG]);refine⟨hk,?_,(show(2:Int)≠0 by decide),.inl ?_⟩
  ·show((2:Int),_,_)=_;rw[this,QT hl hi aa];have ek:jx cs (cs.set i (cs.getD i 0+1)) [i]=2:=by show(if _ then(1:Int)else _)=2;rw[g1 i _ hi,ab aa,ad rfl]
   rw[ek];rfl
  show fO cs (az us (n+vs.getD i 0)) us.length=_;rw[this,QT hl hi aa]
 by_cases I2:i+1=us.length
 ·rw[ad I2]at hx;cases hx
 have I3:i+1<us.length:=aa;obtain⟨d0,d1⟩:=z_.2 (i+1) I3;rw[ab I2,iU,eW,eW]at hx;rcases hx with⟨h1,hk,rfl⟩|⟨h1,hk,rfl⟩
 ·rw[aV,aV,jr,bI]at h1;obtain⟨⟨h1,h2⟩,h3⟩:=h1;have:=huq ((cs.set i (cs.getD (i+1) 0)).set (i+1) 0) (n-cs.getD (i+1) 0*vs.getD (i+1) 0+cs.getD (i+1) 0*vs.getD i 0) ((z_.set hi d0 ((iK hi).1 h3)).set I3 aa λh=>by have:=d1 h;omega) (by rw[e2 i _ _ I3,hv i hi,hv (i+1) I3,h1,Int.sub_zero,Int.zero_sub,ow];omega);have ek:jx cs ((cs.set i (cs.getD (i+1) 0)).set (i+1) 0) [i,i+1]=3:=by show(if _ then(if _ then(3:Int)else _)else _)=3;rw[ad rfl,(g2 i _ _ I3).1,(g2 i _ _ I3).2,ad ⟨rfl,aa,h1,rfl⟩]
  refine⟨hk,?_,(show(3:Int)≠0 by decide),.inr ⟨I3,?_⟩⟩
  ·show((3:Int),_,_)=_;rw[this,QU hl I3 aa aa,ek];show _=((3:Int),(if _ then _ else _),_);rw[ek,ad rfl]
  show fO cs (az us (n-cs.getD (i+1) 0*vs.getD (i+1) 0+cs.getD (i+1) 0*vs.getD i 0)) us.length=_;rw[this,QU hl I3 aa aa]
 rw[aV,aV,jr,bI]at h1;obtain⟨⟨h1,h2⟩,h3⟩:=h1;have:=huq ((cs.set i 0).set (i+1) (cs.getD i 0)) (n-cs.getD i 0*vs.getD i 0+cs.getD i 0*vs.getD (i+1) 0) ((z_.set hi (ot 0) λh=>by have:=c1 h;omega).set I3 c0 ((iK I3).1 h3)) (by rw[e2 i _ _ I3,hv i hi,hv (i+1) I3,h1,Int.sub_zero,Int.zero_sub,ow];omega);have ek:jx cs ((cs.set i 0).set (i+1) (cs.getD i 0)) [i,i+1]=4:=by show(if _ then(if _ then(3:Int)else if _ then 4 else _)else _)=4;rw[ad rfl,(g2 i _ _ I3).1,(g2 i _ _ I3).2,ab (λh=>aa),ad ⟨rfl,aa,h1,rfl⟩]
 refine⟨hk,?_,(show(4:Int)≠0 by decide),.inr ⟨I3,?_⟩⟩
 ·show((4:Int),_,_)=_;rw[this,QU hl I3 aa aa,ek];show _=((4:Int),(if _ then _ else _),_);rw[ek,ab aU]
 show fO cs (az us (n-cs.getD i 0*vs.getD i 0+cs.getD i 0*vs.getD (i+1) 0)) us.length=_;rw[this,QU hl I3 aa aa]
def Ez{m:Int}:∀{S:List Sp},iO S m≠0->∃x∈S,x.2.2=m
 |[],h=>absurd rfl h
 |x::S,h=>by
  rw[iO]at h;by_cases he:x.2.2=m
  ·exact⟨x,aT ..,he⟩
  rw[ab he]at h;obtain⟨y,hy,e⟩:=Ez h;exact⟨y,aR _ hy,e⟩
def wL{nm:List UInt8}{us:List Pr}(L0:aP nm us=0){n:Int}(J3:1<=n)(x:Sp):
  x∈gM us (az us n) (eY nm us) n↔okN x.2.2=true/\x=sn us n x.2.2/\x.1≠0:=by
 constructor
 ·intro hx;obtain⟨i,hi,hx⟩:=List.mem_flatMap.1 hx;obtain⟨h1,h2,h3,_⟩:=tn L0 J3 (List.mem_range.1 hi) hx;exact⟨h1,h2,h3⟩
 rintro⟨h1,h2,h3⟩;have m7:=h1;unfold okN at m7;rw[aV,bI,bI]at m7;have hk:=JF L0 J3 m7.1 m7.2;have h4:iO (gM us (az us n) (eY nm us) n) x.2.2≠0:=by rw[hk];have:x.1=(sn us n x.2.2).1:=congrArg Prod.fst h2;rw[this]at h3;exact h3
 obtain⟨y,hy,e⟩:=Ez h4;obtain⟨i,hi,hy'⟩:=List.mem_flatMap.1 hy;obtain⟨_,h5,_,_⟩:=tn L0 J3 (List.mem_range.1 hi) hy';rw[e]at h5;rw[h2,<-h5];exact hy
def GY(b:Bool)(x:Sp):List.Pairwise (λx y:Sp=>x.1≠y.1) (one b x):=by
 unfold one;split
 ·exact List.pairwise_singleton _ _
 exact List.Pairwise.nil
def EP{b:Bool}{x y:Sp}(h:y∈one b x):y.1=x.1:=by rw[(eW.1 h).2.2]
def Nl(us:List Pr)(cs vs:List Int)(n:Int)(i:Nat):List.Pairwise (λx y:Sp=>x.1≠y.1) (fz us cs vs n i):=by
 unfold fz;rw[HW,HW];refine⟨⟨GY _ _,GY _ _,λx hx y hy=>by rw[EP hx,EP hy];show(1:Int)≠2;decide⟩,?_,?_⟩
 ·split
  ·exact List.Pairwise.nil
  rw[HW];exact⟨GY _ _,GY _ _,λx hx y hy=>by rw[EP hx,EP hy];show(3:Int)≠4;decide⟩
 intro x hx y hy;split at hy
 ·cases hy
 rcases List.mem_append.1 hx with hx|hx<;>rcases List.mem_append.1 hy with hy|hy<;>(rw[EP hx,EP hy];first|(show(1:Int)≠3;decide)|(show(1:Int)≠4;decide)|(show(2:Int)≠3;decide)|(show(2:Int)≠4;decide))
def WS{nm:List UInt8}{us:List Pr}(L0:aP nm us=0){n:Int}(J3:1<=n):List.Pairwise (λx y:Sp=>x.2.2≠y.2.2) (gM us (az us n) (eY nm us) n):=by
 unfold gM;rw[List.pairwise_flatMap];refine⟨λi hi=>?_,tD (λ{i j}hi hj hij=>?_) List.pairwise_lt_range⟩
 ·refine tD (λ{x y}hx hy hxy he=>hxy ?_) (Nl us _ _ n i);obtain⟨_,h2,_,_⟩:=tn L0 J3 (List.mem_range.1 hi) hx;obtain⟨_,h3,_,_⟩:=tn L0 J3 (List.mem_range.1 hi) hy;rw[h2,h3,he]
 intro x hx y hy he;obtain⟨_,_,_,h2⟩:=tn L0 J3 (List.mem_range.1 hi) hx;obtain⟨_,_,_,h3⟩:=tn L0 J3 (List.mem_range.1 hj) hy;rw[he]at h2;rcases h2 with h2|⟨_,h2⟩<;>rcases h3 with h3|⟨_,h3⟩<;>rw[h2]at h3
 ·have:=(lH h3).1;omega
 ·have:=congrArg List.length h3;simp at this
 ·have:=congrArg List.length h3;simp at this
 have:=(lH h3).1;omega
def abr(cs ds:List Int)(a:Nat):jx cs ds [a]=if cs.getD a 0=ds.getD a 0+1 then 1 else if cs.getD a 0+1=ds.getD a 0 then 2 else 0:=rfl
def abt(cs ds:List Int)(a b:Nat):jx cs ds [a,b]=if b=a+1 then(if ds.getD b 0=0/\1<=ds.getD a 0/\cs.getD a 0=0/\cs.getD b 0=ds.getD a 0 then 3 else if ds.getD a 0=0/\1<=ds.getD b 0/\cs.getD b 0=0/\cs.getD a 0=ds.getD b 0 then 4 else 0)else 0:=rfl
def KX(nm:List UInt8)(us:List Pr)(m n:Int):List UInt8:=WR us (cy nm us n).1 (cy nm us m).1 (fO (cy nm us n).1 (cy nm us m).1 (cy nm us n).1.length)
def Ch(H:Hp)(nm:List UInt8)(u:AC)(us:List Pr)(m n:Int)(hu:SlP H u us):
  Con E2 131 [.agg [.o (.str nm),u],.one (.i .i64 m),.one (.i .i64 n)] H (λ_=>False) λr _=>∃sg x,r=.agg [.i .i64 (iQ nm us m n),.o (.str sg),.i .i64 x]/\(iQ nm us m n≠0->sg=KX nm us m n/\x=m):=by
 refine Con.lT (λH=>SlP H u us) hu λH hu=>?_;refine C1.yV 202 [.cell 6 63] Tryz.func131 λtm h0 h1 h2=>?_;generalize C0:iQ nm us m n=r0;generalize J5:KX nm us m n=g0;unfold KX at J5;replace J5:=ay J5;refine zG tyF λK hK=>?_;apply hK.out;refine zG tyF λK hK=>?_;apply hK.out;refine R1.gen (λA1 H1=>Gr H H1/\H.nx+2<H1.nx/\H1.get H.nx=some (.arr [.o (.str nm),u] 51 0 0)/\H1.get (H.nx+1)=some (.arr [.i .i64 0,.o (.str []),.i .i64 0] 63 0 0)/\H1.get (H.nx+1+1)=some (.arr [.i .i64 0,.o (.str []),.i .i64 0] 63 0 0)/\dm A1 m (ju A1 n (jN A1 H.nx (nu A1 6 7 (.o (.ptr (H.nx+1) 0 0 3)) (.o (.ptr (H.nx+1+1) 0 0 3)) 202 []))))
  ⟨((((Fr.refl _).new _).new _).new _).mod _ (.inl aa),by show H.nx+2<H.nx+1+1+1;omega,by rw[aB aa,bw (by show H.nx<H.nx+1+1;omega),bw (by show H.nx<H.nx+1;omega)];exact aC rfl,by rw[aB aa,bw (by show H.nx+1<H.nx+1+1;omega)];exact aC rfl,aq rfl,zL⟩ ?_
 clear h0 h1 h2 tm hK K;rintro A1 H1 ⟨g1,n1,r1,r2,r3,t1,t2,t3,t6,t7,z0,A0⟩;obtain⟨N,hN⟩:=dI H.nx;rw[<-hN]at n1 r1 r2 r3 t3 t6 t7;have hNH:H.nx<=N:=aa;clear hN;have n2:N+1<H1.nx:=aa;have n0:N<H1.nx:=aa;have n3:N+1+1<H1.nx:=n1;clear n1;have fin:∀(k:Int)(sg:List UInt8)(x:Int)(A:ag)(H2:Hp),slot A.tm 6=.one (.o (.ptr (N+1) 0 0 3))->A.dfr=[]->Gr H H2->H2.get (N+1)=some (.arr [.i .i64 k,.o (.str sg),.i .i64 x] 63 0 0)->k=r0->(r0≠0->sg=g0/\x=m) ->
   ∃w H4,aK E2 [.cell 6 63] (.ret,A,H2)=.ok [(w,H4)]/\Gr H H4/\∀_:List Nat,∃sg x,w=.agg [.i .i64 r0,.o (.str sg),.i .i64 x]/\(r0≠0->sg=g0/\x=m):=λk sg x A H2 hs hd hg hr he hsx=>
  ⟨_,_,kC (id:=N+1) (g:=0) GM (.inr rfl) (by rw[hd];rfl) hs (by rw[hr];exact cH (ai _) (ai _)) (ai _) rfl,hg,λ_=>⟨sg,x,by rw[he],hsx⟩⟩
 have bad:∀(A:ag),slot A.tm 6=.one (.o (.ptr (N+1) 0 0 3))->A.dfr=[]->¬((1<=m/\1<=n)/\(m<=1099511627776/\n<=1099511627776))->∃w H4,aK E2 [.cell 6 63] (.ret,A,H1.mod (N+1) (.arr [.i .i64 0,.o (.str []),.i .i64 0] 63 0 0))=.ok [(w,H4)]/\Gr H H4/\∀_:List Nat,∃sg x,w=.agg [.i .i64 r0,.o (.str sg),.i .i64 x]/\(r0≠0->sg=g0/\x=m):=λA h1 h2 h3=>fin 0 [] 0 A _ h1 h2 (g1.mod _ (.inl aa)) (aq rfl) (by rw[<-C0];unfold iQ;rw[ab h3]) (λh=>absurd (by rw[<-C0];unfold iQ;rw[ab h3]) h)
 by_cases q1:m<1
 ·replace C0:=ay C0;refine zW tyF ?_;exact bad _ zL qe (λh=>aa)
 by_cases q2:n<1
 ·replace C0:=ay C0;refine zW tyF ?_;exact bad _ zL qe (λh=>aa)
 by_cases q3:1099511627776<m
 ·replace C0:=ay C0;refine zW tyF ?_;exact bad _ zL qe (λh=>aa)
 by_cases q4:1099511627776<n
 ·replace C0:=ay C0;refine zW tyF ?_;exact bad _ zL qe (λh=>aa)
 clear bad;unfold iQ at C0;rw[ad ⟨⟨aa,aa⟩,aa,aa⟩]at C0;obtain⟨lc,bc⟩:=yU nm us n;obtain⟨ld,bd⟩:=yU nm us m;have hsE:aP nm us=0->∀k,1<=k->k<=1099511627776->cy nm us k=(az us k,0):=λL0 k h1 h2=>by unfold cy;rw[ab (λh=>h L0),ad ⟨aa,h2⟩]
 have hlen:(cy nm us n).1.length=(cy nm us m).1.length/\((cy nm us n).1.length=0\/(cy nm us n).1.length=us.length)/\us.length<=1000000\/(cy nm us n).1=[]:=by
  by_cases L0:aP nm us=0
  ·rw[hsE L0 n aa aa,hsE L0 m aa aa];exact .inl ⟨by rw[eC,eC],.inr (eC us n),by have:=(eR L0).1;omega⟩
  exact .inr (by unfold cy;rw[ad L0])
 clear hsE;have hu:=hu.gr g1;replace C0:=ay C0;replace hlen:=ay hlen;replace bc:=ay bc;replace bd:=ay bd;replace lc:=ay lc;replace ld:=ay ld;refine zW tyF ?_;repeat refine R1.aJ ?_
 refine zG (qA tyF Dy) λK hK=>?_;refine WE.con (uH H1 nm u us n hu) λw H2 g2⟨c,hq,hc⟩=>?_;subst hq;obtain⟨r1,n0⟩:=bD g2 n0 r1;obtain⟨r2,n2⟩:=bD g2 n2 r2;obtain⟨r3,n3⟩:=bD g2 n3 r3;have hu:=hu.gr g2;refine zK tyF ?_;refine zG (qA tyF Dy) λK hK=>?_;refine WE.con (uH H2 nm u us m hu) λw H3 g3⟨d,hq,hd⟩=>?_;subst hq;obtain⟨r1,n0⟩:=bD g3 n0 r1;obtain⟨r2,n2⟩:=bD g3 n2 r2;obtain⟨r3,n3⟩:=bD g3 n3 r3;have hu:=hu.gr g3;have hc:=hc.gr g3;have g3:=(g1.gr g2).gr g3;clear g1 g2;generalize(cy nm us n).1=cs at hc C0 J5 hlen bc lc
 generalize(cy nm us m).1=ds at hd C0 J5 hlen bd ld
 have P6:cs.length=0\/(cs.length=ds.length/\cs.length=us.length/\us.length<=1000000):=by
  rcases hlen.out with⟨h1,h2,h3⟩|h
  ·rcases h2 with h2|h2
   ·exact .inl h2
   exact .inr ⟨h1,h2,h3⟩
  exact .inl (by rw[h];rfl)
 have hl3:cs.length<=1000000:=aa;replace P6:=ay P6;clear hlen lc ld;obtain⟨zi,hzi,T7⟩:=sH;have l1:=hc.len;have l2:=hc.lt;refine zK tyF ?_;refine R1.dL λK k1 k2 k3 k4=>?_;refine R1.loop (λz A H4=>∃(i:Nat)(v:AC)(r:Option Nat),z=cs.length-i/\i<=cs.length/\Gr H3 H4/\dA H4 v 3 1 (ints (fO cs ds i)).length ((ints (fO cs ds i)).flatMap CZ) r/\(∀q,r=some q->H3.nx<=q)/\dm A m (jN A N (XI A.tm 6 7 8 10 12 (.o (.ptr (N+1) 0 0 3)) (.o (.ptr (N+1+1) 0 0 3)) (c) (d) (v) (oy A i (A.nt=202/\A.dfr=[]))))) ?_ cs.length
  ⟨0,.o .nilS,none,rfl,Nat.zero_le _,Fr.refl _,.inl ⟨rfl,rfl,rfl,rfl⟩,λq hq=>(by cases hq),zL⟩
 clear t1 t2 t3 t6 t7 z0 A0 A1 l1 l2 k3;rintro z A H4 ⟨i,v,r,rfl,hi,g4,D6,G0,t1,t3,t6,t7,t8,t10,t12,t13,z0,A0⟩;have Y9:=hc.gr g4;have l1:=Y9.len;have l2:=Y9.lt;refine zW tyF ?_;refine zI tyF (λhx=>?_) (λhx=>?_)
 ·have B0:i<cs.length:=aa;have R2:i<ds.length:=by have:=P6.out;omega
  have X1:=bB i;have hdl:(fO cs ds i).length<=i:=Gl cs ds i;have U3:(ints (fO cs ds i)).length=(fO cs ds i).length:=cP _;have hsu:=IT cs ds i;obtain⟨idc,gc,oc,cc,rfl,hidc,hgc,K8⟩:=Y9.open aa;obtain⟨idd,gd,od,cd,rfl,hidd,hgd,e_⟩:=(hd.gr g4).open aa;have ec:cs[i]?=some (cs.getD i 0):=by rw[bt,aA B0];rfl
  have ed:ds[i]?=some (ds.getD i 0):=by rw[bt,aA R2];rfl
  obtain⟨e1,e2⟩:=K8 i _ ec;obtain⟨e3,e4⟩:=e_ i _ ed;clear K8 e_ ec ed l1 l2;replace hsu:=ay hsu;replace U3:=ay U3;replace Y9:=ay Y9;by_cases hq:cs.getD i 0=ds.getD i 0
  ·have hse:fO cs ds (i+1)=fO cs ds i:=by rw[hsu.out,ad hq,List.append_nil]
   replace hse:=ay hse;rw[<-hq]at e3;replace hq:=ay hq;have ce:(cs.getD i 0==cs.getD i 0)=true:=dk _;refine zW tyF ?_;refine R1.dL λK2 q1 q2 q3 q4=>?_;refine zW (zDd tyF (ixC B0) (ixC R2)) ?_;apply q1.out;refine zW tyF ?_;exact⟨cs.length-(i+1),aa,i+1,v,r,rfl,B0,g4,by rw[hse.out];exact D6,G0,zL⟩
  have hse:fO cs ds (i+1)=fO cs ds i++[i]:=by rw[hsu.out,ab hq]
  replace hse:=ay hse;have ce:(cs.getD i 0==ds.getD i 0)=false:=aF hq;replace hq:=ay hq;refine zW tyF ?_;refine R1.dL λK2 q1 q2 q3 q4=>?_;refine zW (zDd tyF (ixC B0) (ixC R2)) ?_;obtain⟨V7,v6,H6,r6,B1,ho6,X6,hr6⟩:=gA dp mB hzi T7 aU D6 [.i .i64 ((i:Int))] rfl (by have:=U3.out;omega);clear hzi T7;refine zG (zDd tyF (jU) B1) λK hK=>?_;refine⟨V7,?_⟩;refine zK tyF ?_;apply q1.out;refine zW tyF ?_;refine⟨cs.length-(i+1),aa,i+1,v6,some r6,rfl,B0,g4.then X6 λq hq=>.inl (G0 q hq),?_,λq hq=>?_,zL⟩
  ·have e:ints (fO cs ds (i+1))=ints (fO cs ds i)++[(i:Int)]:=by rw[hse.out];unfold ints;rw[List.map_append];rfl
   rw[e,aI,iX];exact ho6
  cases hq
  rcases hr6 with e|e
  ·exact G0 _ e
  exact aS g4.nx e
 have U0:i=cs.length:=aa;subst U0;refine zW tyF ?_;apply k2.out;have hD:SlI H4 v (ints (fO cs ds cs.length)):=D6.slc;have hmd:=λj=>(@Pn cs ds cs.length j).1;have hdl:=Gl cs ds cs.length;have P6:=P6.out;have g14:=g3.gr g4;obtain⟨r1,n0⟩:=bD g4 n0 r1;obtain⟨r2,n2⟩:=bD g4 n2 r2;obtain⟨r3,n3⟩:=bD g4 n3 r3;have hu:=hu.gr g4;have hd:=hd.gr g4;clear D6 G0 t13 hi g3 g4 hzi T7 l1 l2 hx;generalize fO cs ds cs.length=D at hD hmd hdl C0 J5;have hmd:∀j∈D,j<cs.length/\j<ds.length/\j<us.length/\us.length<=1000000:=λj hj=>by have:=(hmd j hj).1;omega
 have l2:=hD.lt;have zero:∀(A:ag),slot A.tm 6=.one (.o (.ptr (N+1) 0 0 3))->A.dfr=[]->0=r0->∃w H5,aK E2 [.cell 6 63] (.ret,A,H4.mod (N+1) (.arr [.i .i64 0,.o (.str []),.i .i64 0] 63 0 0))=.ok [(w,H5)]/\Gr H H5/\∀_:List Nat,∃sg x,w=.agg [.i .i64 r0,.o (.str sg),.i .i64 x]/\(r0≠0->sg=g0/\x=m):=λA h1 h2 h3=>fin 0 [] 0 A _ h1 h2 (g14.mod _ (.inl aa)) (aq rfl) h3 (λh=>absurd h3.symm h)
 have some':∀(A:ag)(k:Int)(sg:List UInt8),slot A.tm 6=.one (.o (.ptr (N+1) 0 0 3))->A.dfr=[]->k=r0->sg=g0->∃w H5,aK E2 [.cell 6 63] (.ret,A,H4.mod (N+1) (.arr [.i .i64 k,.o (.str sg),.i .i64 m] 63 0 0))=.ok [(w,H5)]/\Gr H H5/\∀_:List Nat,∃sg x,w=.agg [.i .i64 r0,.o (.str sg),.i .i64 x]/\(r0≠0->sg=g0/\x=m):=λA k sg h1 h2 h3 h4=>fin k sg m A _ h1 h2 (g14.mod _ (.inl aa)) (aq rfl) h3 (λ_=>⟨h4,rfl⟩)
 replace zero:=ay zero;replace some':=ay some';clear fin;replace P6:=ay P6;replace g14:=ay g14;rcases D with _|⟨a,_|⟨b,_|⟨e,D⟩⟩⟩
 ·have l1:eD H4 1 (.one v)=.val (.one (.i .i64 0)) H4:=hD.len;refine zW tyF ?_;exact zero.out _ zL qe C0.out
 ·obtain⟨ha,R8,ha3,hL⟩:=hmd a (aT ..);obtain⟨id,g,off,cells,hv,hid,W0,J0⟩:=hD.open (uN 0);replace hv:v=.o (.sl id g off 1 1):=hv;have c11:(((1:Nat):Int)==1)=true:=rfl;have c12:(((1:Nat):Int)==2)=false:=rfl;subst hv;obtain⟨e1,e2⟩:=J0 0 a rfl;rw[Nat.zero_mul,Nat.add_zero]at e1 e2;clear J0 hD l2;obtain⟨idc,gc,oc,cc,rfl,hidc,hgc,K8⟩:=Y9.open aa;obtain⟨idd,gd,od,cd,rfl,hidd,hgd,e_⟩:=hd.open aa;obtain⟨x1,x2⟩:=K8 a (cs.getD a 0) (by rw[bt,aA ha];rfl);obtain⟨x3,x4⟩:=e_ a (ds.getD a 0) (by rw[bt,aA R8];rfl);clear K8 e_ Y9 hd hc;have k1:=bc.out a ha;have k2:=bd.out a R8;obtain⟨idu,gu,ou,cu,rfl,hidu,hgu,hatu⟩:=hu.open aa;have hy:=hatu a us[a] (aA ha3);have y1:=hy.fst;have y2:=hy.le1;clear hatu hy;have O2:(if cs.getD a 0=ds.getD a 0+1 then(1:Int)else if cs.getD a 0+1=ds.getD a 0 then 2 else 0)=r0:=C0.out;have hsg:us[a].1=g0:=by rw[<-J5.out];show _=(us.getD a ([],0)).1;rw[bt,aA ha3];rfl
  clear J5;generalize us[a]=y at y1 hsg;replace hsg:=ay hsg;generalize cs.getD a 0=ca at x1 k1 O2;generalize ds.getD a 0=da at x3 k2 O2;have w1:=cB (ca+1);have w2:=cB (da+1);by_cases c1:ca=da+1
  ·rw[ad c1]at O2;replace O2:=ay O2;have ce:=beq_iff_eq.2 c1;replace c1:=ay c1;refine zW (zDe tyF (ixC ha) (ixC R8) (ixC ha3)) ?_;exact some'.out _ _ _ zL qe O2.out hsg.out
  rw[ab c1]at O2;have ce:(ca==da+1)=false:=aF c1;replace c1:=ay c1;by_cases c2:ca+1=da
  ·rw[ad c2]at O2;replace O2:=ay O2;have ce2:=beq_iff_eq.2 c2;replace c2:=ay c2;refine zW (zDe tyF (ixC ha) (ixC R8) (ixC ha3)) ?_;exact some'.out _ _ _ zL qe O2.out hsg.out
  rw[ab c2]at O2;have ce2:(ca+1==da)=false:=aF c2;replace c2:=ay c2;replace O2:=ay O2;refine zW (zDe tyF (ixC ha) (ixC R8) (ixC ha3)) ?_;exact zero.out _ zL qe O2.out
 ·obtain⟨ha,R8,ha3,hL⟩:=hmd a (aT ..);obtain⟨hb,Z6,Y',_⟩:=hmd b (aR _ (aT ..));obtain⟨id,g,off,cells,hv,hid,W0,J0⟩:=hD.open (uN 1);replace hv:v=.o (.sl id g off 2 1):=hv;have c21:(((2:Nat):Int)==1)=false:=rfl;have c22:(((2:Nat):Int)==2)=true:=rfl;subst hv;obtain⟨e1,e2⟩:=J0 0 a rfl;rw[Nat.zero_mul,Nat.add_zero]at e1 e2;obtain⟨e3,e4⟩:=J0 1 b rfl;rw[Nat.one_mul]at e3 e4;clear J0 hD l2;have ix1:∀(H:Hp)(id g off sz:Nat),dz H sz (.one (.o (.sl id g off 2 sz))) (.one (.i .i64 1))=.val (.one (.o (.ptr id g (off+1*sz) sz))) H:=λ_ _ _ _ _=>ic (i:=1) aU;have wab:=cB ((a:Int)+1);by_cases hba:b=a+1
  case neg=>have ce:((b:Int)==(a:Int)+1)=false:=aF aa;have O2:=C0.out;rw[jx,ab hba]at O2;replace O2:=ay O2;replace hba:=ay hba;clear C0;refine zW (qA tyF ix1) ?_;exact zero.out _ zL qe O2.out
  have ce:((b:Int)==(a:Int)+1)=true:=beq_iff_eq.2 aa;have U':(if r0=3 then us[a].1 else us[b].1)=g0:=by rw[<-J5.out];show _=(if jx cs ds [a,b]=3 then(us.getD a ([],0)).1 else(us.getD b ([],0)).1);rw[C0.out,bt,bt,aA ha3,aA Y'];rfl
  clear J5;have O2:=C0.out;rw[jx,ad hba]at O2;replace hba:=ay hba;clear C0;obtain⟨idc,gc,oc,cc,rfl,hidc,hgc,K8⟩:=Y9.open aa;obtain⟨idd,gd,od,cd,rfl,hidd,hgd,e_⟩:=hd.open aa;obtain⟨x1,x2⟩:=K8 a (cs.getD a 0) (by rw[bt,aA ha];rfl);obtain⟨x3,x4⟩:=e_ a (ds.getD a 0) (by rw[bt,aA R8];rfl);obtain⟨x5,x6⟩:=K8 b (cs.getD b 0) (by rw[bt,aA hb];rfl);obtain⟨x7,x8⟩:=e_ b (ds.getD b 0) (by rw[bt,aA Z6];rfl);clear K8 e_ Y9 hd hc;obtain⟨idu,gu,ou,cu,rfl,hidu,hgu,hatu⟩:=hu.open aa;have hy:=hatu a us[a] (aA ha3);have y1:=hy.fst;have y2:=hy.le1;have hz:=hatu b us[b] (aA Y');have y3:=hz.fst;have y4:=hz.le1;clear hatu hy hz;generalize us[a]=y at y1 U';generalize us[b]=yb at y3 U';replace U':=ay U';generalize cs.getD a 0=ca at x1 O2;generalize ds.getD a 0=da at x3 O2;generalize cs.getD b 0=cb at x5 O2;generalize ds.getD b 0=db at x7 O2;replace O2:=ay O2;refine zW (zDf tyF ix1 (ixC ha) (ixC R8) (ixC ha3)) ?_;repeat refine R1.aJ ?_
  refine R1.s_h ae λK3 F8=>?_;have key:Hd (∀(bb:Bool)(A:ag),(bb=true↔db=0/\1<=da/\ca=0/\cb=da)->slot A.tm 154=.one (.b bb)/\dm A m (jN A N (XJ A 6 7 8 10 15 16 (.o (.ptr (N+1) 0 0 3)) (.o (.ptr (N+1+1) 0 0 3)) (.o (.sl idc gc oc cs.length 1)) (.o (.sl idd gd od ds.length 1)) (.i .i64 (a:Int)) (.i .i64 (b:Int)) 202 []))->K3 A H4):=by
   clear t1 t3 t6 t7 t8 t10 t12 z0 A0 A;rintro bb A hbb ⟨t154,t1,t3,t6,t7,t8,t10,t15,t16,z0,A0⟩;apply F8.out;cases bb with
   |true=>have O4:=O2.out;rw[ad (hbb.1 rfl)]at O4;replace O4:=ay O4;clear hbb x1 x3 x5 x7;refine zW (zDd tyF (ixC ha3) (ixC Y')) ?_;exact some'.out _ _ _ zL qe O4.out (by rw[<-U'.out,ad O4.out.symm])
   |false=>
    have O4:=O2.out;rw[ab (λh=>by have:=hbb.2 h;cases this)]at O4;replace O4:=ay O4;clear hbb;refine qX t154 ?_;refine R1.bT ?_;repeat refine R1.aJ ?_
    refine R1.s_h ae λK3 F8=>?_;have key:Hd (∀(bb:Bool)(A:ag),(bb=true↔da=0/\1<=db/\cb=0/\ca=db)->slot A.tm 192=.one (.b bb)/\dm A m (jN A N (xe A 6 7 15 16 (.o (.ptr (N+1) 0 0 3)) (.o (.ptr (N+1+1) 0 0 3)) (.i .i64 (a:Int)) (.i .i64 (b:Int)) 202 []))->K3 A H4):=by
     clear t1 t3 t6 t7 t8 t10 t15 t16 t154 z0 A0 A;rintro bb A hbb ⟨t192,t1,t3,t6,t7,t15,t16,z0,A0⟩;apply F8.out;have hr3:=O4.out;cases bb with
     |true=>rw[ad (hbb.1 rfl)]at hr3;replace hr3:=ay hr3;clear hbb x1 x3 x5 x7;refine zW (zDd tyF (ixC ha3) (ixC Y')) ?_;exact some'.out _ _ _ zL qe hr3.out (by rw[<-U'.out,ab (λh=>absurd (hr3.out.trans h) aU)])
     |false=>rw[ab (λh=>by have:=hbb.2 h;cases this)]at hr3;replace hr3:=ay hr3;clear hbb x1 x3 x5 x7;refine zW tyF ?_;exact zero.out _ zL qe hr3.out
    clear F8;clear y1 y2 y3 y4;by_cases s1:da=0
    case neg=>have fs1:(da==0)=false:=aF s1;replace s1:=ay s1;refine zS (zDf tyF (ixC ha) (ixC R8) (ixC hb) (ixC Z6)) ?_;exact key.out false _ ⟨λh=>(by cases h),λh=>absurd h.1 s1.out⟩ zL
    have fs1:=beq_iff_eq.2 s1;replace s1:=ay s1;by_cases s2:1<=db
    case neg=>refine zS (zDf tyF (ixC ha) (ixC R8) (ixC hb) (ixC Z6)) ?_;exact key.out false _ ⟨λh=>(by cases h),λh=>absurd h.2.1 s2⟩ zL
    by_cases s3:cb=0
    case neg=>have fs3:(cb==0)=false:=aF s3;replace s3:=ay s3;refine zS (zDf tyF (ixC ha) (ixC R8) (ixC hb) (ixC Z6)) ?_;exact key.out false _ ⟨λh=>(by cases h),λh=>absurd h.2.2.1 s3.out⟩ zL
    have fs3:=beq_iff_eq.2 s3;replace s3:=ay s3;by_cases s4:ca=db
    case neg=>have fs4:(ca==db)=false:=aF s4;replace s4:=ay s4;refine zS (zDf tyF (ixC ha) (ixC R8) (ixC hb) (ixC Z6)) ?_;exact key.out false _ ⟨λh=>(by cases h),λh=>absurd h.2.2.2 s4.out⟩ zL
    have fs4:=beq_iff_eq.2 s4;replace s4:=ay s4;refine zS (zDf tyF (ixC ha) (ixC R8) (ixC hb) (ixC Z6)) ?_;exact key.out true _ ⟨λ_=>⟨s1.out,s2,s3.out,s4.out⟩,λ_=>rfl⟩ zL
  clear F8;clear y1 y2 y3 y4;by_cases p1:db=0
  case neg=>have fp1:(db==0)=false:=aF p1;replace p1:=ay p1;refine zS (zDf tyF (ixC ha) (ixC R8) (ixC hb) (ixC Z6)) ?_;exact key.out false _ ⟨λh=>(by cases h),λh=>absurd h.1 p1.out⟩ zL
  have fp1:=beq_iff_eq.2 p1;replace p1:=ay p1;by_cases p2:1<=da
  case neg=>refine zS (zDf tyF (ixC ha) (ixC R8) (ixC hb) (ixC Z6)) ?_;exact key.out false _ ⟨λh=>(by cases h),λh=>absurd h.2.1 p2⟩ zL
  by_cases p3:ca=0
  case neg=>have fp3:(ca==0)=false:=aF p3;replace p3:=ay p3;refine zS (zDf tyF (ixC ha) (ixC R8) (ixC hb) (ixC Z6)) ?_;exact key.out false _ ⟨λh=>(by cases h),λh=>absurd h.2.2.1 p3.out⟩ zL
  have fp3:=beq_iff_eq.2 p3;replace p3:=ay p3;by_cases p4:cb=da
  case neg=>have fp4:(cb==da)=false:=aF p4;replace p4:=ay p4;refine zS (zDf tyF (ixC ha) (ixC R8) (ixC hb) (ixC Z6)) ?_;exact key.out false _ ⟨λh=>(by cases h),λh=>absurd h.2.2.2 p4.out⟩ zL
  have fp4:=beq_iff_eq.2 p4;replace p4:=ay p4;refine zS (zDf tyF (ixC ha) (ixC R8) (ixC hb) (ixC Z6)) ?_;exact key.out true _ ⟨λ_=>⟨p1.out,p2,p3.out,p4.out⟩,λ_=>rfl⟩ zL
 have k1:(((D.length+1+1+1:Nat):Int)==1)=false:=aF aa;have k2:(((D.length+1+1+1:Nat):Int)==2)=false:=aF aa;have l1:eD H4 1 (.one v)=.val (.one (.i .i64 ((D.length+1+1+1:Nat):Int))) H4:=by have h:=hD.len;have e:(ints (a::b::e::D)).length=D.length+1+1+1:=cP _;rw[e]at h;exact h
 generalize((D.length+1+1+1:Nat):Int)=z at k1 k2 l1
 clear hmd hdl;refine zW tyF ?_;exact zero.out _ zL qe C0.out
def RX(H:Hp)(nm:List UInt8)(u:AC)(us:List Pr)(m n:Int)(hu:SlP H u us):
  Con E2 131 [.agg [.o (.str nm),u],.one (.i .i64 m),.one (.i .i64 n)] H (λ_=>False) λr _=>∃sg x,r=.agg [.i .i64 (iQ nm us m n),.o (.str sg),.i .i64 x]:=
 (Ch H nm u us m n hu).mono (λ_ h=>h) λ_ _⟨sg,x,h,_⟩=>⟨sg,x,h⟩
def Ty:ao prog 76=true:=ae
def jI(k:Int):Int:=if k=5 then 2 else 1
def MX(H:Hp)(k:Int):Con E2 166 [.one (.i .i64 k)] H (λ_=>False) λr _=>r=.one (.i .i64 (jI k)):=by
 refine Con.xw λH=>?_;refine C1.jR 5 [.tmp 2] Tryz.func166 λtm h0=>?_;unfold jI;by_cases c:k=5
 ·have ce:=beq_iff_eq.2 c;rw[ad c];replace c:=ay c;refine zW tyF ?_;exact⟨_,_,aw (.i .i64 2) (.inr rfl) qe qp,Fr.refl _,λ_=>rfl⟩
 have ce:(k==5)=false:=aF c;rw[ab c];replace c:=ay c;refine zW tyF ?_;exact⟨_,_,aw (.i .i64 1) (.inr rfl) qe qp,Fr.refl _,λ_=>rfl⟩
def WV{H H':Hp}{u:AC}{us:List Pr}{q:Nat}{t:TypeId}{a b:AC}(h:SlP H u us)(hq:H.get q=some (.arr [.o (.str []),.o .nilS] t 0 0))(hf:Fr (λk=>k=q) H H')(M':H'.get q=some (.arr [a,b] t 0 0)):SlP H' u us:=by
 obtain⟨h1,h2⟩:=h;refine⟨h1,?_⟩;rcases h2 with h2|⟨id,g,off,e,hid,cells,hr,hl,hc⟩
 ·exact .inl h2
 refine .inr ⟨id,g,off,e,ax hid hf.nx,?_⟩;by_cases heq:id=q
 ·subst heq;rw[hq]at hr;have hg:cells=[.o (.str []),.o .nilS]/\g=0:=by
   by_cases hgg:0<=g/\g<=0
   ·rw[cH hgg.1 hgg.2]at hr;exact⟨(eh hr).symm,aa⟩
   have e:rowOf (some (.arr [.o (.str []),.o .nilS] t 0 0)) g=none:=ab hgg;rw[e]at hr;cases hr
  obtain⟨rfl,rfl⟩:=hg;cases us with
  |nil=>exact⟨[a,b],by rw[M'];exact cH (ai _) (ai _),hl,by rw[List.length_nil,Nat.zero_mul,List.take_zero];rfl⟩
  |cons x l=>
   exfalso;simp only[List.length_cons,List.length_nil]at hl;have ho:off=0:=aa;have hll:l=[]:=List.eq_nil_of_length_eq_zero aa;subst ho;subst hll;have:([AC.o (.str []),.o .nilS]:List AC)=prC x:=by
    have e:([x].flatMap prC)=prC x:=by rw[List.flatMap_cons,List.flatMap_nil,List.append_nil]
    rw[e]at hc;exact hc
   exact absurd (lH (lH this).2).1 (by intro h;cases h)
 exact⟨cells,by rw[hf.get _ hid heq];exact hr,hl,hc⟩
def Fj(H:Hp)(k a b:AC)(ls:List Lad)(lc:List Cl)(x:Int)(y:Cl)(hk:RBk H k ls)(l8:∀x∈ls,x.2.length<=1000000)(q_:ls.length<=1000000)(ha:dD H a lc)(hb:ltV (.one b) H.nx)(L4:0<=x)(O0:x<lc.length)(hy:lc[x.toNat]?=some y):
  Con E2 76 [.one k,.agg [a,b],.one (.i .i64 x)] H (λ_=>False) λr H'=>∃u,r=.agg [.o (.str (bX (some ls) y.2.2.1).1),u]/\SlP H' u (bX (some ls) y.2.2.1).2:=by
 refine Con.ace (λH=>RBk H k ls) hk (λH=>dD H a lc) ha (λH=>ltV (.one b) H.nx) hb λH hk ha hb=>?_;refine C1.yV 21 [.cell 6 51] Tryz.func76 λtm h0 h1 h2=>?_;refine zG tyF λK hK=>?_;apply hK.out;refine R1.gen (λA1 H1=>Gr H H1/\H.nx+1<H1.nx/\H1.get H.nx=some (.arr [a,b] 26 0 0)/\H1.get (H.nx+1)=some (.arr [.o (.str []),.o .nilS] 51 0 0)/\slot A1.tm 0=.one (k)/\ju A1 x (slot A1.tm 4=.one (.o (.ptr H.nx 0 0 2))/\fM A1 (H.nx+1) (A1.nt=21/\A1.dfr=[])))
  ⟨((Fr.refl _).new _).new _,by show H.nx+1<H.nx+1+1;omega,by rw[bw (by show H.nx<H.nx+1;omega)];exact aC rfl,aC rfl,zL⟩ ?_
 clear h0 h1 h2 tm hK K;rintro A1 H1 ⟨g1,n1,r1,r2,t0,t2,t4,t6,z0,A0⟩;have n0:H.nx<H1.nx:=aa;obtain⟨N,hN⟩:=dI H.nx;rw[<-hN]at n0 n1 r1 r2 t4 t6;have hNH:H.nx<=N:=aa;clear hN;have hk:=hk.gr g1;have ha:=ha.gr g1;obtain⟨id,g,off,cells,rfl,hid,W0,J0⟩:=ha.open aa;obtain⟨p,q,hx⟩:=J0 x.toNat y hy;have y1:=hx.f3;have y2:=hx.le3;clear J0 hx hy;refine zG (zDd tyF (ixI L4 O0) AJ) λK hK=>?_;refine WE.con (yM H1 k ls y.2.2.1 hk l8 q_) λw H2 g2⟨c,hw,R7,S1⟩=>?_;subst hw;obtain⟨r2,n1⟩:=bD g2 n1 r2;obtain⟨u,rfl,hu⟩:=R7.of;clear S1;refine zK tyF ?_;have fin:∀(A:ag)(o:aX)(H3:Hp),H3=((H2.new o).mod H2.nx (.arr [.o (.str (bX (some ls) y.2.2.1).1),u] 51 0 0)).mod (N+1) (.arr [.o (.str (bX (some ls) y.2.2.1).1),u] 51 0 0)->slot A.tm 6=.one (.o (.ptr (N+1) 0 0 2))->A.dfr=[]->∃w H4,aK E2 [.cell 6 51] (.ret,A,H3)=.ok [(w,H4)]/\Gr H H4/\∀lg':List Nat,∃u,w=.agg [.o (.str (bX (some ls) y.2.2.1).1),u]/\SlP ⟨H4.t,H4.nx,lg'⟩ u (bX (some ls) y.2.2.1).2:=λA o H3 h0 h1 h2=>by subst h0;have hs:SlP (((H2.new o).mod H2.nx (.arr [.o (.str (bX (some ls) y.2.2.1).1),u] 51 0 0)).mod (N+1) (.arr [.o (.str (bX (some ls) y.2.2.1).1),u] 51 0 0)) u (bX (some ls) y.2.2.1).2:=WV (q:=N+1) hu r2 ((((Fr.refl H2).new o).mod _ (.inl (ai _))).mod _ (.inr rfl)) (aq rfl);refine⟨_,_,kC (id:=N+1) (g:=0) fW (.inr rfl) (by rw[h2];rfl) h1 (by rw[aq rfl];exact cH (ai _) (ai _)) (ai _) rfl,(((g1.gr g2).new _).mod _ (.inl (by have:=g2.nx;have:=g1.nx;omega))).mod _ (.inl aa),λ_=>⟨u,rfl,?_⟩⟩;exact hs
 exact fin _ _ _ rfl zL qe
def yz(L:Lad)(lr:List Rl)(x n m:Int):Int:=
 if iQ L.1 L.2 m n≠0 then iQ L.1 L.2 m n else if 0<=fv 0 lr x/\n≠m/\1<=m/\m<=1099511627776 then 5 else 0
def MW(H:Hp)(k a b:AC)(ls:List Lad)(lc:List Cl)(lr:List Rl)(x n m:Int)(y:Cl)(hk:RBk H k ls)(l8:∀x∈ls,x.2.length<=1000000)(q_:ls.length<=1000000)(ha:dD H a lc)(hb:ei H b lr)(hR:lr.length<=1000000)(L4:0<=x)(O0:x<lc.length)(hy:lc[x.toNat]?=some y):
  Con E2 165 [.one k,.agg [a,b],.one (.i .i64 x),.one (.i .i64 n),.one (.i .i64 m)] H (λ_=>False) λr _=>r=.one (.i .i64 (yz (bX (some ls) y.2.2.1) lr x n m)):=by
 refine Con.ace (λH=>RBk H k ls) hk (λH=>dD H a lc) ha (λH=>ei H b lr) hb λH hk ha hb=>?_;refine C1.QK 41 [.tmp 10] Tryz.func165 λtm h0 h1 h2 h3 h4=>?_;have fin:=rC E2 H 10 (yz (bX (some ls) y.2.2.1) lr x n m);generalize C0:yz (bX (some ls) y.2.2.1) lr x n m=r0 at fin;replace C0:=ay C0;refine zG tyF λK hK=>?_;apply hK.out;refine R1.gen (λA1 H1=>Gr H H1/\H.nx<H1.nx/\H1.get H.nx=some (.arr [a,b] 26 0 0)/\slot A1.tm 0=.one (k)/\ju A1 x (jz A1 n m (fM A1 H.nx (A1.nt=41/\A1.dfr=[]))))
  ⟨(Fr.refl _).new _,ba _,aC rfl,zL⟩ ?_
 clear h0 h1 h2 h3 h4 tm hK K;rintro A1 H1 ⟨g1,n0,r1,t0,t2,t3,t4,t6,z0,A0⟩;obtain⟨N,hN⟩:=dI H.nx;rw[<-hN]at n0 r1 t6;clear hN;have hk:=hk.gr g1;have ha:=ha.gr g1;have hb:=hb.gr g1;refine zG (qA tyF Ty) λK hK=>?_;refine WE.con (Fj H1 k a b ls lc x y hk l8 q_ ha hb.lt L4 O0 hy) λw H2 g2⟨u,hw,hu⟩=>?_;subst hw;clear hy;obtain⟨r1,n0⟩:=bD g2 n0 r1;have ha:=ha.gr g2;have hb:=hb.gr g2;have g2:=g1.gr g2;refine zS (qA tyF Tz) ?_;refine WE.con (RX H2 (bX (some ls) y.2.2.1).1 u (bX (some ls) y.2.2.1).2 m n hu) λw H3 g3⟨sg,nn,hw⟩=>?_;subst hw;obtain⟨r1,n0⟩:=bD g3 n0 r1;have ha:=ha.gr g3;have hb:=hb.gr g3;have g3:=g2.gr g3;refine zS tyF ?_;have O2:=C0.out;unfold yz at O2;generalize iQ (bX (some ls) y.2.2.1).1 (bX (some ls) y.2.2.1).2 m n=e at O2;replace O2:=ay O2;apply hK.out;refine R1.gen (λA4 H4=>Gr H3 H4/\H3.nx<H4.nx/\H4.get H3.nx=some (.arr [.i .i64 e,.o (.str sg),.i .i64 nn] 63 0 0)/\ju A4 x (jz A4 n m (fM A4 N (eO A4 11 (.o (.ptr H3.nx 0 0 3)) 41 []))))
  ⟨((Fr.refl _).new _).mod _ (.inl (ai _)),ba _,aq rfl,zL⟩ ?_
 clear t0 t2 t3 t4 t6 z0 A0 A1 hK K hu hk;rintro A1 H4 ⟨g4,n4,r4,t2,t3,t4,t6,t11,z0,A0⟩;obtain⟨r1,n0⟩:=bD g4 n0 r1;have ha:=ha.gr g4;have hb:=hb.gr g4;have g4:=g3.gr g4;clear g3 g1 g2;by_cases he:e=0
 case neg=>have ce:(e==0)=false:=aF he;have O4:=O2.out;rw[ad he]at O4;replace O4:=ay O4;replace he:=ay he;refine zW tyF ?_;exact fin (e) _ _ qp qe (g4) (O4.out)
 have ce:=beq_iff_eq.2 he;have O4:=O2.out;rw[ab (λh=>h he)]at O4;replace O4:=ay O4;replace he:=ay he;refine zW tyF ?_;refine zG (qA tyF sK) λK hK=>?_;refine WE.con (mR H4 a b lr x hb ha.lt hR) λw H5 g5 hw=>?_;subst hw;have g5:=g4.gr g5;generalize fv 0 lr x=z at O4;have no:¬(0<=z/\n≠m/\1<=m/\m<=1099511627776)->0=r0:=λh=>by have:=O4.out;rw[ab h]at this;exact this
 replace no:=ay no;by_cases c1:0<=z
 case neg=>refine zK tyF ?_;exact fin (0) _ _ qp qe (g5) ((no.out λh=>c1 h.1))
 by_cases c2:n=m
 ·have ce2:=beq_iff_eq.2 c2;replace c2:=ay c2;refine zK tyF ?_;exact fin (0) _ _ qp qe (g5) ((no.out λh=>h.2.1 c2.out))
 have ce2:(n==m)=false:=aF c2;replace c2:=ay c2;by_cases c3:1<=m
 case neg=>refine zK tyF ?_;exact fin (0) _ _ qp qe (g5) ((no.out λh=>c3 h.2.2.1))
 by_cases c4:m<=1099511627776
 case neg=>refine zK tyF ?_;exact fin (0) _ _ qp qe (g5) ((no.out λh=>c4 h.2.2.2))
 refine zK tyF ?_;exact fin (5) _ _ qp qe (g5) ((by have:=O4.out;rw[ad ⟨c1,c2.out,c3,c4⟩]at this;exact this))
def AK:ao prog 17=true:=ae
abbrev Fx:=Int×Int×Int×Int
def fxC(x:Fx):List AC:=[.i .i64 x.1,.i .i64 x.2.1,.i .i64 x.2.2.1,.i .i64 x.2.2.2]
def Gx(x:Fx):(fxC x).length=4:=rfl
def SlF(H:Hp)(v:AC)(l:List Fx):Prop:=SlC H v 4 l.length (l.flatMap fxC)
def SlF.gr{H H':Hp}{v:AC}{l:List Fx}(h:SlF H v l)(hg:Gr H H'):SlF H' v l:=SlC.gr h hg
def SlF.len{H:Hp}{v:AC}{l:List Fx}(h:SlF H v l):eD H 1 (.one v)=.val (.one (.i .i64 (l.length:Int))) H:=SlC.len h
def SlF.lt{H:Hp}{v:AC}{l:List Fx}(h:SlF H v l):ltV (.one v) H.nx:=pD h
def SlF.nil{H:Hp}:SlF H (.o .nilS) []:=⟨by simp,.inl ⟨rfl,rfl⟩⟩
structure FxAt(cells:List AC)(o:Nat)(x:Fx):Prop where
 all:(cells.drop o).take 4=fxC x
 le:o+4<=cells.length
 le1:o+1<=cells.length
 le2:o+1+1<=cells.length
 le3:o+2+1<=cells.length
 le4:o+3+1<=cells.length
 f0:(cells.drop o).headD (.b false)=.i .i64 x.1
 f1:(cells.drop (o+1)).headD (.b false)=.i .i64 x.2.1
 f2:(cells.drop (o+2)).headD (.b false)=.i .i64 x.2.2.1
 f3:(cells.drop (o+3)).headD (.b false)=.i .i64 x.2.2.2
def ab0{cells:List AC}{o:Nat}{a b c d:AC}(h:(cells.drop o).take 4=[a,b,c,d]):(cells.drop o).headD (.b false)=a/\(cells.drop (o+1)).headD (.b false)=b/\(cells.drop (o+2)).headD (.b false)=c/\(cells.drop (o+3)).headD (.b false)=d:=by
 rw[<-js,<-js,<-js];match hd:cells.drop o,h with
 |x0::x1::x2::x3::r,h=>simp only[List.take_succ_cons,List.take_zero,tE,and_true]at h;obtain⟨rfl,rfl,rfl,rfl⟩:=h;exact⟨rfl,rfl,rfl,rfl⟩
def SlF.open{H:Hp}{v:AC}{l:List Fx}(h:SlF H v l)(hn:0<l.length):∃id g off cells,v=.o (.sl id g off l.length 4)/\id<H.nx/\rowOf (H.get id) g=some cells/\∀(i:Nat)(x:Fx),l[i]?=some x->FxAt cells (off+i*4) x:=by
 obtain⟨id,g,off,h1,h2,hr⟩:=SlC.pos h hn;have T3:=hr;obtain⟨cells,h3,h6,h7⟩:=hr;refine⟨id,g,off,cells,h1,h2,h3,λi x hx=>?_⟩;obtain⟨cells',k3,k6,k7⟩:=Rd.at (c:=fxC) Gx T3 hx;rw[h3]at k3;cases k3
 rw[fxC]at k7;obtain⟨d0,d1,d2,d3⟩:=ab0 k7;exact⟨k7,k6,aa,aa,aa,aa,d0,d1,d2,d3⟩
def yR(H:Hp)(v w:AC)(l:List Fx)(hv:SlF H v l)(hw:SlF H w l)(hL:l.length<=4611686018427387904):
  Con E2 17 [.one v,.one w] H (λ_=>False) λr _=>r=.one (.b true):=by
 refine Con.qw (λH=>SlF H v l) hv (λH=>SlF H w l) hw λH hv hw=>?_;refine C1.fD 26 [.tmp 4] Tryz.func17 λtm h0 h1=>?_;have l1:=hv.len;have l2:=hw.len;have l3:=hv.lt;have l4:=hw.lt;have Q0:((l.length:Int)==(l.length:Int))=true:=dk _;refine zW tyF ?_;refine R1.dL λK k1 k2 k3 k4=>?_;refine R1.loop (λk A H2=>∃i:Nat,k=l.length-i/\i<=l.length/\Gr H H2/\eQ A.tm 0 1 (v) (w) (fu A i (A.nt=26/\A.dfr=[]))) ?_ l.length ⟨0,rfl,Nat.zero_le _,Fr.refl _,zL⟩;clear h0 h1 tm l1 l2 l3 l4 k3;rintro k A H2 ⟨i,rfl,hi,g2,t0,t1,t5,z0,A0⟩;have G5:=hv.gr g2;have Z':=hw.gr g2;have l1:=G5.len;have l3:=G5.lt;refine zW tyF ?_;refine zI tyF (λhc=>?_) (λhc=>?_)
 ·have B0:i<l.length:=aa;have ex:=aA B0;have M0:=List.drop_eq_getElem_cons B0;have Y1:=cK B0;have D0:=bW B0;generalize l[i]=x at ex M0 Y1 D0;have X1:=bB i;clear M0 Y1 D0 l1 l3;obtain⟨id,g,off,cells,rfl,hid,W0,J0⟩:=G5.open aa;obtain⟨id',g',off',cells',rfl,U4,hgr',N5⟩:=Z'.open aa;have O0:=J0 i x ex;have V6:=N5 i x ex;have y1:=O0.all;have y2:=O0.le;have y3:=V6.all;have y4:=V6.le;rw[fxC]at y1 y3;obtain⟨x1,x2,x3,x4⟩:=x;clear J0 N5 O0 V6 ex Q0;refine zW tyF ?_;refine R1.dL λK2 q1 q2 q3 q4=>?_;repeat refine R1.aJ ?_
  (first|refine R1.abo ae λK hK=>?_|refine R1.ab3 ae λK hK=>?_)
  simp only[qB,aZ,Nat.reduceLT,Nat.reduceEqDiff,Nat.reduceLeDiff,reduceIte,Nat.reduceAdd,Nat.reduceSub,Nat.reduceMul,Int.reduceLT,Int.reduceLE,Int.reduceBEq,aj,t0,t1,t5,z0,jb,Mx,ic B0,hid,W0,U4,hgr',y1,y2,y3,y4,RT aaU,dk,Bool.and_self,Bool.not_true];apply hK;refine qY ?_;refine zW tyF ?_;apply q1.out;refine zW tyF ?_;exact⟨l.length-(i+1),aa,i+1,rfl,B0,g2,zL⟩
 refine zW tyF ?_;apply k2.out;refine zW tyF ?_;exact⟨_,_,aw (.b true) (.inr rfl) qe qp,g2,λ_=>rfl⟩
def oH(v:List Int)(prev:Option Int)(f:Fx):Bool:=decide (f.1<0)||(decide ((v.length:Int)<=f.1)||((prev.any λp=>decide (f.1<=p))||!(f.2.1==v.getD f.1.toNat 0)))
def UY(ls:List Lad)(lc:List Cl)(lr:List Rl)(f:Fx):Int:=yz (bX (some ls) (gX lc f.1)) lr f.1 f.2.1 f.2.2.1
def Si{nm:List UInt8}{us:List Pr}(L0:aP nm us=0){n m:Int}(J3:1<=n)(W3:n<=1099511627776)(hm1:1<=m)(hm2:m<=1099511627776):iO (gM us (az us n) (eY nm us) n) m=iQ nm us m n:=by
 have e:∀k,1<=k->k<=1099511627776->cy nm us k=(az us k,0):=λk h1 h2=>by unfold cy;rw[ab (λh=>h L0),ad ⟨aa,h2⟩]
 unfold iQ;rw[ad ⟨⟨hm1,J3⟩,hm2,W3⟩,e n J3 W3,e m hm1 hm2,JF L0 J3 hm1 hm2];show _=jx _ _ (fO _ _ (az us n).length);rw[eC]
def QB:ao prog 26=true:=ae
def Ln:prog.underlying 27=some (.slice 3):=ae
def aaq:∀z:List AC,nq z 0=[]:=λz=>rfl
def Ir:dE prog 27=1:=ae
def ack:=Pv Ir Ln
def As(H:Hp)(v:AC)(l:List Int)(r:Option Nat):Prop:=dA H v 3 1 l.length (l.map (AC.i .i64)) r
def As.slI{H:Hp}{v:AC}{l:List Int}{r:Option Nat}(h:As H v l r):SlI H v l:=by have:=dA.slc h;unfold SlI;rw[OP];exact this
def SlI.slc{H:Hp}{v:AC}{l:List Int}(h:SlI H v l):SlC H v 1 l.length (l.map (AC.i .i64)):=by rw[<-OP];exact h
def QS(H:Hp)(v:AC)(l:List Int)(hv:SlI H v l)(hL:l.length*8<=140737488355328):
  Con E2 12 [.one v] H (λ_=>False) λr H'=>∃v' q,r=.one v'/\As H' v' l q/\∀i,q=some i->H.nx<=i:=by
 refine Con.BB (λH=>SlI H v l) hv λH e hv=>?_;rw[<-e];clear e;refine C1.jR 7 [.tmp 2] Tryz.func12 λtm h0=>?_;obtain⟨z,hz,Q1⟩:=sH;obtain⟨v',H',q,B1,hs,hg,hi⟩:=FV (P:=prog) (t:=27) dp mB hz Q1 aU hv.slc aa;have B0:=hv.lt;clear hz Q1 z;replace hv:=ay hv;refine zW tyF ?_;exact⟨_,_,aw v' (.inr rfl) qe qp,hg,λ_=>⟨v',q,rfl,hs,hi⟩⟩
def Mc(H:Hp)(v:AC)(l:List Int)(hv:SlI H v l)(hL:l.length*8<=140737488355328):
  Con E2 26 [.one v] H (λ_=>False) λr H'=>∃v' q,r=.one v'/\As H' v' l q/\∀i,q=some i->H.nx<=i:=by
 refine Con.BB (λH=>SlI H v l) hv λH e hv=>?_;rw[<-e];clear e;refine C1.jR 8 [.tmp 2] Tryz.func26 λtm h0=>?_;obtain⟨z,hz,Q1⟩:=sH;have I5:=hv.slc;have B0:=hv.lt;rcases id I5 with⟨hc,⟨rfl,Z2⟩|⟨id,g,off,rfl,hid,hr⟩⟩
 ·have hl:l=[]:=List.eq_nil_of_length_eq_zero Z2;subst hl;clear hz Q1 z I5 hc Z2 hv;refine zW (qA tyF ack) ?_;exact⟨_,_,aw (.o .nilS) (.inr rfl) qe qp,Fr.refl _,λ_=>⟨_,none,rfl,.inl ⟨rfl,rfl,rfl,rfl⟩,λi h=>by cases h⟩⟩
 obtain⟨v',H',B1,ho,hf⟩:=Dt (P:=prog) (H:=H.new (.arr [] 3 0 0)) (t:=27) (id:=H.nx) dp mB hz Q1 aU (aC rfl) (ba _) (I5.gr ((Fr.refl _).new _)) aa;have hg:Gr H H':=((Fr.refl _).new _).then hf λi h=>.inl aa;clear hz Q1 z hc;replace hv:=ay hv;replace I5:=ay I5;replace hr:=ay hr;replace hf:=ay hf;refine zW (zDd tyF ack aaq) ?_;exact⟨_,_,aw v' (.inr rfl) qe qp,hg,λ_=>⟨v',some H.nx,rfl,ho,λi h=>by cases h;exact ai _⟩⟩
def Yf{ls l:List Lad}(h:bkO ls=some l):∀x∈l,aP x.1 x.2=0:=by
 unfold bkO at h;by_cases hc:pJ ls=0
 ·rw[ad hc]at h;cases h;unfold pJ at hc;by_cases hn:(32:Int)<ls.length
  ·rw[ad hn]at hc;cases hc
  rw[ab hn]at hc;exact GU [] ls hc
 rw[ab hc]at h;cases h
def xA{ls:List Lad}{s:List UInt8}(h:lV (some ls) s=0):bX (some ls) s∈ls:=by
 rw[jZ]at h;cases hi:jX 0 ls s with
 |none=>rw[hi]at h;cases h
 |some i=>
  obtain⟨x,hx,_⟩:=GB hi;have e:bX (some ls) s=x:=by unfold bX;simp only[hi,tz];rw[bt,hx];rfl
  rw[e];exact gN hx
def Tl{o:Option (List Lad)}{p:Pz}{v:List Int}(h:gJ o p v=0):∀n∈v,1<=n/\n<=1099511627776:=by
 unfold gJ at h;by_cases c0:jT o p≠0
 ·rw[ad c0]at h;exact absurd h c0
 rw[ab c0]at h;cases hv:uK p.1 v with
 |false=>rw[ad hv]at h;cases h
 |true=>
  unfold uK at hv;rw[aV]at hv;intro n hn;have h2:v.any mV=false:=by
   cases hb:v.any mV with
   |false=>rfl
   |true=>rw[hb]at hv;exact absurd hv.2 aU
  have h3:mV n=false:=by
   cases hb:mV n with
   |false=>rfl
   |true=>rw[List.any_eq_true.2 ⟨n,hn,hb⟩]at h2;cases h2
  unfold mV at h3;rw[tF,qf,qf]at h3;omega
def aY(v:List Int)(l:List Fx):List Int:=l.foldl (λa x=>a.set x.1.toNat x.2.2.1) v
def dH(l:List Fx):∀(v:List Int),(aY v l).length=v.length:=by
 induction l with
 |nil=>intro v;rfl
 |cons x l ih=>intro v;show(aY (v.set x.1.toNat x.2.2.1) l).length=_;rw[ih,fl]
def Cq(v:List Int)(l:List Fx)(x:Fx):aY v (l++[x])=(aY v l).set x.1.toNat x.2.2.1:=by unfold aY;rw[List.foldl_append];rfl
def putI{acc:List Int}{x:Int}{a:Int}(h0:0<=x)(h:x<acc.length):List.take x.toNat (acc.map (AC.i .i64))++AC.i .i64 a::List.drop (x.toNat+1) (acc.map (AC.i .i64))=(acc.set x.toNat a).map (AC.i .i64):=setRow (AC.i .i64) acc x.toNat a aa
def tyC:=zDi tyF OY Qd Qn NX DV DW DX
def jB{α:Type}(c:α->List AC)(d:Array α):List AC:=d.toList.flatMap c
section
variable{α:Type}[Inhabited α]{c:α->List AC}(hc:∀x,(c x).length=4)
include hc
omit [Inhabited α]in
theorem Ck(d:Array α):(jB c d).length=d.size*4:=by unfold jB;rw[oS hc,uO]
omit [Inhabited α]in
theorem Wz(d:Array α)(i:Nat)(x:α):(jB c (d.setIfInBounds i x)).length=(jB c d).length:=by rw[Ck hc,Ck hc,Ai]
theorem zJ(d:Array α){i:Nat}(h:i<d.size):((jB c d).drop (i*4)).take 4=c d[i]!:=by
 have e:d.toList[i]?=some d[i]!:=by rw[oo,Ae d i h,sx h]
 exact Gv hc d.toList i _ e
omit [Inhabited α]in
theorem zM(d:Array α){i:Nat}(h:i<d.size):i*4+4<=(jB c d).length:=by rw[Ck hc];omega
omit [Inhabited α]in
theorem Jm:∀(l:List α)(i:Nat)(x:α),i<l.length->(l.flatMap c).take (i*4)++(c x++(l.flatMap c).drop (i*4+4))=(l.set i x).flatMap c
 |[],i,_,h=>absurd h (Nat.not_lt_zero i)
 |y::l,0,x,_=>by rw[Nat.zero_mul,List.take_zero,iz,List.flatMap_cons,List.set_cons_zero,List.flatMap_cons,Nat.zero_add,Aj,hc,pU (mZ (hc y)),ga,List.drop_zero,iz]
 |y::l,i+1,x,h=>by have ih:=Jm l i x (Nat.lt_of_succ_lt_succ h);have e1:(i+1)*4=4+i*4:=aa;have e2:4+i*4+4=4+(i*4+4):=aa;rw[List.flatMap_cons,List.set_cons_succ,List.flatMap_cons,<-ih,e1,e2,List.take_append,Aj,hc,iy (by rw[hc];omega),pU (by rw[hc];omega),iz,bL,Nat.add_sub_cancel_left,Nat.add_sub_cancel_left]
omit [Inhabited α]in
theorem KN(d:Array α){i:Nat}(h:i<d.size)(x:α):(jB c d).take (i*4)++(c x++(jB c d).drop (i*4+4))=jB c (d.setIfInBounds i x):=by unfold jB;rw[Jm hc d.toList i x (by rw[uO];exact h),HK]
theorem swQ{d:Array α}{i j:Nat}(hi:i<d.size)(hj:j<d.size):
  (((jB c d).drop (i*4)).take 4=c d[i]!)/\(((jB c d).drop (j*4)).take 4=c d[j]!)/\i*4+4<=(jB c d).length/\j*4+4<=(jB c d).length/\(∀(d:Array α)(i:Nat)(x:α),(jB c (d.setIfInBounds i x)).length=(jB c d).length) /\
  (∀x,(jB c d).take (i*4)++(c x++(jB c d).drop (i*4+4))=jB c (d.setIfInBounds i x)) /\
  (∀x y,(jB c (d.setIfInBounds i x)).take (j*4)++(c y++(jB c (d.setIfInBounds i x)).drop (j*4+4))=jB c ((d.setIfInBounds i x).setIfInBounds j y)):=
 ⟨zJ hc d hi,zJ hc d hj,zM hc d hi,zM hc d hj,Wz hc,λx=>KN hc d hi x,λx y=>KN hc _ (by rw[Ai];exact hj) y⟩
theorem rdQ{d:Array α}{i j:Nat}(hi:i<d.size)(hj:j<d.size):
  (((jB c d).drop (i*4)).take 4=c d[i]!)/\(((jB c d).drop (j*4)).take 4=c d[j]!)/\i*4+4<=(jB c d).length/\j*4+4<=(jB c d).length:=
 ⟨zJ hc d hi,zJ hc d hj,zM hc d hi,zM hc d hj⟩
end
def swp_size{α:Type}[Inhabited α](d:Array α)(i j:Nat):(Go.Sort.swp d i j).size=d.size:=by unfold Go.Sort.swp;rw[Ai,Ai]
def Srt{α:Type}(c:α->List AC)(H:Hp)(id gen n:Nat)(d:Array α):Prop:=d.size=n/\(∃lo,lo<=gen/\H.get id=some (.arr (jB c d) 80 lo gen))/\id<H.nx
def Srt.sz{α:Type}{c:α->List AC}{H:Hp}{id gen n:Nat}{d:Array α}(h:Srt c H id gen n d):d.size=n:=h.1
def Srt.row{α:Type}{c:α->List AC}{H:Hp}{id gen n:Nat}{d:Array α}(h:Srt c H id gen n d):∃lo,lo<=gen/\H.get id=some (.arr (jB c d) 80 lo gen):=h.2.1
def Srt.lt{α:Type}{c:α->List AC}{H:Hp}{id gen n:Nat}{d:Array α}(h:Srt c H id gen n d):id<H.nx:=h.2.2
structure Cmp{α:Type}(c:α->List AC)(cf:α->α->Int)(cl:FuncId)(N:Nat):Prop where
 len:∀x,(c x).length=4
 lt:∀x,ltV (.agg (c x)) N
 bd:ao prog cl=true
 con:∀(H:Hp)(x y:α),N<=H.nx->Con E2 cl [.agg (c x),.agg (c y)] H (λ_=>False) λr _=>r=.one (.i .i64 (cf x y))
def ltF{α:Type}(cf:α->α->Int)(x y:α):Bool:=decide (cf x y<0)
def Srt.fr{α:Type}{c:α->List AC}{H H':Hp}{id gen n:Nat}{d:Array α}{X:Nat->Prop}(h:Srt c H id gen n d)(hf:Fr X H H')(hx:¬X id):Srt c H' id gen n d:=by obtain⟨lo,h1,h2⟩:=h.row;exact⟨h.sz,⟨lo,h1,(hf.get _ h.lt hx).trans h2⟩,ax h.lt hf.nx⟩
def Tt:ao prog 182=true:=ae
section
variable{α:Type}[Inhabited α]{c:α->List AC}{cf:α->α->Int}{cl N:Nat}
theorem YF(hm:Cmp c cf cl N)(H:Hp)(id gen n:Nat)(d:Array α)(a b:Nat)(hs:Srt c H id gen n d)(hN:N<=H.nx)(hab:a<=b)(hb:b<=n)(hn:n<=1099511627776):
  Con E2 182 [.one (.o (.sl id gen 0 n 4)),.one (.i .i64 a),.one (.i .i64 b),.one (.o (.clo cl []))] H (λk=>k=id) λr H'=>r=.tup []/\Srt c H' id gen n (Go.Sort.insertionSort (ltF cf) d a b):=by
 have hbd:=hm.bd;refine Con.qw (λH=>Srt c H id gen n d) hs (λH=>N<=H.nx) hN λH hs hN=>?_;refine C1.QJ 53 [] Tryz.func182 λtm h0 h1 h2 h3=>?_;unfold Go.Sort.insertionSort;generalize C0:Go.Sort.insOuter (ltF cf) a b (a+1) d=R;have fin:∀(A:ag)(H3:Hp)(dc:Array α),A.dfr=[]->Fr (λk=>k=id) H H3->Srt c H3 id gen n dc->dc=R->∃w H4,aK E2 [] (.normal,A,H3)=.ok [(w,H4)]/\Fr (λk=>k=id) H H4/\∀lg':List Nat,w=.tup []/\Srt c ⟨H4.t,H4.nx,lg'⟩ id gen n R:=λA H3 dc h1 h2 h3 h4=>⟨_,H3,cS (.inl rfl) h1,h2,λ_=>⟨rfl,by rw[<-h4];exact h3⟩⟩;have hid:=hs.lt;have c8:=bB a;replace C0:=ay C0;refine zW tyF ?_;refine R1.mD λK k1 k2 k3 k4=>?_;refine R1.loop (λz A H3=>∃(i:Nat)(dc:Array α),z=b-i/\a+1<=i/\i<=n+1/\Fr (λk=>k=id) H H3/\Srt c H3 id gen n dc/\Hd (Go.Sort.insOuter (ltF cf) a b i dc=R)/\slot A.tm 0=.one (.o (.sl id gen 0 n 4))/\dm A a (ju A b (slot A.tm 3=.one (.o (.clo cl []))/\lK A i (A.nt=53/\A.dfr=[])))) ?_ (b-(a+1))
  ⟨a+1,d,rfl,ai _,aa,Fr.refl _,hs,C0,zL⟩
 clear h0 h1 h2 h3 tm hs C0 hid c8 k3;rintro z A H3 ⟨i,dc,rfl,hia,U2,f3,hs,hr,t0,t1,t2,t3,t8,z0,A0⟩;have hid:=hs.lt;refine zW tyF ?_;refine zI tyF (λo_=>?_) (λo_=>?_)
 ·have hib:i<b:=aa;have O2:=hr.out;rw[Go.Sort.insOuter,ad hib]at O2;clear hr;replace O2:=ay O2;have hwi:=bB i;refine zW tyF ?_;refine R1.dL λK2 q1 q2 q3 q4=>?_;refine zW tyF ?_;refine R1.mD λK3 p1 p2 p3 p4=>?_;refine R1.loop (λz A H4=>∃(j:Nat)(dj:Array α),z=j/\j<=i/\Fr (λk=>k=id) H H4/\Srt c H4 id gen n dj/\Hd (Go.Sort.insOuter (ltF cf) a b (i+1) (Go.Sort.insInner (ltF cf) a j dj)=R)/\slot A.tm 0=.one (.o (.sl id gen 0 n 4))/\dm A a (ju A b (slot A.tm 3=.one (.o (.clo cl []))/\lK A i (eO A 9 (.i .i64 (j:Int)) 53 [])))) ?_ i
   ⟨i,dc,rfl,ai _,f3,hs,O2,zL⟩
  clear t0 t1 t2 t3 t8 z0 A0 A O2 hs hid f3 p3 q3;rintro j A H4 ⟨_,dj,rfl,hji,f4,hs,hr,t0,t1,t2,t3,t8,t9,z0,A0⟩;have hid:=hs.lt;by_cases hja:a<j
  ·obtain⟨j,rfl⟩:∃k,j=k+1:=⟨j-1,aa⟩;have hja':(a:Int)<((j+1:Nat):Int):=aa;have hwj:IntKind.i64.wrap (((j+1:Nat):Int)-1)=(j:Int):=by rw[gE aa aa];omega
   obtain⟨lo,L7,hg⟩:=hs.row;have hdz:=hs.sz;have hj1:j+1<n:=aa;have hj0:j<n:=aa;have S1:=hm.len;replace hdz:=ay hdz;refine zG (zDe tyF (ixC hj1) (ixC hj0) (rdQ hm.len (d:=dj) (i:=j+1) (j:=j) (by have:=hdz.out;omega) (by have:=hdz.out;omega))) λK hK=>?_;refine WE.con (hm.con H4 dj[j+1]! dj[j]! (aS hN f4.nx)) λw' H5 g5 hq=>?_;subst hq;obtain⟨hg,hid⟩:=bD g5 hid hg;have f5:=f4.then g5 λ_ h=>h.elim;have hrr:=hr.out;rw[Go.Sort.insInner]at hrr;by_cases hcf:cf dj[j+1]! dj[j]!<0
   ·have S2:(decide (j+1>a)&&ltF cf dj[j+1]! dj[j]!)=true:=by rw[bp (by omega:j+1>a)];exact bp hcf
    rw[ad S2]at hrr;clear hr S2;replace hrr:=ay hrr;refine zK tyF ?_;refine R1.dL λK4 u1 u2 u3 u4=>?_;refine zW (zDe tyF (ixC hj1) (ixC hj0) (swQ hm.len (d:=dj) (i:=j+1) (j:=j) (by have:=hdz.out;omega) (by have:=hdz.out;omega))) ?_;apply u1.out;refine zW tyF ?_;exact⟨j,ba _,j,Go.Sort.swp dj (j+1) j,rfl,aa,(f5.mod _ (.inr rfl)).mod _ (.inr rfl),⟨by rw[swp_size];exact hdz.out,⟨gen,ai _,aq rfl⟩,hid⟩,hrr,zL⟩
   have S2:(decide (j+1>a)&&ltF cf dj[j+1]! dj[j]!)=false:=by rw[bp (by omega:j+1>a)];exact bJ hcf
   rw[ab (by rw[S2];decide)]at hrr;clear hr S2;replace hrr:=ay hrr;refine zK tyF ?_;apply p2.out;apply q1.out;refine zW tyF ?_;exact⟨b-(i+1),aa,i+1,dj,rfl,aa,aa,f5,⟨hdz.out,⟨lo,L7,hg⟩,hid⟩,hrr,zL⟩
  have hja':¬(a:Int)<(j:Int):=aa;have hrr:=hr.out;have U2:Go.Sort.insInner (ltF cf) a j dj=dj:=by
   cases j with
   |zero=>rfl
   |succ j=>rw[Go.Sort.insInner,bJ (by omega:¬j+1>a),Bool.false_and,ab aU]
  rw[U2]at hrr;clear hr U2;replace hrr:=ay hrr;refine zW tyF ?_;apply p2.out;apply q1.out;refine zW tyF ?_;exact⟨b-(i+1),aa,i+1,dj,rfl,aa,aa,f4,hs,hrr,zL⟩
 have hib:¬i<b:=aa;have O2:=hr.out;rw[Go.Sort.insOuter,ab hib]at O2;refine zW tyF ?_;apply k2.out;exact fin _ _ _ qe f3 hs O2
end
def Tu:ao prog 71=true:=ae
def Tv:ao prog 126=true:=ae
def tyU:=zDm tyF Vn Xk XH Tf Vm Xj XG Te Pc Qi (zDg Qq Ob aak ZZ arQ abW)
def cvQ{s t:TypeId}{ks kt:IntKind}(hs:prog.underlying s=some (.int ks))(ht:prog.underlying t=some (.int kt)):(∀(tm:PT AV)(H:Hp)(d:Option Tmp)(ty:TypeId)(pos:String)(af:Array Edge)(g:Option (Nat×Bool))(x:Operand),aD prog tm H ⟨d,.convert s t x,ty,pos,af,g⟩=YH (λ_ a=>.i kt (kt.wrap a)) H (cI prog tm H ⟨d,.convert s t x,ty,pos,af,g⟩) (ev tm x)) /\
  (∀(H:Hp)(alt:ah)(k:IntKind)(a:Int),YH (λ_ a=>.i kt (kt.wrap a)) H alt (.one (.i k a))=.val (.one (.i kt (kt.wrap a))) H):=⟨λ_ _ _ _ _ _ _ _=>MS hs ht,λ_ _ _ _=>rfl⟩
def ixS:(∀{st:Bool}{E:Env}{A:ag}{d:Option Tmp}{H:Hp}{next:ag->Hp->Prop}{ty:TypeId}{pos:String}{af:Array Edge}{gd:Option (Nat×Bool)}{t:TypeId}{x i:Operand},SK st E ⟨d,.index t x i,ty,pos,af,gd⟩ A H next=vN next A d (lQ H (rN E.P t) (ev A.tm x) (ev A.tm i) (aD E.P A.tm H ⟨d,.index t x i,ty,pos,af,gd⟩)))/\rN prog 9=true /\
  (∀{st:Bool}{E:Env}{A:ag}{d:Option Tmp}{H:Hp}{next:ag->Hp->Prop}{ty:TypeId}{pos:String}{af:Array Edge}{gd:Option (Nat×Bool)}{a b:TypeId}{x:Operand},SK st E ⟨d,.convert a b x,ty,pos,af,gd⟩ A H next=vN next A d (aD E.P A.tm H ⟨d,.convert a b x,ty,pos,af,gd⟩)):=⟨qK,BG,LF⟩
def acD:List UInt8:=(List.range 256).map λm=>UInt8.ofNat (Go.Sort.bitsLen m)
def Ns{next:ag->Hp->Prop}{A:ag}{d:Option Tmp}{H:Hp}{s:List UInt8}{k:IntKind}{m:Nat}{alt:ah}(hs:s=acD)(hm:m<256)(hn:vN next A d (.val (.one (.i .u8 (Go.Sort.bitsLen m:Int))) H)):vN next A d (lQ H true (.one (.o (.str s))) (.one (.i k (m:Int))) alt):=by
 have h:s[m]?=some (UInt8.ofNat (Go.Sort.bitsLen m)):=by rw[hs];unfold acD;rw[pV,List.getElem?_range hm];rfl
 rw[Xc h];have e:((UInt8.ofNat (Go.Sort.bitsLen m)).toNat:Int)=(Go.Sort.bitsLen m:Int):=by have:Go.Sort.bitsLen m<=8:=(Go.Sort.bitsLen_le_iff m 8).2 aa;rw[UInt8.toNat_ofNat'];omega
 rw[e];exact hn
def nD{x:Nat}(h:256<=x):Go.Sort.bitsLen x=8+Go.Sort.bitsLen (x/256):=by
 have a:∀k,Go.Sort.bitsLen x<=8+k↔Go.Sort.bitsLen (x/256)<=k:=λk=>by rw[Go.Sort.bitsLen_le_iff,Go.Sort.bitsLen_le_iff,Nat.pow_add,Nat.div_lt_iff_lt_mul aU,Ac]
 have b:=(a (Go.Sort.bitsLen (x/256))).2 (ai _);have c:8<=Go.Sort.bitsLen x:=by
  by_cases h8:Go.Sort.bitsLen x<=7
  ·have:=(Go.Sort.bitsLen_le_iff x 7).1 h8;omega
  omega
 have d:=(a (Go.Sort.bitsLen x-8)).1 aa;omega
def vp{x:Nat}(h:x<=65536):Go.Sort.bitsLen x<=17:=(Go.Sort.bitsLen_le_iff x 17).2 aa
def Rr(H:Hp)(x:Nat)(hx:x<=65536):Con E2 126 [.one (.i .u64 x)] H (λ_=>False) λr _=>r=.one (.i .i64 (Go.Sort.bitsLen x:Int)):=by
 refine Con.xw λH=>?_;refine C1.jR 25 [.tmp 2] Tryz.func126 λtm h0=>?_;have c1:¬(4294967296:Int)<=(x:Int):=aa;have hb:=vp hx;by_cases c16:65536<=x
 ·have c2:(65536:Int)<=(x:Int):=aa;have e0:shF .shr .u64 (x:Int) 16=((x/65536:Nat):Int):=WL (k:=16) aU;have hy:x/65536=1:=aa;have hbx:Go.Sort.bitsLen x=16+Go.Sort.bitsLen (x/65536):=by have h1:=nD (x:=x) aa;have h2:=nD (x:=x/256) aa;rw[Nat.div_div_eq_div_mul,show 256*256=65536 from rfl]at h2;omega
  generalize x/65536=y at e0 hy hbx;have e2:IntKind.i64.wrap (0+16)=16:=aU;have c3i:¬(256:Int)<=(y:Int):=aa;have e3:IntKind.u8.wrap (y:Int)=(y:Int):=by rw[IntKind.wrap_u8];omega
  have e4:=cB (Go.Sort.bitsLen y:Int);have e5:IntKind.i64.wrap (16+(Go.Sort.bitsLen y:Int))=(Go.Sort.bitsLen x:Int):=by rw[gE aa aa];omega
  have hy2:y<256:=aa;clear hy hbx;refine zW (qA tyU (shI (op:=.shr) (show(0:Int)<=16 by decide))) ?_;refine zG (zDe tyU ixS (cvQ xM qt) (cvQ qt oh)) λK hK=>?_;refine Ns ae hy2 ?_;refine zK (zDe tyU ixS (cvQ xM qt) (cvQ qt oh)) ?_;exact⟨_,_,aw (.i .i64 (Go.Sort.bitsLen x:Int)) (.inr rfl) qe qp,Fr.refl _,λ_=>rfl⟩
 have c2:¬(65536:Int)<=(x:Int):=aa;by_cases c3:256<=x
 ·have c3i:(256:Int)<=(x:Int):=aa;have e1:shF .shr .u64 (x:Int) 8=((x/256:Nat):Int):=WL (k:=8) aU;have e2:IntKind.i64.wrap (0+8)=8:=aU;have e3:IntKind.u8.wrap ((x/256:Nat):Int)=((x/256:Nat):Int):=by rw[IntKind.wrap_u8];omega
  have e4:IntKind.i64.wrap (Go.Sort.bitsLen (x/256):Int)=(Go.Sort.bitsLen (x/256):Int):=gE aa (by have:=nD c3;omega);have e5:IntKind.i64.wrap (8+(Go.Sort.bitsLen (x/256):Int))=(Go.Sort.bitsLen x:Int):=by have:=nD c3;rw[gE aa aa];omega
  refine zW (qA tyU (shI (op:=.shr) (show(0:Int)<=8 by decide))) ?_;refine zG (zDe tyU ixS (cvQ xM qt) (cvQ qt oh)) λK hK=>?_;refine Ns ae aa ?_;refine zK (zDe tyU ixS (cvQ xM qt) (cvQ qt oh)) ?_;exact⟨_,_,aw (.i .i64 (Go.Sort.bitsLen x:Int)) (.inr rfl) qe qp,Fr.refl _,λ_=>rfl⟩
 have c3i:¬(256:Int)<=(x:Int):=aa;have e3:IntKind.u8.wrap (x:Int)=(x:Int):=by rw[IntKind.wrap_u8];omega
 have e4:=cB (Go.Sort.bitsLen x:Int);have e5:IntKind.i64.wrap (0+(Go.Sort.bitsLen x:Int))=(Go.Sort.bitsLen x:Int):=by rw[gE aa aa];omega
 refine zW (qA tyU (shI (op:=.shr) (show(0:Int)<=8 by decide))) ?_;refine zG (zDe tyU ixS (cvQ xM qt) (cvQ qt oh)) λK hK=>?_;refine Ns ae aa ?_;refine zK (zDe tyU ixS (cvQ xM qt) (cvQ qt oh)) ?_;exact⟨_,_,aw (.i .i64 (Go.Sort.bitsLen x:Int)) (.inr rfl) qe qp,Fr.refl _,λ_=>rfl⟩
def Pe(H:Hp)(x:Nat)(hx:x<=65536):Con E2 71 [.one (.i .u64 x)] H (λ_=>False) λr _=>r=.one (.i .i64 (Go.Sort.bitsLen x:Int)):=by refine Con.xw λH=>?_;refine C1.jR 8 [.tmp 2] Tryz.func71 λtm h0=>?_;refine zW tyF ?_;refine zG (qA tyF Tv) λK hK=>?_;refine WE.con (Rr H x hx) λw' H1 g1 hw=>?_;subst hw;refine zK tyF ?_;exact⟨_,_,aw (.i .i64 (Go.Sort.bitsLen x:Int)) (.inr rfl) qe qp,g1,λ_=>rfl⟩
def wR{nm:List UInt8}{us:List Pr}(L0:aP nm us=0){i:Nat}(hi:i<us.length):((cR 1 us).getD []).getD i 0=vW us i:=by
 obtain⟨hL,B8,hf⟩:=eR L0;obtain⟨x,l,hxl,O0⟩:=eT L0;rw[Aa 1 us B8];have B0:i<(yv 1 us).length:=aa;have hy:(yv 1 us)[i]?=some (yv 1 us)[i]:=aA B0;show((yv 1 us).map (·.2)).getD i 0=_;rw[bt,pV,hy];generalize(yv 1 us)[i]=y at hy
 subst hxl;obtain⟨a,_⟩:=XD 1 x l i y B8 hy;show y.2=_;rw[a,O0,lG,lG]
def Nv{nm:List UInt8}{us:List Pr}(L0:aP nm us=0):((cR 1 us).getD []).length=us.length:=by obtain⟨hL,B8,hf⟩:=eR L0;rw[Aa 1 us B8];show((yv 1 us).map (·.2)).length=_;rw[cP,B8]
def pF(cs vs:List Int)(n:Int)(i:Nat):List Int:=[n-vs.getD i 0,n+vs.getD i 0]++(if 0<i then[n-cs.getD i 0*vs.getD i 0+cs.getD i 0*vs.getD (i-1) 0,n-cs.getD (i-1) 0*vs.getD (i-1) 0+cs.getD (i-1) 0*vs.getD i 0]else[])
def fX(cs vs:List Int)(n:Int)(k:Nat):List Int:=(List.range k).flatMap (pF cs vs n)
def yC(cs vs:List Int)(n:Int)(k:Nat):fX cs vs n (k+1)=fX cs vs n k++pF cs vs n k:=by unfold fX;rw[List.range_succ,iX,List.flatMap_cons,List.flatMap_nil,List.append_nil]
def MA(cs vs:List Int)(n:Int)(i:Nat):(pF cs vs n i).length<=4:=by
 unfold pF;rw[aI];split
 ·exact ai _
 exact bA rfl
def uC(cs vs:List Int)(n:Int):∀k,(fX cs vs n k).length<=4*k
 |0=>ai _
 |k+1=>by rw[yC,aI];have:=uC cs vs n k;have:=MA cs vs n k;omega
def kQ(nm:List UInt8)(us:List Pr)(n m:Int):Prop:=iQ nm us m n≠0
def Jr{nm:List UInt8}{us:List Pr}{n m:Int}(h:kQ nm us n m):okN m=true:=by
 unfold kQ iQ at h;by_cases c:(1<=m/\1<=n)/\(m<=1099511627776/\n<=1099511627776)
 ·unfold okN;rw[bp c.1.1,bp c.2.1];rfl
 rw[ab c]at h;exact absurd rfl h
def Cs{nm:List UInt8}{us:List Pr}(L0:aP nm us=0){k:Int}(h1:1<=k)(h2:k<=1099511627776):cy nm us k=(az us k,0):=by unfold cy;rw[ab (λh=>h L0),ad ⟨aa,h2⟩]
def Hw{nm:List UInt8}{us:List Pr}(L0:aP nm us=0){n m:Int}(J3:1<=n)(W3:n<=1099511627776)(hm:okN m=true):sn us n m=(iQ nm us m n,KX nm us m n,m):=by unfold okN at hm;rw[aV,bI,bI]at hm;unfold sn iQ KX;rw[ad ⟨⟨hm.1,J3⟩,hm.2,W3⟩,Cs L0 J3 W3,Cs L0 hm.1 hm.2];show _=(jx _ _ (fO _ _ (az us n).length),WR _ _ _ (fO _ _ (az us n).length),m);rw[eC]
def Nk{nm:List UInt8}{us:List Pr}(L0:aP nm us=0){n:Int}{x:Sp}(hx:x∈gM us (az us n) (eY nm us) n):x.2.2∈fX (az us n) ((cR 1 us).getD []) n us.length:=by
 obtain⟨i,hi,hx⟩:=List.mem_flatMap.1 hx;rw[CD]at hi;have hv:∀i,i<us.length->(eY nm us).getD i 0=((cR 1 us).getD []).getD i 0:=λi hi=>by rw[(lh L0 hi).1,wR L0 hi]
 generalize eY nm us=vs at hx hv;generalize(cR 1 us).getD []=ws at hv
 unfold fz at hx;rw[iU,iU,eW,eW]at hx;have put:∀j m,j<us.length->m∈pF (az us n) ws n j->m∈fX (az us n) ws n us.length:=λj m hj hm=>List.mem_flatMap.2 ⟨j,List.mem_range.2 hj,hm⟩;rcases hx with(⟨_,_,rfl⟩|⟨_,_,rfl⟩)|hx
 ·refine put i _ hi (dC _ ?_);show n-vs.getD i 0∈_;rw[hv i hi];exact aT ..
 ·refine put i _ hi (dC _ ?_);show n+vs.getD i 0∈_;rw[hv i hi];exact aR _ (aT ..)
 by_cases I2:i+1=us.length
 ·rw[ad I2]at hx;cases hx
 have I3:i+1<us.length:=aa;rw[ab I2,iU,eW,eW]at hx;rcases hx with⟨_,_,rfl⟩|⟨_,_,rfl⟩
 ·refine put (i+1) _ I3 (du _ ?_);show n-(az us n).getD (i+1) 0*vs.getD (i+1) 0+(az us n).getD (i+1) 0*vs.getD i 0∈_;rw[ad (uN i),hv i hi,hv (i+1) I3];exact aT ..
 refine put (i+1) _ I3 (du _ ?_);show n-(az us n).getD i 0*vs.getD i 0+(az us n).getD i 0*vs.getD (i+1) 0∈_;rw[ad (uN i),hv i hi,hv (i+1) I3];exact aR _ (aT ..)
def jS(out:List Sp)(m:Int):Bool:=out.all λy=>decide (y.2.2<m)
def Hh(C:List Int)(out:List Sp):Nat:=(C.filter (jS out)).length
def filter_lt{α:Type}{p q:α->Bool}:∀(l:List α),(∀x∈l,q x=true->p x=true)->(∃a∈l,p a=true/\q a=false)->(l.filter q).length<(l.filter p).length
 |[],_,⟨_,h,_⟩=>absurd h List.not_mem_nil
 |b::l,h1,h2=>by
  have le:∀l:List α,(∀x∈l,q x=true->p x=true)->(l.filter q).length<=(l.filter p).length:=λl=>by
   induction l with
   |nil=>intro _;exact ai _
   |cons c l ih=>
    intro h;have i1:=ih λx hx=>h x (aR _ hx);rw[List.filter_cons,List.filter_cons];by_cases hq:q c=true
    ·rw[ad hq,ad (h c (aT ..) hq)];exact Nat.succ_le_succ i1
    rw[ab hq];split
    ·exact tC i1
    exact i1
  rw[List.filter_cons,List.filter_cons];obtain⟨a,ha,pa,qa⟩:=h2;rcases List.mem_cons.1 ha with rfl|ha
  ·rw[ad pa,ab (by rw[qa];decide)];exact Nat.lt_succ_of_le (le l λx hx=>h1 x (aR _ hx))
  have ih:=filter_lt l (λx hx=>h1 x (aR _ hx)) ⟨a,ha,pa,qa⟩;by_cases hq:q b=true
  ·rw[ad hq,ad (h1 b (aT ..) hq)];exact Nat.succ_lt_succ ih
  rw[ab hq];split
  ·exact tx ih
  exact ih
def abl{C:List Int}{out:List Sp}{x:Sp}(hx:x.2.2∈C)(hb:jS out x.2.2=true):Hh C (out++[x])<Hh C out:=by
 refine filter_lt C (λm _ h=>?_) ⟨x.2.2,hx,hb,?_⟩
 ·unfold jS at h |-;rw[uQ,aV]at h;exact h.1
 unfold jS;rw[uQ,HQ];refine .inr ?_;rw[List.all_cons,bJ (Int.lt_irrefl _),Bool.false_and]
def TJ{out:List Sp}(ho:List.Pairwise (λx y:Sp=>x.2.2<y.2.2) out)(m:Int):jS out m=(match out.getLast? with|none=>true|some y=>decide (y.2.2<m)):=by
 rcases List.eq_nil_or_concat out with rfl|⟨l,y,rfl⟩
 ·rfl
 rw[List.concat_eq_append]at ho |-;rw[List.getLast?_append];show jS (l++[y]) m=decide (y.2.2<m);unfold jS;rw[uQ,List.all_cons,List.all_nil,Bool.and_true];by_cases h:y.2.2<m
 ·rw[bp h,Bool.and_true,om];intro z hz;have:=(List.pairwise_append.1 ho).2.2 z hz y (List.mem_singleton.2 rfl);exact bp aa
 rw[bJ h,Bool.and_false]
structure CL(nm:List UInt8)(us:List Pr)(n:Int)(C:List Int)(out:List Sp):Prop where
 ord:List.Pairwise (λx y:Sp=>x.2.2<y.2.2) out
 mem:∀x∈out,x.2.2∈C/\kQ nm us n x.2.2/\x=sn us n x.2.2
 all:∀m∈C,kQ nm us n m->jS out m=true\/∃x∈out,x.2.2=m
structure oB(nm:List UInt8)(us:List Pr)(n:Int)(out:List Sp)(C:List Int)(b:Sp):Prop where
 no:b.1=0->∀m∈C,kQ nm us n m->jS out m=false
 yes:b.1≠0->b.2.2∈C/\kQ nm us n b.2.2/\b=sn us n b.2.2/\jS out b.2.2=true/\∀m∈C,kQ nm us n m->jS out m=true->b.2.2<=m
def CL.nil{nm:List UInt8}{us:List Pr}{n:Int}{C:List Int}:CL nm us n C []:=⟨List.Pairwise.nil,λx h=>absurd h List.not_mem_nil,λm _ _=>.inl rfl⟩
def oB.nil{nm:List UInt8}{us:List Pr}{n:Int}{out:List Sp}{b:Sp}(h:b.1=0):oB nm us n out [] b:=⟨λ_ m hm=>absurd hm List.not_mem_nil,λh'=>absurd h h'⟩
def oB.kR{nm:List UInt8}{us:List Pr}{n:Int}{out:List Sp}{C:List Int}{b:Sp}{m:Int}(h:oB nm us n out C b)(hk:¬(kQ nm us n m/\jS out m=true/\(b.1=0\/m<b.2.2))):oB nm us n out (C++[m]) b:=by
 refine⟨λh0 m' V9 hg=>?_,λh0=>?_⟩
 ·rcases List.mem_append.1 V9 with V9|V9
  ·exact h.no h0 m' V9 hg
  cases List.mem_singleton.1 V9
  cases hb:jS out m with
  |false=>rfl
  |true=>exact absurd ⟨hg,hb,.inl h0⟩ hk
 obtain⟨a1,a2,a3,a4,a5⟩:=h.yes h0;refine⟨dC _ a1,a2,a3,a4,λm' V9 hg hb=>?_⟩;rcases List.mem_append.1 V9 with V9|V9
 ·exact a5 m' V9 hg hb
 cases List.mem_singleton.1 V9
 exact Int.not_lt.1 λB0=>hk ⟨hg,hb,.inr B0⟩
def oB.take{nm:List UInt8}{us:List Pr}{n:Int}{out:List Sp}{C:List Int}{b:Sp}{m:Int}(h:oB nm us n out C b)(hg:kQ nm us n m)(hb:jS out m=true)(hk:b.1=0\/m<b.2.2)(hx:(sn us n m).1≠0):oB nm us n out (C++[m]) (sn us n m):=by
 refine⟨λh0=>absurd h0 hx,λ_=>⟨du _ (List.mem_singleton.2 rfl),hg,rfl,hb,λm' V9 Q2 E8=>?_⟩⟩;show m<=m';rcases List.mem_append.1 V9 with V9|V9
 ·by_cases h0:b.1=0
  ·rw[h.no h0 m' V9 Q2]at E8;cases E8
  have:=(h.yes h0).2.2.2.2 m' V9 Q2 E8;rcases hk with hk|hk
  ·exact absurd hk h0
  omega
 cases List.mem_singleton.1 V9;exact ot _
def CL.push{nm:List UInt8}{us:List Pr}{n:Int}{C:List Int}{out:List Sp}{b:Sp}(h:CL nm us n C out)(hb:oB nm us n out C b)(h0:b.1≠0):CL nm us n C (out++[b]):=by
 obtain⟨a1,a2,a3,a4,a5⟩:=hb.yes h0;refine⟨?_,λx hx=>?_,λm hm hg=>?_⟩
 ·rw[HW];refine⟨h.ord,List.pairwise_singleton _ _,λx hx y hy=>?_⟩;cases List.mem_singleton.1 hy
  unfold jS at a4;exact pX (List.all_eq_true.1 a4 x hx)
 ·rcases List.mem_append.1 hx with hx|hx
  ·exact h.mem x hx
  cases List.mem_singleton.1 hx
  exact⟨a1,a2,a3⟩
 rcases h.all m hm hg with h1|⟨x,hx,e⟩
 ·have hle:=a5 m hm hg h1;by_cases he:b.2.2=m
  ·exact .inr ⟨b,du _ (List.mem_singleton.2 rfl),he⟩
  refine .inl ?_;unfold jS at h1 |-;rw[uQ,h1,List.all_cons,bp (by omega:b.2.2<m)];rfl
 exact .inr ⟨x,dC _ hx,e⟩
def KY(cs ds:List Int):∀D,jx cs ds D≠0->(1<=jx cs ds D/\jx cs ds D<=4)/\(jx cs ds D<=2->∃a,D=[a])
 |[],h=>absurd rfl h
 |[a],h=>by
  refine⟨?_,λ_=>⟨a,rfl⟩⟩;rw[abr]at h |-;by_cases h1:cs.getD a 0=ds.getD a 0+1
  ·rw[ad h1];decide
  by_cases h2:cs.getD a 0+1=ds.getD a 0
  ·rw[ab h1,ad h2];decide
  rw[ab h1,ab h2]at h;exact absurd rfl h
 |[a,b],h=>by
  rw[abt]at h |-;by_cases hb:b=a+1
  ·rw[ad hb]at h |-;by_cases h1:ds.getD b 0=0/\1<=ds.getD a 0/\cs.getD a 0=0/\cs.getD b 0=ds.getD a 0
   ·rw[ad h1];exact⟨aU,λh=>absurd h aU⟩
   by_cases h2:ds.getD a 0=0/\1<=ds.getD b 0/\cs.getD b 0=0/\cs.getD a 0=ds.getD b 0
   ·rw[ab h1,ad h2];exact⟨aU,λh=>absurd h aU⟩
   rw[ab h1,ab h2]at h;exact absurd rfl h
  rw[ab hb]at h;exact absurd rfl h
 |_::_::_::_,h=>absurd rfl h
def Fy{nm:List UInt8}{us:List Pr}(L0:aP nm us=0){n:Int}(J3:1<=n){x:Sp}(hx:x∈gM us (az us n) (eY nm us) n):(1<=x.1/\x.1<=4)/\x.2.2≠n/\1<=x.2.2/\x.2.2<=1099511627776:=by obtain⟨h1,h2,h3⟩:=(wL L0 J3 x).1 hx;unfold okN at h1;rw[aV,bI,bI]at h1;have e:x.1=jx (az us n) (az us x.2.2) (fO (az us n) (az us x.2.2) us.length):=congrArg Prod.fst h2;rw[e]at h3 |-;refine⟨(KY _ _ _ h3).1,λhn=>h3 ?_,h1⟩;rw[hn];have:fO (az us n) (az us n) us.length=[]:=aaW _ _ λj _=>HP _;rw[this];rfl
def dA.vid{H:Hp}{v:AC}{e:TypeId}{sz n:Nat}{cells:List AC}{r:Option Nat}(h:dA H v e sz n cells r):∀id∈(AV.one v).ids,r=some id:=by
 rcases h with⟨rfl,_⟩|⟨id,lo,gen,h1,rfl,_⟩
 ·intro i hi;cases hi
 intro i hi;rw[List.mem_singleton.1 hi];exact h1
def tyS:=zDf tyF JM LB rj wb
def oF(H:Hp)(v:AC)(l:List Sp):Prop:=SlC H v 3 l.length (l.flatMap spC)
def ZH(x:Sp):(spC x).length=3:=rfl
def oF.gr{H H':Hp}{v:AC}{l:List Sp}(h:oF H v l)(hg:Gr H H'):oF H' v l:=SlC.gr h hg
def oF.len{H:Hp}{v:AC}{l:List Sp}(h:oF H v l):eD H 1 (.one v)=.val (.one (.i .i64 (l.length:Int))) H:=SlC.len h
def oF.lt{H:Hp}{v:AC}{l:List Sp}(h:oF H v l):ltV (.one v) H.nx:=pD h
def oF.nil{H:Hp}:oF H (.o .nilS) []:=⟨by simp,.inl ⟨rfl,rfl⟩⟩
structure SpAt(cells:List AC)(o:Nat)(x:Sp):Prop where
 all:(cells.drop o).take 3=[.i .i64 x.1,.o (.str x.2.1),.i .i64 x.2.2]
 le:o+3<=cells.length
 le1:o+1<=cells.length
 le2:o+1+1<=cells.length
 le3:o+2+1<=cells.length
 f0:(cells.drop o).headD (.b false)=.i .i64 x.1
 f1:(cells.drop (o+1)).headD (.b false)=.o (.str x.2.1)
 f2:(cells.drop (o+2)).headD (.b false)=.i .i64 x.2.2
def oF.open{H:Hp}{v:AC}{l:List Sp}(h:oF H v l)(hn:0<l.length):∃id g off cells,v=.o (.sl id g off l.length 3)/\id<H.nx/\rowOf (H.get id) g=some cells/\∀(i:Nat)(x:Sp),l[i]?=some x->SpAt cells (off+i*3) x:=by
 obtain⟨id,g,off,h1,h2,hr⟩:=SlC.pos h hn;have T3:=hr;obtain⟨cells,h3,h6,h7⟩:=hr;refine⟨id,g,off,cells,h1,h2,h3,λi x hx=>?_⟩;obtain⟨cells',k3,k6,k7⟩:=Rd.at (c:=spC) ZH T3 hx;rw[h3]at k3;cases k3
 rw[spC]at k7;obtain⟨d0,d1,d2⟩:=aac k7;exact⟨k7,k6,aa,aa,aa,d0,d1,d2⟩
def LU:ao prog 130=true:=ae
def Iz:ao prog 89=true:=ae
def QF:ao prog 131=true:=ae
def Ff{P:Program}{H:Hp}{t e:TypeId}{sz by_ n:Nat}{z:Value}{v:AC}{cells:List AC}{r:Option Nat}(he:cG P t=some (e,sz))(hb:dB P e=some by_)(hz:aW P e=some z)(Q1:(ofValue z).cells.length=sz)(B2:sz≠0)
  (ho:dA H v e sz n cells r) (c0:List AC) (hc0:c0.length=2*sz) (hL:n+2<=140737488355328/\(n+2)*by_<=140737488355328):
  ltV (.one v) (H.new (.arr c0 e 0 0)).nx/\∃v' H' r',bM P (H.new (.arr c0 e 0 0)) t (.one v) (.one (.o (.sl H.nx 0 0 2 sz)))=.val (.one v') H' /\
   dA H' v' e sz (n+2) (cells++c0) (some r')/\Fr (λi=>r=some i) H H'/\(r=some r'\/H.nx<=r'):=by
 have O_:=ho.fr ((Fr.refl _:Gr _ _).new (.arr c0 e 0 0)) λ_ _ h=>h;obtain⟨v5,H5,r5,B1,how5,hf5,hr5⟩:=ud (P:=P) (t:=t) (H:=H.new (.arr c0 e 0 0)) (x:=.one (.o (.sl H.nx 0 0 2 sz))) (k:=2) (c:=c0) he hb hz Q1 B2 O_
  (by rw[mo (cells:=c0) (by rw[aC rfl];rfl) aa];simp only[List.drop_zero];rw[iy aa]) aU hc0 hL.1 hL.2
 refine⟨O_.lt,v5,H5,r5,B1,how5,?_,?_⟩
 ·exact((Fr.refl _:Gr _ _).new (.arr c0 e 0 0)).none.then hf5 λq hq=>.inr hq
 rcases hr5 with h|⟨_,h⟩
 ·exact .inl h
 right;rw[h,wx];omega
def Wu:nq [.i .i64 0] 2=[.i .i64 0,.i .i64 0]:=rfl
def getD_some{l:List Int}{i:Nat}(h:i<l.length):l[i]?=some (l.getD i 0):=by rw[bt,aA h];rfl
def VB(cs vs:List Int)(n:Int){i:Nat}(h:¬0<i):pF cs vs n i=[n-vs.getD i 0,n+vs.getD i 0]:=by unfold pF;rw[ab h,List.append_nil]
def VC(cs vs:List Int)(n:Int){i:Nat}(h:0<i):pF cs vs n i=[n-vs.getD i 0,n+vs.getD i 0]++[n-cs.getD i 0*vs.getD i 0+cs.getD i 0*vs.getD (i-1) 0,n-cs.getD (i-1) 0*vs.getD (i-1) 0+cs.getD (i-1) 0*vs.getD i 0]:=by unfold pF;rw[ad h]
def chB(s1:Int)(bey:Bool)(b1 b3 m:Int):Bool:=!(s1==0)&&(bey&&(b1==0||decide (m<b3)))
def KF(H:Hp)(nm:List UInt8)(u:AC)(us:List Pr)(n:Int)(hu:SlP H u us)(L0:aP nm us=0)(J3:1<=n)(W3:n<=1099511627776):
  Con E2 75 [.agg [.o (.str nm),u],.one (.i .i64 n)] H (λ_=>False) λr H'=>∃c out,r=.one c/\oF H' c out/\out.length<=48/\CL nm us n (fX (az us n) ((cR 1 us).getD []) n us.length) out /\
   (∀m∈fX (az us n) ((cR 1 us).getD []) n us.length,kQ nm us n m->jS out m=false)/\∀id∈(AV.one c).ids,H.nx<=id:=by
 refine Con.BB (λH=>SlP H u us) hu λH e hu=>?_;rw[<-e];clear e;refine C1.fD 153 [.tmp 4] Tryz.func75 λtm h0 h1=>?_;refine zG tyS λK hK=>?_;apply hK.out;refine R1.gen (λA1 H1=>Gr H H1/\H.nx<H1.nx/\H1.get H.nx=some (.arr [.o (.str nm),u] 51 0 0)/\dm A1 n (fb A1 H.nx (A1.nt=153/\A1.dfr=[])))
  ⟨(Fr.refl _).new _,ba _,aC rfl,zL⟩ ?_
 clear h0 h1 tm hK K;rintro A1 H1 ⟨g1,m1,rx,t1,t2,z0,A0⟩;obtain⟨N,hN⟩:=dI H.nx;rw[<-hN]at m1 rx t2;clear hN;have hu:=hu.gr g1;have j8:=Cs L0 J3 W3;have hSB:=zN L0 (show 0<=n by omega) W3;have hL12:=(eR L0).1;have hU:=(eR L0).2.2;have S1:=eC us n;have Z1:=Nv L0;have hSM:∀i,i<us.length->(0<=(az us n).getD i 0/\(az us n).getD i 0<=1099511627776)/\0<=((cR 1 us).getD []).getD i 0/\((cR 1 us).getD []).getD i 0<=1099511627776:=λi hi=>by have:=hSB i hi;rw[wR L0 hi,<-(lh L0 hi).1];exact⟨this.1,this.2.1⟩
 have hSN:∀i,i+1<us.length->(0<=(az us n).getD (i+1) 0*((cR 1 us).getD []).getD (i+1) 0/\(az us n).getD (i+1) 0*((cR 1 us).getD []).getD (i+1) 0<=1099511627776)/\(0<=(az us n).getD (i+1) 0*((cR 1 us).getD []).getD i 0/\(az us n).getD (i+1) 0*((cR 1 us).getD []).getD i 0<=1125899906842624) /\
   (0<=(az us n).getD i 0*((cR 1 us).getD []).getD i 0/\(az us n).getD i 0*((cR 1 us).getD []).getD i 0<=1099511627776)/\0<=(az us n).getD i 0*((cR 1 us).getD []).getD (i+1) 0/\(az us n).getD i 0*((cR 1 us).getD []).getD (i+1) 0<=1125899906842624:=λi hi=>by
  have:=(hSB i aa).2.2 hi;rw[wR L0 (by omega:i<us.length),wR L0 hi,<-(lh L0 (by omega:i<us.length)).1,<-(lh L0 hi).1];exact this
 clear hSB;refine zG (qA tyS LU) λK hK=>?_;refine WE.con (uH H1 nm u us n hu) λw' H2 g2⟨c1,hq,R7⟩=>?_;subst hq;rw[j8]at R7 |-;replace R7:SlI H2 c1 (az us n):=R7;clear j8;obtain⟨rx,m1⟩:=bD g2 m1 rx;have hu:=hu.gr g2;have g2:=g1.gr g2;clear g1;replace S1:=ay S1;replace Z1:=ay Z1;replace L0:=ay L0;replace hSM:=ay hSM;replace hSN:=ay hSN;replace hU:=ay hU;refine zK tyS ?_;refine zG (qA tyS Iz) λK hK=>?_;refine WE.con (uL H2 nm u us hu aa hU.out) λw' H3 g3⟨c2,hq,N9⟩=>?_;subst hq;obtain⟨rx,m1⟩:=bD g3 m1 rx;have hu:=hu.gr g3;have R7:=R7.gr g3;have g3:=g2.gr g3;clear g2;refine zK tyS ?_;refine R1.gen (λA4 H4=>H4=H3/\dm A4 n (fb A4 N (xe A4 5 7 9 10 (c1) (c2) (.o .nilS) (.i .i64 (0:Int)) 153 []))) ⟨rfl,zL⟩ ?_;clear t1 t2 z0 A0 A1 hK K;rintro A1 H4 ⟨rfl,t1,t2,t5,t7,t9,t10,z0,A0⟩;generalize M3:az us n=cs at R7 S1 hSM hSN;generalize Q3:(cR 1 us).getD []=vs at N9 Z1 hSM hSN;replace M3:=ay M3;replace Q3:=ay Q3;refine R1.dL λK k1 k2 k3 k4=>?_;refine R1.loop (λz A H5=>∃(i:Nat)(v:AC)(r:Option Nat),z=us.length-i/\i<=us.length/\Gr H4 H5/\dA H5 v 3 1 (fX cs vs n i).length ((fX cs vs n i).flatMap CZ) r/\(∀q,r=some q->H4.nx<=q)/\dm A n (fb A N (ky A.tm 5 7 9 (c1) (c2) (v) (lI A i (A.nt=153/\A.dfr=[]))))) ?_ us.length
  ⟨0,.o .nilS,none,rfl,Nat.zero_le _,Fr.refl _,.inl ⟨rfl,rfl,rfl,rfl⟩,λq hq=>(by cases hq),zL⟩
 clear t1 t2 t5 t7 t9 t10 z0 A0 A1 k3;rintro z A H5 ⟨i,v,r,rfl,hi,g5,D6,G0,t1,t2,t5,t7,t9,t10,z0,A0⟩;obtain⟨rx,m1⟩:=bD g5 m1 rx;have hc15:=R7.gr g5;have hc25:=N9.gr g5;have l1:=hc15.len;rw[S1.out]at l1;have l2:=hc15.lt;have l3:=hc25.lt;have lv:=D6.lt;refine zW tyS ?_;refine zI tyS (λhc=>?_) (λhc=>?_)
 ·have B0:i<us.length:=aa;have X1:=bB i;obtain⟨id1,gg1,off1,cells1,rfl,hid1,hgr1,hat1⟩:=hc15.open (by rw[S1.out];omega);obtain⟨id2,gg2,off2,cells2,rfl,hid2,S9,L8⟩:=hc25.open (by rw[Z1.out];omega);have hi1:i<cs.length:=by rw[S1.out];exact B0
  have I3:i<vs.length:=by rw[Z1.out];exact B0
  obtain⟨b1,b2⟩:=hSM.out i B0;obtain⟨e1,e2⟩:=L8 i _ (getD_some I3);have hM:=yC cs vs n i;have hML:=uC cs vs n i;have hML2:(fX cs vs n i).length<=48:=aa;have hwa:=cB (n-vs.getD i 0);have hwb:=cB (n+vs.getD i 0);obtain⟨zi,hzi,T7⟩:=sH;obtain⟨V7,v6,H6,r6,B1,ho6,X6,hr6⟩:=Ff dp mB hzi T7 aU D6 [.i .i64 (n-vs.getD i 0),.i .i64 (n+vs.getD i 0)] rfl aa;clear hzi T7 zi;replace hr6:=ay hr6;replace ho6:=ay ho6;replace hM:=ay hM;replace hat1:=ay hat1;replace L8:=ay L8;replace b1:=ay b1;replace b2:=ay b2;replace G0:=ay G0;clear hML;have hk6:∀k,k<H4.nx->H6.get k=H5.get k:=λk hk=>X6.get k (ax hk g5.nx) λh=>by have:=G0.out k h;omega
  have hg6:Gr H4 H6:=g5.then X6 λq hq=>.inl (G0.out q hq);replace X6:=ay X6;replace hk6:=ay hk6;replace hg6:=ay hg6;refine zW tyS ?_;refine R1.dL λK2 q1 q2 q3 q4=>?_;refine zG (zDf tyS Wu (ixC hi1) (ixC I3) B1) λK hK=>?_;refine⟨V7,?_⟩;apply hK.out;refine R1.lq (λA5=>dm A5 n (fb A5 N (ky A5.tm 5 7 9 (.o (.sl id1 gg1 off1 cs.length 1)) (.o (.sl id2 gg2 off2 vs.length 1)) (v6) (lI A5 i (A5.nt=153/\A5.dfr=[]))))) zL ?_;clear t1 t2 t5 t7 t9 t10 z0 A0 A B1 hK K V7 lv l1 l2 l3 hwa hwb e1 e2;rintro A ⟨t1,t2,t5,t7,t9,t10,z0,A0⟩;have E5:∀q,some r6=some q->H4.nx<=q:=λq hq=>by
   cases hq
   rcases hr6.out with e|e
   ·exact G0.out _ e
   exact aS g5.nx e
  replace E5:=ay E5;by_cases h0:0<i
  ·have c0:(0:Int)<(i:Int):=aa;have hlt0:i-1<us.length:=aa;have hj1:i-1<cs.length:=by rw[S1.out];exact hlt0
   have hj2:i-1<vs.length:=by rw[Z1.out];exact hlt0
   have hn6:H4.nx<=H6.nx:=hg6.out.nx;have hidA:id1<H4.nx:=by have:=R7.lt;rw[xB]at this;exact this
   have hidB:id2<H4.nx:=by have:=N9.lt;rw[xB]at this;exact this
   have d1:id1<H6.nx:=ax hidA hn6;have d2:id2<H6.nx:=ax hidB hn6;have d3:rowOf (H6.get id1) gg1=some cells1:=by rw[hk6.out _ hidA];exact hgr1
   have d4:rowOf (H6.get id2) gg2=some cells2:=by rw[hk6.out _ hidB];exact S9
   obtain⟨e1,e2⟩:=hat1.out i _ (getD_some hi1);obtain⟨e3,e4⟩:=hat1.out (i-1) _ (getD_some hj1);obtain⟨e5,e6⟩:=L8.out i _ (getD_some I3);obtain⟨e7,e8⟩:=L8.out (i-1) _ (getD_some hj2);have hM2:=VC cs vs n h0;have hB:=hSN.out (i-1) aa;rw[show i-1+1=i by omega]at hB;have hw:IntKind.i64.wrap ((i:Int)-1)=((i-1:Nat):Int):=by rw[gE aa aa];omega
   have hm1:=cB (cs.getD i 0*vs.getD i 0);have hm2:=cB (cs.getD i 0*vs.getD (i-1) 0);have hm3:=cB (cs.getD (i-1) 0*vs.getD (i-1) 0);have hm4:=cB (cs.getD (i-1) 0*vs.getD i 0);have O5:=cB (n-cs.getD i 0*vs.getD i 0);have L1:=cB (n-cs.getD i 0*vs.getD i 0+cs.getD i 0*vs.getD (i-1) 0);have s7:=cB (n-cs.getD (i-1) 0*vs.getD (i-1) 0);have hs4:=cB (n-cs.getD (i-1) 0*vs.getD (i-1) 0+cs.getD (i-1) 0*vs.getD i 0);obtain⟨zi,hzi,T7⟩:=sH;obtain⟨R9,v8,H8,r8,B1,ho8,hf8,hr8⟩:=Ff dp mB hzi T7 aU ho6.out [.i .i64 (n-cs.getD i 0*vs.getD i 0+cs.getD i 0*vs.getD (i-1) 0),.i .i64 (n-cs.getD (i-1) 0*vs.getD (i-1) 0+cs.getD (i-1) 0*vs.getD i 0)] rfl aa;clear hzi T7 zi;replace hr8:=ay hr8;replace ho8:=ay ho8;replace hf8:=ay hf8;replace hM2:=ay hM2;clear hB hgr1 S9 hid1 hid2 hn6 hidA hidB;refine zW tyS ?_;refine zG (zDh tyS Wu (ixC hi1) (ixC I3) (ixC hj1) (ixC hj2) B1) λK hK=>?_;try refine⟨R9,?_⟩
   refine zK tyS ?_;apply q1.out;refine zW tyS ?_;have hr8':∀q,some r8=some q->H4.nx<=q:=λq hq=>by
    cases hq
    rcases hr8.out with e|e
    ·exact E5.out _ e
    exact aS hg6.out.nx e
   have hE:fX cs vs n (i+1)=(fX cs vs n i++[n-vs.getD i 0,n+vs.getD i 0])++[n-cs.getD i 0*vs.getD i 0+cs.getD i 0*vs.getD (i-1) 0,n-cs.getD (i-1) 0*vs.getD (i-1) 0+cs.getD (i-1) 0*vs.getD i 0]:=by rw[hM.out,hM2.out,bL]
   exact⟨us.length-(i+1),aa,i+1,v8,some r8,rfl,B0,hg6.out.then hf8.out λq hq=>.inl (E5.out q hq),by rw[hE,aI,aI,iX,iX];exact ho8.out,hr8',zL⟩
  have c0:¬(0:Int)<(i:Int):=aa;have hM2:=VB cs vs n h0;replace hM2:=ay hM2;refine zW tyS ?_;apply q1.out;refine zW tyS ?_;exact⟨us.length-(i+1),aa,i+1,v6,some r6,rfl,B0,hg6.out,by rw[hM.out,hM2.out,aI,iX];exact ho6.out,E5.out,zL⟩
 have U0:i=us.length:=aa;rw[U0]at D6;clear U0 hc15 hc25 l1 l2 l3;replace G0:=ay G0;have hCL:=uC cs vs n us.length;have hCL2:(fX cs vs n us.length).length<=48:=aa;generalize hC:fX cs vs n us.length=C at D6 hCL2;clear hCL;replace hC:=ay hC;have hg5:=g3.gr g5;refine zW tyS ?_;apply k2.out;refine zW tyS ?_;have hCI:SlI H5 v C:=D6.slc;clear D6 G0 t5 t7;have o6:=hu.gr g5;refine R1.mD λK k1 k2 k3 k4=>?_;refine R1.loop (λz A H6=>∃(out:List Sp)(v2:AC)(r:Option Nat),z=Hh C out/\Hh C out+out.length<=C.length/\Gr H5 H6/\Hd (CL nm us n C out)/\dA H6 v2 63 3 out.length (out.flatMap spC) r/\(∀q,r=some q->H5.nx<=q)/\dm A n (fb A N (nu A 9 11 (v) (v2) 153 []))) ?_ (Hh C [])
  ⟨[],.o .nilS,none,rfl,by unfold Hh;exact List.length_filter_le _ _,Fr.refl _,CL.nil,.inl ⟨rfl,rfl,rfl,rfl⟩,λq hq=>(by cases hq),zL⟩
 clear t1 t2 t9 t10 z0 A0 A k3 lv;rintro z A H6 ⟨out,v2,r,rfl,hro,g6,hcho,D6,G0,t1,t2,t9,t11,z0,A0⟩;obtain⟨rx,m1⟩:=bD g6 m1 rx;have hCI6:=hCI.gr g6;have lv:=hCI6.lt;have lv2:=D6.lt;replace G0:=ay G0;refine R1.mD λK3 p1 p2 p3 p4=>?_;refine zG tyS λK hK=>?_;apply hK.out;refine R1.gen (λA7 H7=>Gr H6 H7/\H6.nx<H7.nx/\H7.get H6.nx=some (.arr [.i .i64 0,.o (.str []),.i .i64 0] 63 0 0)/\dm A7 n (fb A7 N (oA A7 9 11 12 (v) (v2) (.o (.ptr H6.nx 0 0 3)) 153 [])))
  ⟨((Fr.refl _).new _).mod _ (.inl (ai _)),ba _,aq rfl,zL⟩ ?_
 clear t1 t2 t9 t11 z0 A0 A hK K;rintro A H7 ⟨g7,mM,rM,t1,t2,t9,t11,t12,z0,A0⟩;have hown7:=D6.fr g7 λ_ _ h=>h;obtain⟨M,hM⟩:=dI H6.nx;rw[<-hM]at mM rM t12;have hM6:H6.nx<=M:=aa;clear hM;refine zW tyS ?_;refine R1.dL λK4 j1 j2 j3 j4=>?_;refine R1.loop (λz A H8=>∃(j:Nat)(b1:Int)(b2:List UInt8)(b3:Int),z=C.length-j/\j<=C.length/\Gr H6 H8/\M<H8.nx/\H8.get M=some (.arr [.i .i64 b1,.o (.str b2),.i .i64 b3] 63 0 0)/\Hd (oB nm us n out (C.take j) (b1,b2,b3))/\dm A n (fb A N (ky A.tm 9 11 12 (v) (v2) (.o (.ptr M 0 0 3)) (oy A j (A.nt=153/\A.dfr=[]))))) ?_ C.length
  ⟨0,0,[],0,rfl,Nat.zero_le _,g7,mM,rM,oB.nil rfl,zL⟩
 clear t1 t2 t9 t11 t12 z0 A0 A j3 mM rM lv lv2;rintro z A H8 ⟨j,b1,b2,b3,rfl,hj,g8,mM,rM,hbest,t1,t2,t9,t11,t12,t13,z0,A0⟩;have hCI8:=hCI6.gr g8;have N_:=D6.fr g8 λ_ _ h=>h;obtain⟨rx,m1⟩:=bD g8 m1 rx;have lv:=hCI8.lt;have lv2:=N_.lt;have ll:=hCI8.len;refine zW tyS ?_;refine zI tyS (λhc=>?_) (λhc=>?_)
 ·have B0:j<C.length:=aa;have ex:=aA B0;have M0:=List.drop_eq_getElem_cons B0;have Y1:=cK B0;have D0:=bW B0;generalize C[j]=m at ex M0 Y1 D0;have X1:=bB j;obtain⟨idC,gC,offC,cellsC,rfl,hidC,hgrC,hatC⟩:=hCI8.open aa;obtain⟨e1,e2⟩:=hatC j m ex;have hu8:=(o6.gr g6).gr g8;clear hatC M0;replace Y1:=ay Y1;replace ex:=ay ex;replace D0:=ay D0;refine zW tyS ?_;refine R1.dL λK5 i1 i2 i3 i4=>?_;repeat refine R1.aJ ?_
  refine R1.s_q 8 ae λK hK=>?_;refine zQ (zDd tyS (ixC B0) QF) ?_;refine WE.po (Ch H8 nm u us m n hu8) λw H9 g9⟨sg,x,hw,hsx⟩=>?_;subst hw;refine zQ tyS ?_;apply hK.out;refine R1.gen (λA10 H10=>Gr H8 H10/\H9.nx<H10.nx/\H10.get H9.nx=some (.arr [.i .i64 (iQ nm us m n),.o (.str sg),.i .i64 x] 63 0 0)/\dm A10 n (fb A10 N (ky A10.tm 9 11 12 (.o (.sl idC gC offC C.length 1)) (v2) (.o (.ptr M 0 0 3)) (oy A10 j (eO A10 14 (.o (.ptr H9.nx 0 0 3)) 153 [])))))
   ⟨(g9.new _).mod _ (.inl g9.nx),ba _,aq rfl,zL⟩ ?_
  clear t1 t2 t9 t11 t12 t13 z0 A0 A hK K e1 e2 hidC hgrC hc lv2 ll;rintro A H10 ⟨g10,m2,r2,t1,t2,t9,t11,t12,t13,t14,z0,A0⟩;obtain⟨M2,hM2⟩:=dI H9.nx;rw[<-hM2]at m2 r2 t14;clear hM2;obtain⟨rx,m1⟩:=bD g10 m1 rx;obtain⟨rM,mM⟩:=bD g10 mM rM;generalize O5:iQ nm us m n=s1 at hsx r2;replace O5:=ay O5;have hown10:=N_.fr g10 λ_ _ h=>h;have Z4:oF H10 v2 out:=hown10.slc;have ll:=Z4.len;have lv2:=Z4.lt;clear lv N_ hown10 hu8 hCI8;replace hsx:=ay hsx;repeat refine R1.aJ ?_
  refine R1.s_h ae λK7 hK7=>?_;suffices R5:∀(A4:ag)(c:Bool),c=chB s1 (jS out m) b1 b3 m->(dm A4 n (fb A4 N (ky A4.tm 9 11 12 (.o (.sl idC gC offC C.length 1)) (v2) (.o (.ptr M 0 0 3)) (oy A4 j (nu A4 14 143 (.o (.ptr M2 0 0 3)) (.b c) 153 [])))))->K7 A4 H10 by
   clear hK7;replace R5:=ay R5;by_cases q1:s1=0
   ·have ce:=beq_iff_eq.2 q1;replace q1:=ay q1;refine zS tyS ?_;exact R5.out _ false (by unfold chB;rw[ce];rfl) zL
   have ce:(s1==0)=false:=aF q1;have O7:=(hsx.out q1).2;rw[O7]at r2;replace q1:=ay q1;clear O7;rcases sB out.length with h0|h0
   ·have cl:(((out.length:Nat):Int)==0)=true:=by rw[h0];rfl
    have Y7:jS out m=true:=by rw[List.eq_nil_of_length_eq_zero h0];rfl
    replace h0:=ay h0;replace Y7:=ay Y7;by_cases q2:b1=0
    ·have cb:=beq_iff_eq.2 q2;replace q2:=ay q2;refine zS tyS ?_;exact R5.out _ true (by unfold chB;rw[ce,Y7.out,cb];rfl) zL
    have cb:(b1==0)=false:=aF q2;replace q2:=ay q2;refine zS tyS ?_;exact R5.out _ (decide (m<b3)) (by unfold chB;rw[ce,Y7.out,cb];rfl) zL
   have Y2:out.length-1<out.length:=aa;have hy:=aA Y2;generalize out[out.length-1]=y at hy;have Y7:jS out m=decide (y.2.2<m):=by rw[TJ hcho.out.ord,Ak,hy]
   obtain⟨id3,gg3,off3,cells3,rfl,hid3,hgr3,hat3⟩:=Z4.open h0;have hz:=hat3 _ _ hy;obtain⟨y1,y2,y3⟩:=y;have f2:(cells3.drop (off3+(out.length-1)*3+2)).headD (.b false)=.i .i64 y3:=hz.f2;have f4:=hz.le3;have cl:(((out.length:Nat):Int)==0)=false:=aF aa;have hw:IntKind.i64.wrap (((out.length:Nat):Int)-1)=((out.length-1:Nat):Int):=by rw[gE aa aa];omega
   replace Y7:jS out m=decide (y3<m):=Y7;clear hz hat3 hy h0;by_cases q3:y3<m
   ·have z8:jS out m=true:=by rw[Y7,bp q3]
    replace Y7:=ay Y7;replace z8:=ay z8;by_cases q2:b1=0
    ·have cb:=beq_iff_eq.2 q2;replace q2:=ay q2;refine zS (qA tyS (ixC Y2)) ?_;exact R5.out _ true (by unfold chB;rw[ce,z8.out,cb];rfl) zL
    have cb:(b1==0)=false:=aF q2;replace q2:=ay q2;refine zS (qA tyS (ixC Y2)) ?_;exact R5.out _ (decide (m<b3)) (by unfold chB;rw[ce,z8.out,cb];rfl) zL
   have z8:jS out m=false:=by rw[Y7,bJ q3]
   replace Y7:=ay Y7;replace z8:=ay z8;refine zS (qA tyS (ixC Y2)) ?_;exact R5.out _ false (by unfold chB;rw[ce,z8.out];rfl) zL
  clear t1 t2 t9 t11 t12 t13 t14 z0 A0 A ll lv2;rintro A c S2 ⟨t1,t2,t9,t11,t12,t13,t14,t143,z0,A0⟩;apply hK7.out;have h10:=g8.gr g10;unfold chB at S2;cases c
  ·have E4:¬(kQ nm us n m/\jS out m=true/\((b1,b2,b3).1=0\/m<(b1,b2,b3).2.2)):=λ⟨h1,h2,h3⟩=>by
    have h1:s1≠0:=by rw[<-O5.out];exact h1
    rw[aF h1,h2]at S2;rcases h3 with h3|h3
    ·have h3:b1=0:=h3;rw[h3]at S2;cases S2
    have h3:m<b3:=h3;rw[bp h3,Bool.or_true]at S2;cases S2
   replace S2:=ay S2;replace E4:=ay E4;refine zW tyS ?_;apply i1.out;refine zW tyS ?_;exact⟨C.length-(j+1),aa,j+1,b1,b2,b3,rfl,B0,h10,mM,rM,(by rw[Y1.out];exact hbest.out.kR E4.out:oB nm us n out (C.take (j+1)) (b1,b2,b3)),zL⟩
  have hcs1:s1≠0:=λh=>by rw[h]at S2;cases S2
  rw[aF hcs1]at S2;have hb:jS out m=true:=by
   cases hb:jS out m with
   |true=>rfl
   |false=>rw[hb]at S2;cases S2
  rw[hb]at S2;have hk:b1=0\/m<b3:=by
   by_cases q2:b1=0
   ·exact .inl q2
   rw[aF q2]at S2;exact .inr (pX S2.symm)
  obtain⟨hsg,O7⟩:=hsx.out hcs1;have hgd:kQ nm us n m:=by unfold kQ;rw[O5.out];exact hcs1
  have hX:sn us n m=(s1,sg,x):=by rw[Hw L0.out J3 W3 (Jr hgd),O5.out,hsg,O7]
  have hT:=hbest.out.take hgd hb hk (by rw[hX];exact hcs1);rw[hX]at hT;replace hT:=ay hT;replace hX:=ay hX;replace S2:=ay S2;replace hb:=ay hb;replace hsg:=ay hsg;replace O7:=ay O7;replace hcs1:=ay hcs1;replace hk:=ay hk;replace hgd:=ay hgd;refine zW tyS ?_;apply i1.out;refine zW tyS ?_;exact⟨C.length-(j+1),aa,j+1,s1,sg,x,rfl,B0,h10.mod _ (.inl hM6),mM,aq rfl,(by rw[Y1.out];exact hT.out:oB nm us n out (C.take (j+1)) (s1,sg,x)),zL⟩
 have hje:j=C.length:=aa;have H_:=hbest.out;rw[hje,pZ]at H_;clear hje hbest hc;by_cases q1:b1=0
 ·have cb:=beq_iff_eq.2 q1;have E4:=H_.no q1;replace q1:=ay q1;replace H_:=ay H_;replace E4:=ay E4;refine zW tyS ?_;apply j2.out;refine zW tyS ?_;refine p4.out _ _ (k4.out _ _ ⟨_,_,aw v2 (.inr rfl) qe qp,(hg5.gr g6).gr g8,λlg'=>⟨v2,out,rfl,N_.slc,aa,?_,?_,λid hid=>aS hg5.nx (G0.out id (dA.vid N_ id hid))⟩⟩)
  ·rw[hC.out];exact hcho.out
  rw[hC.out];exact E4.out
 have cb:(b1==0)=false:=aF q1;obtain⟨y1,y2,y3,y4,y5⟩:=H_.yes q1;have hpu:=hcho.out.push H_ q1;have u6:=abl y1 y4;obtain⟨zs,hzs,hzsl⟩:=ZT;obtain⟨R9,v9,H9,r9,B1,Q7,j5,P7⟩:=gA rj Yi hzs hzsl aU N_ [.i .i64 b1,.o (.str b2),.i .i64 b3] rfl aa;clear hzs hzsl zs y1 y2 y3 y4 y5;have hg9:Gr H5 H9:=(g6.gr g8).then j5 λq hq=>.inl (G0.out q hq);have L6:∀q,some r9=some q->H5.nx<=q:=λq hq=>by
  cases hq
  rcases P7 with e|e
  ·exact G0.out _ e
  exact aS (g6.gr g8).nx e
 replace q1:=ay q1;replace H_:=ay H_;replace hpu:=ay hpu;replace u6:=ay u6;replace P7:=ay P7;replace Q7:=ay Q7;replace j5:=ay j5;replace L6:=ay L6;refine zW tyS ?_;apply j2.out;refine zW tyS ?_;refine zG (zDd tyS jU B1) λK hK=>?_;try refine⟨R9,?_⟩
 refine zK tyS ?_;apply p1.out;have hrl2:Hh C (out++[(b1,b2,b3)])<Hh C out:=u6.out;exact⟨Hh C (out++[(b1,b2,b3)]),hrl2,out++[(b1,b2,b3)],v9,some r9,rfl,by rw[aI];show _+(_+1)<=_;omega,hg9,hpu.out,by rw[aI,iX];exact Q7.out,L6.out,zL⟩
def Pb:loadT prog 129=some (true,7):=ae
def Qh:cM prog 129=some 7:=ae
def ZQ:(aW prog 129).map (λz=>(ofValue z).cells)=some [.o .nilS,.o .nilS,.o .nilS,.o .nilS,.i .i64 0,.i .i64 0,.o .nilS]:=ae
def Eb:bG prog 129 0=some (0,26,2):=ae
def Ec:bG prog 129 1=some (2,22,1):=ae
def Ed:bG prog 129 2=some (3,27,1):=ae
def Ee:bG prog 129 3=some (4,3,1):=ae
def Ef:bG prog 129 4=some (5,3,1):=ae
def Eg:bG prog 129 5=some (6,67,1):=ae
def zE:Nat->Option (Nat×Nat):=λi=>(#[(0,2),(2,1),(3,1),(4,1),(5,1),(6,1)]:Array (Nat×Nat))[i]?
def Zw:jm prog 129=some zE:=ae
def RQ:zE 0=some (0,2):=rfl
def RR:zE 2=some (3,1):=rfl
def RS:zE 4=some (5,1):=rfl
def JK:loadT prog 127=some (false,1):=ae
def Lh:cM prog 127=some 1:=ae
def OZ:loadT prog 67=some (false,1):=ae
def Qe:cM prog 67=some 1:=ae
def sP:cG prog 67=some (30,1):=ae
def Pf:ly prog 67=some 1:=ae
def NY:dE prog 67=1:=ae
def Vj:loadT prog 194=some (false,1):=ae
def Xh:cM prog 194=some 1:=ae
def Vu:ly prog 194=some 2:=ae
def VG:kg prog 194=some (3,4):=ae
def GK:bY prog 3=1:=ae
def Vg:loadT prog 193=some (false,1):=ae
def Xg:cM prog 193=some 1:=ae
def abC:(aW prog 193).map (λz=>(ofValue z).cells)=some [.o .wv]:=ae
def Vf:loadT prog 196=some (false,1):=ae
def Xf:cM prog 196=some 1:=ae
def abB:(aW prog 196).map (λz=>(ofValue z).cells)=some [.o .wv]:=ae
def Vh:loadT prog 242=some (false,1):=ae
def Vi:loadT prog 244=some (false,1):=ae
def JL:loadT prog 165=some (true,9):=ae
def Li:cM prog 165=some 9:=ae
def XF:(aW prog 165).map (λz=>(ofValue z).cells)=some [.o .nilP,.o .nilS,.o .nilS,.o .nilS,.o .nilS,.o .nilS,.o .nilS,.i .i64 0,.o .nilS]:=ae
def Bi:bG prog 165 0=some (0,32,1):=ae
def Bj:bG prog 165 1=some (1,26,2):=ae
def Bk:bG prog 165 2=some (3,27,1):=ae
def Bl:bG prog 165 3=some (4,27,1):=ae
def Bm:bG prog 165 4=some (5,30,1):=ae
def Bn:bG prog 165 5=some (6,163,1):=ae
def Bo:bG prog 165 6=some (7,3,1):=ae
def Bp:bG prog 165 7=some (8,67,1):=ae
def sd:Nat->Option (Nat×Nat):=λi=>(#[(0,1),(1,2),(3,1),(4,1),(5,1),(6,1),(7,1),(8,1)]:Array (Nat×Nat))[i]?
def Wf:jm prog 165=some sd:=ae
def MM:sd 0=some (0,1):=rfl
def MN:sd 1=some (1,2):=rfl
def MO:sd 2=some (3,1):=rfl
def MP:sd 3=some (4,1):=rfl
def ED:loadT prog 162=some (false,1):=ae
def FH:cM prog 162=some 1:=ae
def Pa:loadT prog 163=some (false,1):=ae
def Qg:cM prog 163=some 1:=ae
def Gq:cG prog 163=some (59,1):=ae
def Pg:ly prog 163=some 1:=ae
def Oa:dE prog 163=1:=ae
def sU{v:List Int}{i j:Nat}{x:Int}:(v.set i x).getD j 0=if i=j/\j<v.length then x else v.getD j 0:=by
 rw[bt,HO,bt];by_cases h:i=j
 ·subst h;rw[ad rfl];by_cases h2:i<v.length
  ·rw[ad h2,ad ⟨rfl,h2⟩];rfl
  rw[ab h2,ab (λh=>h2 h.2),iY aa]
 rw[ab h,ab (λhh=>h hh.1)]
def Fw(v:List Int)(x:Fx)(l:List Fx):aY v (x::l)=aY (v.set x.1.toNat x.2.2.1) l:=rfl
def kK:∀(l:List Fx)(v:List Int)(j:Nat),(∀x∈l,x.1.toNat≠j)->(aY v l).getD j 0=v.getD j 0
 |[],_,_,_=>rfl
 |x::l,v,j,h=>by rw[Fw,kK l _ j λy hy=>h y (aR _ hy),sU,ab λhh=>h x (aT ..) hh.1]
def tj:∀(l:List Fx)(v:List Int),List.Pairwise (λx y:Fx=>x.1.toNat≠y.1.toNat) l->∀x∈l,x.1.toNat<v.length->(aY v l).getD x.1.toNat 0=x.2.2.1
 |[],_,_,_,h,_=>absurd h List.not_mem_nil
 |y::l,v,hp,x,hx,hl=>by
  obtain⟨h1,h2⟩:=List.pairwise_cons.1 hp;rw[Fw];rcases List.mem_cons.1 hx with rfl|hx
  ·rw[kK l _ _ λz hz e=>h1 z hz e.symm,sU,ad ⟨rfl,hl⟩]
  exact tj l _ h2 x hx (by rw[fl];exact hl)
def Jg{a b:List Int}(hl:a.length=b.length)(h:∀j,j<a.length->a.getD j 0=b.getD j 0):a=b:=by refine List.ext_getElem hl λj h1 h2=>?_;have:=h j h1;rw[bt,bt,aA h1,aA h2]at this;exact this
def tk{v:List Int}{l k:List Fx}(hp:l.Perm k)(h:List.Pairwise (λx y:Fx=>x.1.toNat≠y.1.toNat) l):aY v l=aY v k:=by
 have hk:List.Pairwise (λx y:Fx=>x.1.toNat≠y.1.toNat) k:=(hp.pairwise_iff λ{x y}h=>λe=>h e.symm).1 h;refine Jg (by rw[dH,dH]) λj hj=>?_;rw[dH]at hj;by_cases hm:∃x∈l,x.1.toNat=j
 ·obtain⟨x,hx,rfl⟩:=hm;rw[tj l v h x hx hj,tj k v hk x (hp.mem_iff.1 hx) hj]
 rw[kK l v j λx hx e=>hm ⟨x,hx,e⟩,kK k v j λx hx e=>hm ⟨x,hp.mem_iff.2 hx,e⟩]
def Sf(v:List Int)(l k:List Fx):aY v (l++k)=aY (aY v l) k:=by unfold aY;rw[List.foldl_append]
def Cw{a b:List Int}:∀(ps:List Int)(n:Int),(∀i∈ps,a.getD i.toNat 0=b.getD i.toNat 0)->bN a n ps=bN b n ps
 |[],_,_=>rfl
 |i::ps,n,h=>by rw[bN,bN,h i (aT ..)];exact Cw ps _ λj hj=>h j (aR _ hj)
def yZ(v:List Int):List Int->Int
 |[]=>0
 |i::l=>v.getD i.toNat 0+yZ v l
def zU{v:List Int}(hv:∀j,0<=v.getD j 0/\v.getD j 0<=1099511627776):∀(ps:List Int)(n:Int),0<=n->n+ps.length*1099511627776<=4611686018427387904->bN v n ps=n+yZ v ps
 |[],n,_,_=>by show n=n+0;omega
 |i::ps,n,h0,h=>by have hi:=hv i.toNat;rw[List.length_cons]at h;rw[bN,gE aa aa,zU hv ps _ aa aa,yZ];omega
def Lg{v:List Int}{i:Int}{x:Int}:∀(ps:List Int),(∀j∈ps,0<=j)->0<=i->i.toNat<v.length->List.Pairwise (λa b:Int=>a<b) ps->yZ (v.set i.toNat x) ps=if i∈ps then yZ v ps-v.getD i.toNat 0+x else yZ v ps
 |[],_,_,_,_=>by rw[ab List.not_mem_nil];rfl
 |j::ps,k_,hi,hl,hp=>by
  obtain⟨h1,h2⟩:=List.pairwise_cons.1 hp;have hj:=k_ j (aT ..);have ih:=Lg (x:=x) ps (λk hk=>k_ k (aR _ hk)) hi hl h2;rw[yZ,yZ,ih,sU];by_cases e:i=j
  ·subst e;rw[ad ⟨rfl,hl⟩,ab (λhm=>by have:=h1 i hm;omega),ad (aT ..)];omega
  have e2:¬(i.toNat=j.toNat/\j.toNat<v.length):=λhh=>e (by have:=hh.1;omega);rw[ab e2];by_cases hm:i∈ps
  ·rw[ad hm,ad (aR _ hm)];omega
  rw[ab hm,ab (λhh=>(List.mem_cons.1 hh).elim (λh=>e h) hm)]
structure gI(v:List Int)(lr:List Rl)(K:Int->Int->Int):Prop where
 vb:∀j,0<=v.getD j 0/\v.getD j 0<=1099511627776
 vl:v.length<=64
 tr:∀r∈lr,0<=r.1/\r.1<v.length
 pr:∀r∈lr,∀i∈r.2,0<=i/\i<v.length
 pa:∀r∈lr,List.Pairwise (λa b:Int=>a<b) r.2
 pl:∀r∈lr,r.2.length<=64
 tp:∀r∈lr,∀s∈lr,r.1∉s.2
 td:List.Pairwise (λr s:Rl=>r.1≠s.1) lr
 kb:∀i to,K i to≠0->(1<=to/\to<=1099511627776)/\to≠v.getD i.toNat 0/\K i to≠5
section
variable(v:List Int)(lr:List Rl)(K:Int->Int->Int)
def SE(x:Fx):Prop:=(0<=x.1/\x.1<v.length)/\x.2.1=v.getD x.1.toNat 0/\x.2.2.2=K x.1 x.2.2.1/\x.2.2.2≠0/\∃r∈lr,x.1∈r.2
structure cN(l:List Fx):Prop where
 ok:∀x∈l,SE v lr K x
 pw:List.Pairwise (λx y:Fx=>x.1.toNat≠y.1.toNat) l
def dX(now:List Int):List Rl->Option (List Fx)
 |[]=>some []
 |r::l=>if bN now 0 r.2=v.getD r.1.toNat 0 then dX now l else if bN now 0 r.2<1\/1099511627776<bN now 0 r.2 then none else
  (dX now l).map λT=>(r.1,v.getD r.1.toNat 0,bN now 0 r.2,if K r.1 (bN now 0 r.2)=0 then 5 else K r.1 (bN now 0 r.2))::T
end
def cT:List Fx->Nat
 |[]=>0
 |x::l=>(if x.2.2.2=5 then 2 else 1)+cT l
def ma:∀l:List Fx,l.length<=cT l
 |[]=>ai _
 |x::l=>by have:=ma l;rw[cT,List.length_cons];split<;>omega
variable{v:List Int}{lr:List Rl}{K:Int->Int->Int}
def Ql{now now':List Int}:∀(l:List Rl)(T:List Fx),(∀r∈l,bN now' 0 r.2=v.getD r.1.toNat 0\/bN now' 0 r.2=bN now 0 r.2)->dX v K now l=some T->∃T',dX v K now' l=some T'/\cT T'<=cT T
 |[],T,_,h=>⟨[],rfl,Nat.zero_le _⟩
 |r::l,T,hr,h=>by
  rw[dX]at h;rw[dX];have h2:=λT=>Ql l T λs hs=>hr s (aR _ hs);by_cases e:bN now 0 r.2=v.getD r.1.toNat 0
  ·rw[ad e]at h;have e':bN now' 0 r.2=v.getD r.1.toNat 0:=(hr r (aT ..)).elim id λh=>h.trans e;rw[ad e'];exact h2 T h
  rw[ab e]at h;by_cases b:bN now 0 r.2<1\/1099511627776<bN now 0 r.2
  ·rw[ad b]at h;cases h
  rw[ab b]at h;cases ht:dX v K now l with
  |none=>rw[ht]at h;cases h
  |some T1=>
   rw[ht]at h;cases h
   obtain⟨T',t1,t2⟩:=h2 T1 ht;by_cases e':bN now' 0 r.2=v.getD r.1.toNat 0
   ·rw[ad e'];exact⟨T',t1,by rw[cT];omega⟩
   have es:bN now' 0 r.2=bN now 0 r.2:=(hr r (aT ..)).resolve_left e';rw[ab e',es,ab b,t1];refine⟨_,rfl,?_⟩;rw[cT,cT];exact Nat.add_le_add_left t2 _
def HB{now:List Int}:∀(l:List Rl)(T:List Fx),dX v K now l=some T->∀r∈l,bN now 0 r.2≠v.getD r.1.toNat 0->∃x∈T,x.1=r.1
 |[],_,_,_,h,_=>absurd h List.not_mem_nil
 |s::l,T,h,r,hr,hw=>by
  rw[dX]at h;by_cases e:bN now 0 s.2=v.getD s.1.toNat 0
  ·rw[ad e]at h;rcases List.mem_cons.1 hr with rfl|hr
   ·exact absurd e hw
   exact HB l T h r hr hw
  rw[ab e]at h;by_cases b:bN now 0 s.2<1\/1099511627776<bN now 0 s.2
  ·rw[ad b]at h;cases h
  rw[ab b]at h;cases ht:dX v K now l with
  |none=>rw[ht]at h;cases h
  |some T1=>
   rw[ht]at h;cases h
   rcases List.mem_cons.1 hr with rfl|hr
   ·exact⟨_,aT ..,rfl⟩
   obtain⟨x,hx,e⟩:=HB l T1 ht r hr hw;exact⟨x,aR _ hx,e⟩
def acF(h:List.Pairwise (λr s:Rl=>r.1≠s.1) lr){n m:Nat}{r s:Rl}(hn:lr[n]?=some r)(hm:lr[m]?=some s)(Y_:n≠m):r.1≠s.1:=by
 obtain⟨h1,rfl⟩:=List.getElem?_eq_some_iff.1 hn;obtain⟨h2,rfl⟩:=List.getElem?_eq_some_iff.1 hm;rcases Nat.lt_or_gt_of_ne Y_ with h3|h3
 ·exact List.pairwise_iff_getElem.1 h n m h1 h2 h3
 exact(List.pairwise_iff_getElem.1 h m n h2 h1 h3).symm
def ny(v:List Int)(lr:List Rl)(now:List Int)(n:Nat):Prop:=∃r,lr[n]?=some r/\bN now 0 r.2≠v.getD r.1.toNat 0
def Rg(htd:List.Pairwise (λr s:Rl=>r.1≠s.1) lr){now:List Int}{T:List Fx}(ht:dX v K now lr=some T){given:List Nat}(hg:given.Nodup)(hw:∀n∈given,ny v lr now n):given.length<=T.length:=by
 have h1:(given.map λn=>(lr.getD n (0,[])).1).Nodup:=by refine List.pairwise_map.2 (tD (λ{a b}ha hb hab=>?_) hg);obtain⟨r,hr,_⟩:=hw a ha;obtain⟨s,hs,_⟩:=hw b hb;rw[bt,bt,hr,hs];exact acF htd hr hs hab
 have h2:=sD (l₂:=T.map λx=>x.1) h1 λt hm=>by obtain⟨n,hn,rfl⟩:=List.mem_map.1 hm;obtain⟨r,hr,hwr⟩:=hw n hn;obtain⟨x,hx,e⟩:=HB lr T ht r (gN hr) hwr;refine List.mem_map.2 ⟨x,hx,?_⟩;rw[bt,hr];exact e
 rwa [cP,cP]at h2
def cN.perm{l k:List Fx}(h:cN v lr K l)(hp:l.Perm k):cN v lr K k:=
 ⟨λx hx=>h.ok x (hp.mem_iff.2 hx),(hp.pairwise_iff λ{x y}h=>λe=>h e.symm).1 h.pw⟩
def LD(v:List Int)(lr:List Rl)(K:Int->Int->Int)(c:Nat):Prop:=∀I T,cN v lr K I->dX v K (aY v I) lr=some T->c<=I.length+cT T
structure fB(v:List Int)(lr:List Rl)(K:Int->Int->Int)(c:Nat)(I T items rest:List Fx)(given:List Nat):Prop where
 io:cN v lr K I
 to:dX v K (aY v I) lr=some T
 co:I.length+cT T=c
 pe:I.Perm (items++rest)
 nd:given.Nodup
 gw:∀n∈given,ny v lr (aY v I) n
section
variable{c:Nat}{I T items rest:List Fx}{given:List Nat}
def fB.now(h:fB v lr K c I T items rest given):aY v I=aY (aY v items) rest:=by rw[tk h.pe h.io.pw,Sf]
def fB.cost(E0:gI v lr K)(h:fB v lr K c I T items rest given):items.length+rest.length+given.length<=c:=by have h1:=Rg E0.td h.to h.nd h.gw;have h2:=ma T;have h3:=h.pe.length_eq;rw[aI]at h3;have:=h.co;omega
def fB.itm(h:fB v lr K c I T items rest given):cN v lr K items:=by have:=h.io.perm h.pe;exact⟨λx hx=>this.ok x (dC _ hx),(List.pairwise_append.1 this.pw).1⟩
def fB.same(E0:gI v lr K)(h:fB v lr K c I T items rest given){r:Rl}(hr:r∈lr)(hn:∀x∈rest,x.1∉r.2):bN (aY v items) 0 r.2=bN (aY v I) 0 r.2:=by rw[h.now];refine Cw _ _ λi hi=>(kK rest _ _ λx hx e=>hn x hx ?_).symm;have h1:=(E0.pr r hr i hi).1;have h2:=((h.io.perm h.pe).ok x (du _ hx)).1;have:x.1=i:=aa;rw[this];exact hi
def fB.Xz(E0:gI v lr K)(h:fB v lr K c I T items rest given){w:Nat}{r:Rl}(hr:lr[w]?=some r)(hg:w∉given)(hw:bN (aY v items) 0 r.2≠v.getD r.1.toNat 0):
  items.length+given.length+1<=c/\(fB v lr K c I T items rest (w::given)\/∃x rest',x.1∈r.2/\x∈rest/\fB v lr K c I T (items++[x]) rest' given/\bN (aY v I) 0 r.2=v.getD r.1.toNat 0):=by
 by_cases hI:bN (aY v I) 0 r.2=v.getD r.1.toNat 0
 ·have hx:∃x∈rest,x.1∈r.2:=fL λhn=>hw ((h.same E0 (gN hr) λx hx hm=>hn ⟨x,hx,hm⟩).trans hI);obtain⟨x,hx,hm⟩:=hx;have hc:=h.cost E0;have hl:1<=rest.length:=List.length_pos_of_mem hx;refine⟨aa,.inr ⟨x,rest.erase x,hm,hx,⟨h.io,h.to,h.co,?_,h.nd,h.gw⟩,hI⟩⟩;refine h.pe.trans ?_;rw[bL];exact(List.perm_cons_erase hx).append_left items
 have h2:fB v lr K c I T items rest (w::given):=⟨h.io,h.to,h.co,h.pe,List.nodup_cons.2 ⟨hg,h.nd⟩,λn hn=>(List.mem_cons.1 hn).elim (λe=>by rw[e];exact⟨r,hr,hI⟩) (h.gw n)⟩;have hc:=h2.cost E0;rw[List.length_cons]at hc;exact⟨aa,.inl h2⟩
def fB.right(E0:gI v lr K)(Q6:LD v lr K c)(h:fB v lr K c I T items rest given)(hw:∀n,n∉given->¬ny v lr (aY v items) n):
  rest=[]\/items.length+given.length+1<=c/\∃n∈given,∃r,lr[n]?=some r/\∃x rest',x.1∈r.2/\x∈rest/\fB v lr K c I T (items++[x]) rest' given:=by
 by_cases hx:∃x∈rest,∃n∈given,∃r,lr[n]?=some r/\x.1∈r.2
 ·obtain⟨x,hx,n,hn,r,hr,hm⟩:=hx;have hc:=h.cost E0;have hl:1<=rest.length:=List.length_pos_of_mem hx;refine .inr ⟨aa,n,hn,r,hr,x,rest.erase x,hm,hx,⟨h.io,h.to,h.co,?_,h.nd,h.gw⟩⟩;refine h.pe.trans ?_;rw[bL];exact(List.perm_cons_erase hx).append_left items
 left;obtain⟨T',t1,t2⟩:=Ql (v:=v) (K:=K) (now:=aY v I) (now':=aY v items) lr T (λr hr=>by
  obtain⟨n,hn⟩:=wU hr;by_cases hg:n∈given
  ·exact .inr (h.same E0 hr λx N8 hm=>hx ⟨x,N8,n,hg,r,hn,hm⟩)
  exact .inl (fL λhh=>hw n hg ⟨r,hn,hh⟩)) h.to
 have h1:=Q6 items T' h.itm t1;have h3:=h.pe.length_eq;rw[aI]at h3;have:=h.co;exact List.eq_nil_of_length_eq_zero aa
def fB.forced(E0:gI v lr K){x:Fx}(h:fB v lr K c I T (items++[x]) rest given)(hc:items.length+given.length+1=c){r:Rl}(hr:r∈lr)(hm:x.1∈r.2)(hI:bN (aY v I) 0 r.2=v.getD r.1.toNat 0):
  rest=[]/\x.2.2.1=v.getD x.1.toNat 0+v.getD r.1.toNat 0-bN (aY v items) 0 r.2:=by
 have h1:=h.cost E0;rw[aI,List.length_singleton]at h1;have C0:rest=[]:=List.eq_nil_of_length_eq_zero aa;subst C0;have hio:=h.io.perm h.pe;rw[List.append_nil]at hio;have hxo:=hio.ok x (du _ (aT ..));have hnow:aY v I=(aY v items).set x.1.toNat x.2.2.1:=by rw[tk h.pe h.io.pw,List.append_nil,Cq]
 have bd:∀(l:List Fx)(j:Nat),cN v lr K l->0<=(aY v l).getD j 0/\(aY v l).getD j 0<=1099511627776:=λl j hl=>by
  by_cases hm:∃y∈l,y.1.toNat=j
  ·obtain⟨y,hy,rfl⟩:=hm;have hyo:=hl.ok y hy;have J4:=hyo.1;rw[tj l v hl.pw y hy aa];have:=(E0.kb y.1 y.2.2.1 (by rw[<-hyo.2.2.1];exact hyo.2.2.2.1)).1;omega
  rw[kK l v j λy hy e=>hm ⟨y,hy,e⟩];exact E0.vb j
 have Q4:cN v lr K items:=⟨λy hy=>hio.ok y (dC _ hy),(List.pairwise_append.1 hio.pw).1⟩;have G9:=E0.pl r hr;have e1:=zU (λj=>bd I j h.io) r.2 0 (ot _) aa;have e2:=zU (λj=>bd items j Q4) r.2 0 (ot _) aa;have O0:=hxo.1;have e3:=Lg (v:=aY v items) (x:=x.2.2.1) r.2 (λj hj=>(E0.pr r hr j hj).1) O0.1 (by rw[dH];omega) (E0.pa r hr);rw[ad hm]at e3;have e4:(aY v items).getD x.1.toNat 0=v.getD x.1.toNat 0:=kK items v _ λy hy=>(List.pairwise_append.1 hio.pw).2.2 y hy x (aT ..);rw[hnow,e3,e4]at e1;rw[hnow]at hI;refine⟨rfl,?_⟩;omega
end
def qz(l:List Fx):Prop:=List.Pairwise (λx y:Fx=>x.1<y.1) l
def fY:List Fx->Fx->List Fx
 |[],x=>[x]
 |y::l,x=>if x.1<y.1 then x::y::l else y::fY l x
theorem oZ:∀(l:List Fx)(x:Fx),(fY l x).Perm (l++[x])
 |[],_=>Af _
 |y::l,x=>by
  rw[fY];split
  ·exact(List.perm_append_comm (l₁:=[x]) (l₂:=y::l))
  exact(oZ l x).cons y
theorem KC:∀(l:List Fx)(x:Fx),qz l->(∀y∈l,y.1≠x.1)->qz (fY l x)
 |[],_,_,_=>List.pairwise_singleton _ _
 |y::l,x,h,hn=>by
  obtain⟨h1,h2⟩:=List.pairwise_cons.1 h;have hyx:=hn y (aT ..);rw[fY];by_cases c:x.1<y.1
  ·rw[ad c];refine List.pairwise_cons.2 ⟨λz hz=>?_,h⟩;rcases List.mem_cons.1 hz with rfl|hz
   ·exact c
   have:=h1 z hz;omega
  rw[ab c];refine List.pairwise_cons.2 ⟨λz hz=>?_,KC l x h2 λz hz=>hn z (aR _ hz)⟩;have hz2:=(oZ l x).mem_iff.1 hz;rcases List.mem_append.1 hz2 with hz2|hz2
  ·exact h1 z hz2
  rw[List.mem_singleton.1 hz2];omega
theorem Ek:∀(T l:List Fx),(∀x∈T,∀y∈l,y.1≠x.1)->List.Pairwise (λx y:Fx=>x.1≠y.1) T->qz l->(T.foldl fY l).Perm (l++T)/\qz (T.foldl fY l)
 |[],l,_,_,h=>⟨by rw[List.append_nil];exact Af _,h⟩
 |x::T,l,hn,hp,h=>by
  obtain⟨p1,p2⟩:=List.pairwise_cons.1 hp;have hx:=hn x (aT ..);obtain⟨a,b⟩:=Ek T (fY l x) (λt ht y hy=>by
   have:=(oZ l x).mem_iff.1 hy;rcases List.mem_append.1 this with h1|h1
   ·exact hn t (aR _ ht) y h1
   rw[List.mem_singleton.1 h1];exact p1 t ht) p2 (KC l x h hx)
  refine⟨a.trans ?_,b⟩;have:=(oZ l x).append_right T;rw[bL]at this;exact this
theorem zg{f g:List Fx}(hf:qz f)(hg:qz g)(hp:f.Perm g):f=g:=by refine List.Perm.eq_of_pairwise (λa b _ _ h1 h2=>?_) hf hg hp;omega
variable{v:List Int}{lr:List Rl}{K:Int->Int->Int}
def su{now:List Int}:∀(l:List Rl)(T:List Fx),dX v K now l=some T->(T.map λx=>x.1).Sublist (l.map λr=>r.1)
 |[],T,h=>by cases h;exact List.Sublist.refl _
 |r::l,T,h=>by
  rw[dX]at h;by_cases e:bN now 0 r.2=v.getD r.1.toNat 0
  ·rw[ad e]at h;exact(su l T h).cons _
  rw[ab e]at h;by_cases b:bN now 0 r.2<1\/1099511627776<bN now 0 r.2
  ·rw[ad b]at h;cases h
  rw[ab b]at h;cases ht:dX v K now l with
  |none=>rw[ht]at h;cases h
  |some T1=>
   rw[ht]at h;cases h
   exact(su l T1 ht).cons₂ _
def wO{now:List Int}:∀(l:List Rl)(T:List Fx),dX v K now l=some T->∀x∈T,(∃r∈l,x.1=r.1)/\x.2.1=v.getD x.1.toNat 0/\x.2.2.2=if K x.1 x.2.2.1=0 then 5 else K x.1 x.2.2.1
 |[],T,h,x,hx=>by cases h;cases hx
 |r::l,T,h,x,hx=>by
  rw[dX]at h;have up:(∃s∈l,x.1=s.1)->∃s∈r::l,x.1=s.1:=λ⟨s,hs,e⟩=>⟨s,aR _ hs,e⟩;by_cases e:bN now 0 r.2=v.getD r.1.toNat 0
  ·rw[ad e]at h;obtain⟨a,b⟩:=wO l T h x hx;exact⟨up a,b⟩
  rw[ab e]at h;by_cases b:bN now 0 r.2<1\/1099511627776<bN now 0 r.2
  ·rw[ad b]at h;cases h
  rw[ab b]at h;cases ht:dX v K now l with
  |none=>rw[ht]at h;cases h
  |some T1=>
   rw[ht]at h;cases h
   rcases List.mem_cons.1 hx with rfl|hx
   ·exact⟨⟨r,aT ..,rfl⟩,rfl,rfl⟩
   obtain⟨a,b⟩:=wO l T1 ht x hx;exact⟨up a,b⟩
def HD(E0:gI v lr K){now:List Int}{T:List Fx}(h:dX v K now lr=some T):List.Pairwise (λx y:Fx=>x.1≠y.1) T:=
 List.pairwise_map.1 ((List.pairwise_map.2 E0.td).sublist (su lr T h))
def wP(E0:gI v lr K){I T:List Fx}(hI:cN v lr K I){now:List Int}(h:dX v K now lr=some T):∀x∈T,∀y∈I,y.1≠x.1:=λx hx y hy e=>by obtain⟨⟨r,hr,e2⟩,_⟩:=wO lr T h x hx;obtain⟨_,_,_,_,s,hs,hm⟩:=hI.ok y hy;exact E0.tp r hr s hs (by rw[<-e2,<-e];exact hm)
def Sol(v:List Int)(lr:List Rl)(K:Int->Int->Int)(c:Nat)(f:List Fx):Prop:=∃I T,cN v lr K I/\dX v K (aY v I) lr=some T/\I.length+cT T=c/\f.Perm (I++T)/\qz f
def Wl{l:List Fx}(h:∀x∈l,0<=x.1):List.Pairwise (λx y:Fx=>x.1.toNat≠y.1.toNat) l->List.Pairwise (λx y:Fx=>x.1≠y.1) l:=λhp=>hp.imp λhab e=>hab (by rw[e])
def Sol.asc(E0:gI v lr K){c:Nat}{f:List Fx}(h:Sol v lr K c f):∃I T,cN v lr K I/\qz I/\dX v K (aY v I) lr=some T/\I.length+cT T=c/\f=T.foldl fY I:=by obtain⟨I,T,h1,h2,h3,h4,h5⟩:=h;obtain⟨a,b⟩:=Ek I [] (λ_ _ _ hy=>absurd hy List.not_mem_nil) (Wl (λx hx=>(h1.ok x hx).1.1) h1.pw) List.Pairwise.nil;rw[iz]at a;have hI:=h1.perm a.symm;have e:aY v I=aY v (I.foldl fY []):=tk a.symm h1.pw;refine⟨I.foldl fY [],T,hI,b,by rw[<-e];exact h2,by rw[a.length_eq];exact h3,?_⟩;rw[e]at h2;obtain⟨p,q⟩:=Ek T (I.foldl fY []) (λx hx y hy=>wP E0 hI h2 x hx y hy) (HD E0 h2) b;exact zg h5 q (h4.trans ((a.symm.append_right T).trans p.symm))
def Sol.of(E0:gI v lr K){I T:List Fx}(h1:cN v lr K I)(h2:dX v K (aY v I) lr=some T)(hA:qz I):Sol v lr K (I.length+cT T) (T.foldl fY I):=by obtain⟨p,q⟩:=Ek T I (λx hx y hy=>wP E0 h1 h2 x hx y hy) (HD E0 h2) hA;exact⟨I,T,h1,h2,rfl,p,q⟩
def ig(f:List Fx):List (Int×Int):=f.map λx=>(x.1,x.2.2.1)
open Classical in
def Sol.fix(E0:gI v lr K){c:Nat}{f:List Fx}(h:Sol v lr K c f):∀x∈f,x.2.1=v.getD x.1.toNat 0/\x.2.2.2=if K x.1 x.2.2.1=0 then 5 else K x.1 x.2.2.1:=λx hx=>by
 obtain⟨I,T,h1,h2,_,h4,_⟩:=h;rcases List.mem_append.1 (h4.mem_iff.1 hx)with hx|hx
 ·obtain⟨_,a,b,d,_⟩:=h1.ok x hx;refine⟨a,?_⟩;rw[b]at d;rw[b,ab d]
 exact(wO lr T h2 x hx).2
def GI:∀{f g:List Fx},(∀x∈f,x.2.1=v.getD x.1.toNat 0/\x.2.2.2=if K x.1 x.2.2.1=0 then 5 else K x.1 x.2.2.1)->(∀x∈g,x.2.1=v.getD x.1.toNat 0/\x.2.2.2=if K x.1 x.2.2.1=0 then 5 else K x.1 x.2.2.1)->ig f=ig g->f=g
 |[],[],_,_,_=>rfl
 |[],_::_,_,_,h=>by cases h
 |_::_,[],_,_,h=>by cases h
 |x::f,y::g,hf,hg,h=>by
  have h1:(x.1,x.2.2.1)=(y.1,y.2.2.1):=(lH h).1;have h2:ig f=ig g:=(lH h).2;obtain⟨a1,a2⟩:=hf x (aT ..);obtain⟨b1,b2⟩:=hg y (aT ..);obtain⟨x1,x2,x3,x4⟩:=x;obtain⟨y1,y2,y3,y4⟩:=y;cases h1
  have a1:x2=v.getD x1.toNat 0:=a1;have b1:y2=v.getD x1.toNat 0:=b1;have a2:x4=if K x1 x3=0 then 5 else K x1 x3:=a2;have b2:y4=if K x1 x3=0 then 5 else K x1 x3:=b2;rw[a1,b1,a2,b2,GI (λz hz=>hf z (aR _ hz)) (λz hz=>hg z (aR _ hz)) h2]
def cm:List Fx->List Fx->Bool
 |[],[]=>false
 |[],_::_=>true
 |_::_,[]=>false
 |x::a,y::b=>if x.1≠y.1 then decide (x.1<y.1)else if x.2.2.1≠y.2.2.1 then decide (x.2.2.1<y.2.2.1)else cm a b
def nC:∀a:List Fx,cm a a=false
 |[]=>rfl
 |x::a=>by rw[cm,ab (λh=>h rfl),ab (λh=>h rfl)];exact nC a
def iC:∀{a b c:List Fx},cm a b=true->cm b c=true->cm a c=true
 |[],[],_,h,_=>by cases h
 |[],_::_,[],_,k=>by cases k
 |[],_::_,_::_,_,_=>rfl
 |_::_,[],_,h,_=>by cases h
 |_::_,_::_,[],_,k=>by cases k
 |x::a,y::b,z::c,h,k=>by
  rw[cm]at h k |-;by_cases c1:x.1≠y.1
  ·rw[ad c1,bI]at h;by_cases c2:y.1≠z.1
   ·rw[ad c2,bI]at k;rw[ad aa,bI];omega
   rw[ad aa,bI];omega
  rw[ab c1]at h;by_cases c2:y.1≠z.1
  ·rw[ad c2,bI]at k;rw[ad aa,bI];omega
  rw[ab c2]at k;rw[ab aa];by_cases d1:x.2.2.1≠y.2.2.1
  ·rw[ad d1,bI]at h;by_cases d2:y.2.2.1≠z.2.2.1
   ·rw[ad d2,bI]at k;rw[ad aa,bI];omega
   rw[ad aa,bI];omega
  rw[ab d1]at h;by_cases d2:y.2.2.1≠z.2.2.1
  ·rw[ad d2,bI]at k;rw[ad aa,bI];omega
  rw[ab d2]at k;rw[ab aa];exact iC h k
def zk:∀{a b:List Fx},cm a b=false->cm b a=false->ig a=ig b
 |[],[],_,_=>rfl
 |[],_::_,h,_=>by cases h
 |_::_,[],_,k=>by cases k
 |x::a,y::b,h,k=>by
  rw[cm]at h k;by_cases c1:x.1≠y.1
  ·rw[ad c1,qf]at h;rw[ad (Ne.symm c1),qf]at k;omega
  rw[ab c1]at h;rw[ab (λe=>c1 (Ne.symm e))]at k;by_cases d1:x.2.2.1≠y.2.2.1
  ·rw[ad d1,qf]at h;rw[ad (Ne.symm d1),qf]at k;omega
  rw[ab d1]at h;rw[ab (λe=>d1 (Ne.symm e))]at k;show(x.1,x.2.2.1)::ig a=(y.1,y.2.2.1)::ig b;have e1:x.1=y.1:=fL c1;have e2:x.2.2.1=y.2.2.1:=fL d1;rw[zk h k,e1,e2]
def Sol.tri(E0:gI v lr K){c:Nat}{f g:List Fx}(hf:Sol v lr K c f)(hg:Sol v lr K c g)(h:cm f g=false)(k:cm g f=false):f=g:=GI (hf.fix E0) (hg.fix E0) (zk h k)
def xh(l:List (List Fx)):Prop:=List.Pairwise (λa b=>cm a b=true) l
def xh.nodup{l:List (List Fx)}(h:xh l):l.Nodup:=h.imp λ{a b}hab e=>by subst e;rw[nC]at hab;cases hab
def WX{l k:List (List Fx)}(hl:xh l)(hk:xh k)(h:∀f,f∈l↔f∈k):l=k:=by refine List.Perm.eq_of_pairwise (λa b _ _ h1 h2=>?_) hl hk ((List.perm_ext_iff_of_nodup hl.nodup hk.nodup).2 h);have:=iC h1 h2;rw[nC]at this;cases this
def itR(v:List Int)(B:Nat):Nat->List (List (Int×Int))->List Fx->List (List Fx)
 |_,[],F=>if B<F.length then[]else[F]
 |j,l::L,F=>if B<F.length then[]else itR v B (j+1) L F++(if F.length=B then[]else l.flatMap λs=>itR v B (j+1) L (F++[((j:Int),v.getD j 0,s.1,s.2)]))
def qC(v:List Int)(j:Nat)(L:List (List (Int×Int)))(x:Fx):Prop:=∃k l,L[k]?=some l/\x.1=((j+k:Nat):Int)/\x.2.1=v.getD (j+k) 0/\(x.2.2.1,x.2.2.2)∈l
theorem qC.up{v:List Int}{j:Nat}{l:List (Int×Int)}{L:List (List (Int×Int))}{x:Fx}(h:qC v (j+1) L x):qC v j (l::L) x:=by obtain⟨k,m,h1,h2,h3,h4⟩:=h;have e:j+1+k=j+(k+1):=aa;exact⟨k+1,m,h1,by rw[h2,e],by rw[h3,e],h4⟩
theorem qC.ge{v:List Int}{j:Nat}{L:List (List (Int×Int))}{x:Fx}(h:qC v j L x):(j:Int)<=x.1:=by obtain⟨k,m,h1,h2,h3,h4⟩:=h;omega
theorem kH(v:List Int)(B:Nat):∀(L:List (List (Int×Int)))(j:Nat)(F G:List Fx),G∈itR v B j L F↔∃E,G=F++E/\G.length<=B/\qz E/\∀x∈E,qC v j L x
 |[],j,F,G=>by
  rw[itR];constructor
  ·intro h;split at h
   ·cases h
   rw[List.mem_singleton]at h;subst h;exact⟨[],(List.append_nil _).symm,aa,List.Pairwise.nil,λ_ h=>absurd h List.not_mem_nil⟩
  rintro⟨E,rfl,h1,h2,h3⟩;have:E=[]:=by
   cases E with
   |nil=>rfl
   |cons x E=>obtain⟨k,l,hk,_⟩:=h3 x (aT ..);simp at hk
  subst this;rw[List.append_nil]at h1 |-;rw[ab aa];exact List.mem_singleton.2 rfl
 |l::L,j,F,G=>by
  rw[itR];constructor
  ·intro h;split at h
   ·cases h
   rename_i hb
   rcases List.mem_append.1 h with h|h
   ·obtain⟨E,e,h1,h2,h3⟩:=(kH v B L (j+1) F G).1 h;exact⟨E,e,h1,h2,λx hx=>(h3 x hx).up⟩
   split at h
   ·cases h
   obtain⟨s,hs,h⟩:=List.mem_flatMap.1 h;obtain⟨E,e,h1,h2,h3⟩:=(kH v B L (j+1) _ G).1 h;refine⟨((j:Int),v.getD j 0,s.1,s.2)::E,by rw[e,bL];rfl,h1,List.pairwise_cons.2 ⟨λx hx=>?_,h2⟩,λx hx=>?_⟩
   ·have:=(h3 x hx).ge;show(j:Int)<x.1;omega
   rcases List.mem_cons.1 hx with rfl|hx
   ·exact⟨0,l,rfl,rfl,rfl,hs⟩
   exact(h3 x hx).up
  rintro⟨E,rfl,h1,h2,h3⟩;have hb:¬B<F.length:=by rw[aI]at h1;omega
  rw[ab hb];cases E with
  |nil=>exact dC _ ((kH v B L (j+1) F _).2 ⟨[],rfl,h1,h2,λ_ h=>absurd h List.not_mem_nil⟩)
  |cons x E=>
   obtain⟨a1,a2⟩:=List.pairwise_cons.1 h2;have hE:∀y∈E,qC v (j+1) L y:=λy hy=>by
    obtain⟨k,m,b1,b2,b3,b4⟩:=h3 y (aR _ hy);have B0:=a1 y hy;have hge:=(h3 x (aT ..)).ge;cases k with
    |zero=>omega
    |succ k=>have e:j+(k+1)=j+1+k:=aa;exact⟨k,m,b1,by rw[b2,e],by rw[b3,e],b4⟩
   obtain⟨k,m,b1,b2,b3,b4⟩:=h3 x (aT ..);cases k with
   |zero=>
    cases b1
    refine du _ ?_;rw[ab (by rw[aI,List.length_cons]at h1;omega)];refine List.mem_flatMap.2 ⟨(x.2.2.1,x.2.2.2),b4,(kH v B L (j+1) _ _).2 ⟨E,?_,h1,a2,hE⟩⟩;obtain⟨x1,x2,x3,x4⟩:=x;have b2:x1=(j:Int):=b2;have b3:x2=v.getD j 0:=b3;rw[b2,b3,bL];rfl
   |succ k=>
    refine dC _ ((kH v B L (j+1) F _).2 ⟨x::E,rfl,h1,h2,λy hy=>?_⟩);rcases List.mem_cons.1 hy with rfl|hy
    ·have e:j+(k+1)=j+1+k:=aa;exact⟨k,m,b1,by rw[b2,e],by rw[b3,e],b4⟩
    exact hE y hy
theorem Ew(v:List Int)(B:Nat):∀(L:List (List (Int×Int)))(j:Nat)(F:List Fx),(∀l∈L,l.Nodup)->(itR v B j L F).Nodup
 |[],j,F,_=>by
  rw[itR];split
  ·exact List.nodup_nil
  exact List.nodup_cons.2 ⟨List.not_mem_nil,List.nodup_nil⟩
 |l::L,j,F,hL=>by
  have ih:=λF=>Ew v B L (j+1) F λm hm=>hL m (aR _ hm);rw[itR];split
  ·exact List.nodup_nil
  refine List.nodup_append.2 ⟨ih F,?_,λG hG G' hG'=>?_⟩
  ·split
   ·exact List.nodup_nil
   refine List.pairwise_flatMap.2 ⟨λs _=>ih _,(hL l (aT ..)).imp λ{s s'}hs G hG G' hG' e=>?_⟩;obtain⟨E,e1,_⟩:=(kH v B L (j+1) _ G).1 hG;obtain⟨E',e2,_⟩:=(kH v B L (j+1) _ G').1 hG';rw[e1,e2,bL,bL]at e;have h1:=(List.append_cancel_left e);have h2:=(lH h1).1;exact hs (Prod.ext (congrArg (λx:Fx=>x.2.2.1) h2) (congrArg (λx:Fx=>x.2.2.2) h2))
  intro e;split at hG'
  ·cases hG'
  obtain⟨s,_,h⟩:=List.mem_flatMap.1 hG';obtain⟨E,e1,_,_,h3⟩:=(kH v B L (j+1) _ G).1 hG;obtain⟨E',e2,_⟩:=(kH v B L (j+1) _ G').1 h;rw[e1,e2,bL]at e;have h1:=List.append_cancel_left e;have:=(h3 ((j:Int),v.getD j 0,s.1,s.2) (by rw[h1];exact aT ..)).ge;have:((j+1:Nat):Int)<=(j:Int):=this;omega
variable{v:List Int}{lr:List Rl}{K:Int->Int->Int}
structure LOk(v:List Int)(lr:List Rl)(K:Int->Int->Int)(L:List (List (Int×Int))):Prop where
 len:L.length=v.length
 nd:∀l∈L,l.Nodup
 mem:∀(j:Nat)(l:List (Int×Int)),L[j]?=some l->∀s,s∈l↔(∃r∈lr,((j:Nat):Int)∈r.2)/\s.2=K j s.1/\s.2≠0
def sM{L:List (List (Int×Int))}(h:LOk v lr K L){x:Fx}:qC v 0 L x↔SE v lr K x:=by
 constructor
 ·rintro⟨k,l,h1,h2,h3,h4⟩;rw[Nat.zero_add]at h2 h3;have hk:=(List.getElem?_eq_some_iff.1 h1).1;rw[h.len]at hk;obtain⟨a,b,c⟩:=(h.mem k l h1 _).1 h4;have e:x.1.toNat=k:=aa;exact⟨aa,by rw[h3,e],by rw[h2];exact b,c,by rw[h2];exact a⟩
 rintro⟨h1,h2,h3,h4,h5⟩;have hk:x.1.toNat<L.length:=by rw[h.len];omega
 have e:((x.1.toNat:Nat):Int)=x.1:=aa;refine⟨x.1.toNat,_,aA hk,by rw[Nat.zero_add,e],by rw[Nat.zero_add];exact h2,(h.mem x.1.toNat _ (aA hk) _).2 ⟨by rw[e];exact h5,by rw[e];exact h3,h4⟩⟩
def sX{L:List (List (Int×Int))}(h:LOk v lr K L){B:Nat}{G:List Fx}:G∈itR v B 0 L []↔cN v lr K G/\qz G/\G.length<=B:=by
 rw[kH];constructor
 ·rintro⟨E,e,h1,h2,h3⟩;rw[iz]at e;subst e;refine⟨⟨λx hx=>(sM h).1 (h3 x hx),?_⟩,h2,h1⟩;refine tD (λ{x y}hx hy hxy e=>?_) h2;have:=((sM h).1 (h3 x hx)).1;have:=((sM h).1 (h3 y hy)).1;omega
 rintro⟨h1,h2,h3⟩;exact⟨G,(iz _).symm,h3,h2,λx hx=>(sM h).2 (h1.ok x hx)⟩
def xK(v:List Int)(lr:List Rl)(K:Int->Int->Int)(B:Nat)(F:List Fx):Option (List Fx):=(dX v K (aY v F) lr).bind λT=>if F.length+cT T=B then some (T.foldl fY F)else none
def zP{B:Nat}{F f:List Fx}:xK v lr K B F=some f↔∃T,dX v K (aY v F) lr=some T/\F.length+cT T=B/\f=T.foldl fY F:=by
 unfold xK;cases h:dX v K (aY v F) lr with
 |none=>exact⟨λh=>(by cases h),λ⟨T,h,_⟩=>(by cases h)⟩
 |some T=>
  show(if F.length+cT T=B then some (T.foldl fY F)else none)=some f↔_;by_cases hc:F.length+cT T=B
  ·rw[ad hc];exact⟨λh=>⟨T,rfl,hc,(eh h).symm⟩,λ⟨T',h1,_,h3⟩=>by cases h1;rw[h3]⟩
  rw[ab hc];exact⟨λh=>(by cases h),λ⟨T',h1,h2,_⟩=>by cases h1;exact absurd h2 hc⟩
def Sa(v:List Int)(lr:List Rl)(K:Int->Int->Int)(L:List (List (Int×Int)))(B:Nat):List (List Fx):=(itR v B 0 L []).filterMap (xK v lr K B)
def Wq(E0:gI v lr K){L:List (List (Int×Int))}(h:LOk v lr K L){B:Nat}{f:List Fx}:f∈Sa v lr K L B↔Sol v lr K B f:=by
 unfold Sa;rw[List.mem_filterMap];constructor
 ·rintro⟨F,hF,hs⟩;obtain⟨h1,h2,_⟩:=(sX h).1 hF;obtain⟨T,t1,t2,rfl⟩:=zP.1 hs;rw[<-t2];exact Sol.of E0 h1 t1 h2
 intro hs;obtain⟨I,T,h1,h2,h3,h4,h5⟩:=hs.asc E0;exact⟨I,(sX h).2 ⟨h1,h2,aa⟩,zP.2 ⟨T,h3,h4,h5⟩⟩
def FB(E0:gI v lr K){F T f:List Fx}(h1:cN v lr K F)(h2:qz F)(h3:dX v K (aY v F) lr=some T)(h4:f=T.foldl fY F):f.filter (λx=>!(lr.any λr=>r.1==x.1))=F:=by
 obtain⟨p,q⟩:=Ek T F (λx hx y hy=>wP E0 h1 h3 x hx y hy) (HD E0 h3) h2;rw[<-h4]at p q;have e:(F++T).filter (λx=>!(lr.any λr=>r.1==x.1))=F:=by
  rw[xa];have e1:F.filter (λx=>!(lr.any λr=>r.1==x.1))=F:=List.filter_eq_self.2 λx hx=>by rw[tG,xb];intro r hr e;obtain⟨_,_,_,_,s,hs,hm⟩:=h1.ok x hx;rw[jr]at e;exact E0.tp r hr s hs (by rw[e];exact hm)
  have e2:T.filter (λx=>!(lr.any λr=>r.1==x.1))=[]:=List.filter_eq_nil_iff.2 λx hx=>by obtain⟨⟨r,hr,e⟩,_⟩:=wO lr T h3 x hx;rw[tG,HR,List.any_eq_true];exact⟨r,hr,by rw[e];exact dk _⟩
  rw[e1,e2,List.append_nil]
 refine zg (q.sublist List.filter_sublist) h2 ?_;have:=p.filter (λx=>!(lr.any λr=>r.1==x.1));rwa [e]at this
def MZ(E0:gI v lr K){L:List (List (Int×Int))}(h:LOk v lr K L){B:Nat}:(Sa v lr K L B).Nodup:=by unfold Sa;refine List.pairwise_filterMap.2 (tD (λ{F F'}hF hF' Q0 f hf f' B9 e=>Q0 ?_) (Ew v B L 0 [] h.nd));obtain⟨T,t1,t2,t3⟩:=zP.1 hf;obtain⟨T',u1,u2,u3⟩:=zP.1 B9;obtain⟨a1,a2,_⟩:=(sX h).1 hF;obtain⟨b1,b2,_⟩:=(sX h).1 hF';rw[<-FB E0 a1 a2 t1 t3,<-FB E0 b1 b2 u1 u3,e]
def MB{α:Type}{l k:List α}(hl:l.Nodup)(hs:∀x∈l,x∈k)(hlen:k.length<=l.length){x:α}(hx:x∈k):x∈l:=fL λhn=>by have:=sD (l₁:=x::l) (l₂:=k) (List.nodup_cons.2 ⟨hn,hl⟩) λy hy=>(List.mem_cons.1 hy).elim (λe=>by rw[e];exact hx) (hs y);rw[List.length_cons]at this;omega
def ZF{R found out:List (List Fx)}{S:List Fx->Prop}{limit:Nat}(hR:R.Nodup)(D_:∀f,f∈R↔S f)(hf:xh found)(hfs:∀f∈found,S f)(hfc:(∀f,S f->f∈found)\/limit<found.length)(ho:xh out)(hos:∀f∈out,f∈R)(hoc:R.length<=out.length\/limit<out.length):
  (found.length<=limit/\out=found)\/(limit<found.length/\limit<out.length):=by
 have l1:found.length<=R.length:=sD hf.nodup λf h=>(D_ f).2 (hfs f h);have l2:out.length<=R.length:=sD ho.nodup λf h=>hos f h;rcases cL limit found.length with h|h
 ·exact .inr ⟨h,aa⟩
 left;have hfc:=hfc.resolve_right aa;have l3:R.length<=found.length:=sD hR λf h=>hfc f ((D_ f).1 h);have l4:R.length<=out.length:=aa;refine⟨h,WX ho hf λf=>⟨λh=>hfc f ((D_ f).1 (hos f h)),λh=>MB ho.nodup hos l4 ((D_ f).2 (hfs f h))⟩⟩
def sumN{α:Type}(w:α->Nat):List α->Nat
 |[]=>0
 |x::l=>w x+sumN w l
variable{v:List Int}{lr:List Rl}{K:Int->Int->Int}
open Classical in
def YR(E0:gI v lr K){c:Nat}(h:∀c' f,Sol v lr K c' f->c<=c'):LD v lr K c:=λI T h1 h2=>by obtain⟨a,b⟩:=Ek I [] (λ_ _ _ hy=>absurd hy List.not_mem_nil) (Wl (λx hx=>(h1.ok x hx).1.1) h1.pw) List.Pairwise.nil;rw[iz]at a;have e:aY v I=aY v (I.foldl fY []):=tk a.symm h1.pw;have:=h _ _ (Sol.of E0 (h1.perm a.symm) (by rw[<-e];exact h2) b);rwa [a.length_eq]at this
end Go.Proofs.YtgepceljhelekaaGreat
end
