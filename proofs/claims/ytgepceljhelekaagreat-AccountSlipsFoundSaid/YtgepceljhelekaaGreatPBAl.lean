/- A part of the proof. -/
import Derived.Test.YtgepceljhelekaaGreatPBAk
import Derived.Sort.LotD5
import Derived.Sort.LotC
import Derived.Sort.LotA
import Derived.Sort.LotB
import Derived.Sort.LotD3
set_option maxRecDepth 100000
set_option maxHeartbeats 64000000
set_option linter.all false
open Go.Proofs.Tryz (prog)
noncomputable section
namespace Go.Proofs.YtgepceljhelekaaGreat
open Go Go.Eng
namespace Sv
def zN:aq prog 117=true:=ae
section
variable{α:Type}[Inhabited α]{c:α->List AC}{cf:α->α->Int}{cl N:Nat}
theorem Fs(hm:Cmp c cf cl N)(H:Hp)(id gen n:Nat)(d:Array α)(a b:Nat)(hs:Srt c H id gen n d)(hN:N<=H.nx)(A6:a<=b)(hb:b<=n)(hn:n<=1099511627776):
  Con E2 117 [.one (.o (.sl id gen 0 n 3)),.one (.i .i64 a),.one (.i .i64 b),.one (.o (.clo cl []))] H (λk=>k=id) λr H'=>r=.tup []/\Srt c H' id gen n (Go.Sort.insertionSort (ltF cf) d a b):=by
 have hbd:=hm.bd;refine Con.iM (λH=>Srt c H id gen n d) hs (λH=>N<=H.nx) hN λH hs hN=>?_;refine C1.nk 53 [] Tryz.func117 λtm h0 h1 h2 h3=>?_;unfold Go.Sort.insertionSort;generalize E0:Go.Sort.insOuter (ltF cf) a b (a+1) d=R;have fin:∀(A:ag)(H3:Hp)(dc:Array α),A.dfr=[]->Fr (λk=>k=id) H H3->Srt c H3 id gen n dc->dc=R->∃w H4,aH E2 [] (.normal,A,H3)=.ok [(w,H4)]/\Fr (λk=>k=id) H H4/\∀lg':List Nat,w=.tup []/\Srt c ⟨H4.t,H4.nx,lg'⟩ id gen n R:=λA H3 dc h1 h2 h3 h4=>⟨_,H3,bp (.inl rfl) h1,h2,λ_=>⟨rfl,by rw[<-h4];exact h3⟩⟩;have hid:=hs.lt;have I4:=bw a;replace E0:=ah E0;refine zW tyS ?_;refine R1.cR λK k1 k2 k3 k4=>?_;refine R1.loop (λz A H3=>∃(i:Nat)(dc:Array α),z=b-i/\a+1<=i/\i<=n+1/\Fr (λk=>k=id) H H3/\Srt c H3 id gen n dc/\Hd (Go.Sort.insOuter (ltF cf) a b i dc=R)/\cZ A id gen n a (eJ A b (slot A.tm 3=.one (.o (.clo cl []))/\fI A i (A.nt=53/\A.dfr=[])))) ?_ (b-(a+1))
  ⟨a+1,d,rfl,ai _,aa,Fr.refl _,hs,E0,zL⟩
 clear h0 h1 h2 h3 tm hs E0 hid I4 k3;rintro z A H3 ⟨i,dc,rfl,hia,X1,f3,hs,hr,t0,t1,t2,t3,t8,A0,B0⟩;have hid:=hs.lt;refine zW tyS ?_;refine zI tyS (λhc'=>?_) (λhc'=>?_)
 ·have hib:i<b:=aa;have C0:=hr.out;rw[Go.Sort.insOuter,ad hib]at C0;clear hr;replace C0:=ah C0;have Z7:=bw i;refine zW tyS ?_;refine R1.ed λK2 q1 q2 q3 q4=>?_;refine zW tyS ?_;refine R1.cR λK3 p1 p2 p3 p4=>?_;refine R1.loop (λz A H4=>∃(j:Nat)(dj:Array α),z=j/\j<=i/\Fr (λk=>k=id) H H4/\Srt c H4 id gen n dj/\Hd (Go.Sort.insOuter (ltF cf) a b (i+1) (Go.Sort.insInner (ltF cf) a j dj)=R)/\cZ A id gen n a (eJ A b (slot A.tm 3=.one (.o (.clo cl []))/\fI A i (pz A j (A.nt=53/\A.dfr=[]))))) ?_ i
   ⟨i,dc,rfl,ai _,f3,hs,C0,zL⟩
  clear t0 t1 t2 t3 t8 A0 B0 A C0 hs hid f3 p3 q3;rintro j A H4 ⟨_,dj,rfl,hji,f4,hs,hr,t0,t1,t2,t3,t8,t9,A0,B0⟩;have hid:=hs.lt;by_cases hja:a<j
  ·obtain⟨j,rfl⟩:∃k,j=k+1:=⟨j-1,aa⟩;have hja':(a:Int)<((j+1:Nat):Int):=aa;have hwj:IntKind.i64.wrap (((j+1:Nat):Int)-1)=(j:Int):=by rw[aI aa aa];omega
   obtain⟨lo,Y1,hg⟩:=hs.row;have K0:=hs.sz;have hj1:j+1<n:=aa;have hj0:j<n:=aa;have lv:=hm.ltH (aD hN f4.nx);have W0:=hm.len;replace K0:=ah K0;refine zG (zDe tyS (ixC hj1) (ixC hj0) (rdQ hm.len (d:=dj) (i:=j+1) (j:=j) (by have:=K0.out;omega) (by have:=K0.out;omega))) λK hK=>?_;refine WE.con (hm.con H4 dj[j+1]! dj[j]! (aD hN f4.nx)) λw' H5 g5 hq=>?_;subst hq;obtain⟨hg,hid⟩:=bq g5 hid hg;have lv:=hm.ltH (aD hN (aD f4.nx g5.nx));have f5:=f4.then g5 λ_ h=>h.elim;have L0:=hr.out;rw[Go.Sort.insInner]at L0;by_cases V3:cf dj[j+1]! dj[j]!<0
   ·have Z2:(decide (j+1>a)&&ltF cf dj[j+1]! dj[j]!)=true:=by rw[aL (by omega:j+1>a)];exact aL V3
    rw[ad Z2]at L0;clear hr Z2;replace L0:=ah L0;refine zK tyS ?_;refine R1.ed λK4 u1 u2 u3 u4=>?_;refine zW (zDe tyS (ixC hj1) (ixC hj0) (swQ hm.len (d:=dj) (i:=j+1) (j:=j) (by have:=K0.out;omega) (by have:=K0.out;omega))) ?_;apply u1.out;refine zW tyS ?_;exact⟨j,aZ _,j,Go.Sort.swp dj (j+1) j,rfl,aa,(f5.mod _ (.inr rfl)).mod _ (.inr rfl),⟨by rw[swp_size];exact K0.out,⟨gen,ai _,ao rfl⟩,hid⟩,L0,zL⟩
   have Z2:(decide (j+1>a)&&ltF cf dj[j+1]! dj[j]!)=false:=by rw[aL (by omega:j+1>a)];exact aV V3
   rw[ab (by rw[Z2];decide)]at L0;clear hr Z2;replace L0:=ah L0;refine zK tyS ?_;apply p2.out;apply q1.out;refine zW tyS ?_;exact⟨b-(i+1),aa,i+1,dj,rfl,aa,aa,f5,⟨K0.out,⟨lo,Y1,hg⟩,hid⟩,L0,zL⟩
  have hja':¬(a:Int)<(j:Int):=aa;have L0:=hr.out;have X1:Go.Sort.insInner (ltF cf) a j dj=dj:=by
   cases j with
   |zero=>rfl
   |succ j=>rw[Go.Sort.insInner,aV (by omega:¬j+1>a),Bool.false_and,ab aE]
  rw[X1]at L0;clear hr X1;replace L0:=ah L0;refine zW tyS ?_;apply p2.out;apply q1.out;refine zW tyS ?_;exact⟨b-(i+1),aa,i+1,dj,rfl,aa,aa,f4,hs,L0,zL⟩
 have hib:¬i<b:=aa;have C0:=hr.out;rw[Go.Sort.insOuter,ab hib]at C0;refine zW tyS ?_;apply k2.out;exact fin _ _ _ qe f3 hs C0
end
end Sv
open Go Go.Eng
namespace Sv
def uC:aq prog 157=true:=ae
def Nh:aq prog 118=true:=ae
section
variable{α:Type}[Inhabited α]{c:α->List AC}{cf:α->α->Int}{cl N:Nat}
theorem rE(hm:Cmp c cf cl N)(H:Hp)(id gen n:Nat)(d:Array α)(root hi first:Nat)(hs:Srt c H id gen n d)(hN:N<=H.nx)(hf:first+hi<=n)(hr:root<=n)(hn:n<=1099511627776):
  Con E2 157 [.one (.o (.sl id gen 0 n 3)),.one (.i .i64 root),.one (.i .i64 hi),.one (.i .i64 first),.one (.o (.clo cl []))] H (λk=>k=id) λr H'=>r=.tup []/\Srt c H' id gen n (Go.Sort.siftDown (ltF cf) hi first root d):=by
 have hbd:=hm.bd;refine Con.iM (λH=>Srt c H id gen n d) hs (λH=>N<=H.nx) hN λH hs hN=>?_;refine C1.EP 82 [] Tryz.func157 λtm h0 h1 h2 h3 h4=>?_;generalize E0:Go.Sort.siftDown (ltF cf) hi first root d=R;have fin:∀(e:ax)(A:ag)(H3:Hp)(dc:Array α),(e=.normal\/e=.ret)->A.dfr=[]->Fr (λk=>k=id) H H3->Srt c H3 id gen n dc->dc=R->∃w H4,aH E2 [] (e,A,H3)=.ok [(w,H4)]/\Fr (λk=>k=id) H H4/\∀lg':List Nat,w=.tup []/\Srt c ⟨H4.t,H4.nx,lg'⟩ id gen n R:=λe A H3 dc he h1 h2 h3 h4=>⟨_,H3,bp he h1,h2,λ_=>⟨rfl,by rw[<-h4];exact h3⟩⟩;have hid:=hs.lt;replace E0:=ah E0;refine zW tyS ?_;refine R1.cR λK k1 k2 k3 k4=>?_;refine R1.loop (λz A H3=>∃(ro:Nat)(dc:Array α),z=n+1-ro/\ro<=n/\Fr (λk=>k=id) H H3/\Srt c H3 id gen n dc/\Hd (Go.Sort.siftDown (ltF cf) hi first ro dc=R)/\slot A.tm 0=.one (.o (.sl id gen 0 n 3))/\eJ A hi (dw A first (kO A 4 10 (.o (.clo cl [])) (.i .i64 (ro:Int)) 82 []))) ?_ (n+1-root)
  ⟨root,d,rfl,hr,Fr.refl _,hs,E0,zL⟩
 clear h0 h1 h2 h3 h4 tm hs E0 hid k3;rintro z A H3 ⟨ro,dc,rfl,hro,f3,hs,hr,t0,t2,t3,t4,t10,A0,B0⟩;have hid:=hs.lt;have K0:=hs.sz;obtain⟨lo,Y1,hg⟩:=hs.row;replace K0:=ah K0;have hwa:IntKind.i64.wrap (2*(ro:Int))=((2*ro:Nat):Int):=by rw[aI aa aa];omega
 have hwb:IntKind.i64.wrap (((2*ro:Nat):Int)+1)=((2*ro+1:Nat):Int):=by rw[aI aa aa];omega
 have C0:=hr.out;rw[Go.Sort.siftDown]at C0;refine R1.cR λK2 q1 q2 q3 q4=>?_;by_cases hch:hi<=2*ro+1
 ·rw[dif_pos hch]at C0;have U4:(hi:Int)<=((2*ro+1:Nat):Int):=aa;replace C0:=ah C0;clear hr;refine zW tyS ?_;refine q3.out _ _ _ aE ?_;apply k2.out;exact fin _ _ _ _ (.inl rfl) qe f3 hs C0.out
 rw[dif_neg hch]at C0;have U4:¬(hi:Int)<=((2*ro+1:Nat):Int):=aa;clear hr;replace C0:=ah C0;refine zW tyS ?_;have lv:=hm.ltH (aD hN f3.nx);have W0:=hm.len;have hwc:IntKind.i64.wrap (((2*ro+1:Nat):Int)+1)=((2*ro+2:Nat):Int):=by rw[aI aa aa];omega
 have hwd:IntKind.i64.wrap ((first:Int)+((2*ro+1:Nat):Int))=((first+(2*ro+1):Nat):Int):=by rw[aI aa aa];omega
 have hwe:IntKind.i64.wrap (((first+(2*ro+1):Nat):Int)+1)=((first+(2*ro+1)+1:Nat):Int):=by rw[aI aa aa];omega
 repeat refine R1.aM ?_
 refine R1.s_h ae λK3 L7=>?_;have tail:Hd (∀(bb:Bool)(A:ag)(H4:Hp),Fr (λk=>k=id) H H4->Srt c H4 id gen n dc->(bb=true->2*ro+2<hi)->Hd ((if bb=true then(if(!ltF cf dc[first+ro]! dc[first+(2*ro+2)]!)=true then dc else if 2*ro+2<hi then Go.Sort.siftDown (ltF cf) hi first (2*ro+2) (Go.Sort.swp dc (first+ro) (first+(2*ro+2)))else dc)else(if(!ltF cf dc[first+ro]! dc[first+(2*ro+1)]!)=true then dc else Go.Sort.siftDown (ltF cf) hi first (2*ro+1) (Go.Sort.swp dc (first+ro) (first+(2*ro+1)))))=R)->ko A.tm 40 0 (.b bb) (.o (.sl id gen 0 n 3)) (eJ A hi (dw A first (slot A.tm 4=.one (.o (.clo cl []))/\jc A ro (2*ro+1:Nat) (A.nt=82/\A.dfr=[]))))->K3 A H4):=by
  clear t0 t2 t3 t4 t10 A0 B0 A hs hg hid C0 f3 lv Y1 hwd hwe U4;rintro bb A H4 f4 hs u7 hr ⟨t40,t0,t2,t3,t4,t10,t11,A0,B0⟩;apply L7.out;refine R1.eV (λB H5=>∃ch:Nat,ro<ch/\ch<hi/\H4=H5/\Hd ((if(!ltF cf dc[first+ro]! dc[first+ch]!)=true then dc else Go.Sort.siftDown (ltF cf) hi first ch (Go.Sort.swp dc (first+ro) (first+ch)))=R)/\slot B.tm 0=.one (.o (.sl id gen 0 n 3))/\eJ B hi (dw B first (slot B.tm 4=.one (.o (.clo cl []))/\jc B ro ch (B.nt=82/\B.dfr=[])))) (λK4 m1 m2 m3=>?_) ?_
  ·cases bb with
   |true=>have h2:=u7 rfl;have C0:=hr.out;rw[ad rfl,ad h2]at C0;clear hr hs u7;replace C0:=ah C0;refine zW tyS ?_;apply m1.out;exact⟨2*ro+2,aa,h2,rfl,C0,zL⟩
   |false=>have C0:=hr.out;rw[ab aE]at C0;clear hr hs u7;replace C0:=ah C0;refine zW tyS ?_;apply m1.out;exact⟨2*ro+1,aa,aa,rfl,C0,zL⟩
  clear t0 t2 t3 t4 t10 t11 t40 A0 B0 A hr u7 bb hwa hwb hwc hch;rintro A _ ⟨ch,hrc,hch,rfl,hr,t0,t2,t3,t4,t10,t11,A0,B0⟩;have hid:=hs.lt;obtain⟨lo,Y1,hg⟩:=hs.row;have lv:=hm.ltH (aD hN f4.nx);have I4:IntKind.i64.wrap ((first:Int)+(ro:Int))=((first+ro:Nat):Int):=by rw[aI aa aa];omega
  have N2:IntKind.i64.wrap ((first:Int)+(ch:Int))=((first+ch:Nat):Int):=by rw[aI aa aa];omega
  have b1:first+ro<n:=aa;have b2:first+ch<n:=aa;have d1:first+ro<dc.size:=by have:=K0.out;omega
  have d2:first+ch<dc.size:=by have:=K0.out;omega
  replace d1:=ah d1;replace d2:=ah d2;refine zG (zDe tyS (ixC b1) (ixC b2) (rdQ hm.len d1.out d2.out)) λK hK=>?_;refine WE.con (hm.con H4 dc[first+ro]! dc[first+ch]! (aD hN f4.nx)) λw' H5 g5 hq=>?_;subst hq;have Q1:=hs.fr g5 aF;obtain⟨hg,hid⟩:=bq g5 hid hg;have lv:=hm.ltH (aD hN (aD f4.nx g5.nx));have f5:=f4.then g5 λ_ h=>h.elim;have C0:=hr.out;clear hr hs f4 g5;by_cases V3:cf dc[first+ro]! dc[first+ch]!<0
  ·have Z2:(!ltF cf dc[first+ro]! dc[first+ch]!)=false:=by unfold ltF;rw[aL V3];rfl
   rw[Z2,ab aE]at C0;clear Z2 Q1;replace C0:=ah C0;refine zK (zDe tyS (ixC b1) (ixC b2) (swQ hm.len d1.out d2.out)) ?_;apply q1.out;exact⟨n+1-ch,aa,ch,Go.Sort.swp dc (first+ro) (first+ch),rfl,aa,(f5.mod _ (.inr rfl)).mod _ (.inr rfl),⟨by rw[swp_size];exact K0.out,⟨gen,ai _,ao rfl⟩,hid⟩,C0,zL⟩
  have Z2:(!ltF cf dc[first+ro]! dc[first+ch]!)=true:=by unfold ltF;rw[aV V3];rfl
  rw[Z2,ad rfl]at C0;clear Z2;replace C0:=ah C0;replace Q1:=ah Q1;refine zK tyS ?_;refine q4.out _ _ (k4.out _ _ ?_);exact fin _ _ _ _ (.inr rfl) qe f5 Q1.out C0.out
 by_cases h2:2*ro+2<hi
 ·have h2i:((2*ro+2:Nat):Int)<(hi:Int):=aa;have b1:first+(2*ro+1)<n:=aa;have b2:first+(2*ro+1)+1<n:=aa;have d1:first+(2*ro+1)<dc.size:=by have:=K0.out;omega
  have d2:first+(2*ro+1)+1<dc.size:=by have:=K0.out;omega
  replace d1:=ah d1;replace d2:=ah d2;refine zS (zDe tyS (ixC b1) (ixC b2) (rdQ hm.len d1.out d2.out)) ?_;refine WE.con (hm.con H3 dc[first+(2*ro+1)]! dc[first+(2*ro+1)+1]! (aD hN f3.nx)) λw' H5 g5 hq=>?_;subst hq;have Q1:=hs.fr g5 aF;have f5:=f3.then g5 λ_ h=>h.elim;have O0:=C0.out;have e0:(decide (2*ro+1+1<hi)&&ltF cf dc[first+(2*ro+1)]! dc[first+(2*ro+1)+1]!)=decide (cf dc[first+(2*ro+1)]! dc[first+(2*ro+1)+1]!<0):=by rw[aL (by omega:2*ro+1+1<hi)];rfl
  rw[e0]at O0;clear C0 e0 hs g5;replace O0:=ah O0;replace Q1:=ah Q1;replace f5:=ah f5;refine zS tyS ?_;exact tail.out (decide (cf dc[first+(2*ro+1)]! dc[first+(2*ro+1)+1]!<0)) _ _ f5.out Q1.out (λ_=>h2) O0 zL
 have h2i:¬((2*ro+2:Nat):Int)<(hi:Int):=aa;have O0:=C0.out;rw[aV (by omega:¬2*ro+1+1<hi),Bool.false_and]at O0;clear C0;replace O0:=ah O0;refine zS tyS ?_;exact tail.out false _ _ f3 hs (λh=>by cases h) O0 zL
theorem Ix(hm:Cmp c cf cl N)(H:Hp)(id gen n:Nat)(d:Array α)(a b:Nat)(hs:Srt c H id gen n d)(hN:N<=H.nx)(A6:a<=b)(hb:b<=n)(hn:n<=1099511627776):
  Con E2 118 [.one (.o (.sl id gen 0 n 3)),.one (.i .i64 a),.one (.i .i64 b),.one (.o (.clo cl []))] H (λk=>k=id) λr H'=>r=.tup []/\Srt c H' id gen n (Go.Sort.heapSort (ltF cf) d a b):=by
 have hbd:=hm.bd;refine Con.iM (λH=>Srt c H id gen n d) hs (λH=>N<=H.nx) hN λH hs hN=>?_;refine C1.nk 60 [] Tryz.func118 λtm h0 h1 h2 h3=>?_;unfold Go.Sort.heapSort;generalize E0:Go.Sort.heapPop (ltF cf) a (b-a) (Go.Sort.heapBuild (ltF cf) (b-a) a ((b-a-1)/2+1) d)=R;have fin:∀(e:ax)(A:ag)(H3:Hp)(dc:Array α),(e=.normal\/e=.ret)->A.dfr=[]->Fr (λk=>k=id) H H3->Srt c H3 id gen n dc->dc=R->∃w H4,aH E2 [] (e,A,H3)=.ok [(w,H4)]/\Fr (λk=>k=id) H H4/\∀lg':List Nat,w=.tup []/\Srt c ⟨H4.t,H4.nx,lg'⟩ id gen n R:=λe A H3 dc he h1 h2 h3 h4=>⟨_,H3,bp he h1,h2,λ_=>⟨rfl,by rw[<-h4];exact h3⟩⟩;have hid:=hs.lt;obtain⟨w,hw⟩:∃w,w=b-a:=⟨_,rfl⟩;rw[<-hw]at E0;have hw0:IntKind.i64.wrap ((b:Int)-(a:Int))=(w:Int):=by rw[aI aa aa];omega
 have I4:=bZ ((w:Int)-1);have N2:IntKind.i64.wrap (((w:Int)-1).tdiv 2)=(((w-1)/2:Nat):Int):=by
  rcases rP w with h|h
  ·rw[h];decide
  rw[rQ aa,aI aa aa];omega
 replace E0:=ah E0;replace hw:=ah hw;refine zW (zDd tyS arQ (tS (show(2:Int)≠0 by decide))) ?_;refine R1.ed λK k1 k2 k3 k4=>?_;refine R1.loop (λz A H3=>∃(dc:Array α),z<=(w-1)/2+1/\Fr (λk=>k=id) H H3/\Srt c H3 id gen n dc/\Hd (Go.Sort.heapPop (ltF cf) a w (Go.Sort.heapBuild (ltF cf) w a z dc)=R)/\ko A.tm 0 3 (.o (.sl id gen 0 n 3)) (.o (.clo cl [])) (fI A a (slot A.tm 9=.one (.i .i64 (0:Int))/\jc A w ((z:Int)-1) (A.nt=60/\A.dfr=[])))) ?_ ((w-1)/2+1)
  ⟨d,ai _,Fr.refl _,hs,E0,by rw[show((((w-1)/2+1:Nat):Int)-1)=(((w-1)/2:Nat):Int)from by omega];exact zL⟩
 clear h0 h1 h2 h3 tm hs E0 hid hw0 N2 k3;rintro z A H3 ⟨dc,hz,f3,hs,hr,t0,t3,t8,t9,t10,t11,A0,B0⟩;have hid:=hs.lt;cases z with
 |succ k=>rw[show(((k+1:Nat):Int)-1)=(k:Int)from by omega]at t11;have C4:(0:Int)<=(k:Int):=aa;have hww:=hw.out;have hwk:=bZ ((k:Int)-1);clear hww;refine zW tyS ?_;refine R1.ed λK2 q1 q2 q3 q4=>?_;refine zG (qA tyS uC) λK5 U0=>?_;have hww:=hw.out;refine WE.con (rE hm H3 id gen n dc k w a hs (aD hN f3.nx) aa aa hn) λw' H4 g4⟨hq,O3⟩=>?_;subst hq;have C0:=hr.out;rw[Go.Sort.heapBuild]at C0;clear hr;replace C0:=ah C0;refine zK tyS ?_;apply q1.out;refine zW tyS ?_;exact⟨k,aZ _,Go.Sort.siftDown (ltF cf) w a k dc,aa,f3.then g4 (λ_ h=>.inr h),O3,C0,zL⟩
 |zero=>
  replace t11:slot A.tm 11=.one (.i .i64 (-1)):=t11;have C4:¬(0:Int)<=-1:=aE;have C0:Hd (Go.Sort.heapPop (ltF cf) a w dc=R):=hr;refine zW tyS ?_;apply k2.out;refine zW tyS ?_;refine R1.cR λK2 q1 q2 q3 q4=>?_;refine R1.loop (λz A H3=>∃(dc:Array α),z<=w/\Fr (λk=>k=id) H H3/\Srt c H3 id gen n dc/\Hd (Go.Sort.heapPop (ltF cf) a z dc=R)/\ko A.tm 0 3 (.o (.sl id gen 0 n 3)) (.o (.clo cl [])) (fI A a (slot A.tm 9=.one (.i .i64 (0:Int))/\mX A ((z:Int)-1) (A.nt=60/\A.dfr=[])))) ?_ w
   ⟨dc,ai _,f3,hs,C0,zL⟩
  clear t0 t3 t8 t9 t10 t11 A0 B0 A hs f3 hid hr C0 q3 I4;rintro z A H3 ⟨dc,hz,f3,hs,hr,t0,t3,t8,t9,t12,A0,B0⟩;have hid:=hs.lt;cases z with
  |succ k=>
   rw[show(((k+1:Nat):Int)-1)=(k:Int)from by omega]at t12;have C4:(0:Int)<=(k:Int):=aa;have hww:=hw.out;have hwk:=bZ ((k:Int)-1);have hwa:IntKind.i64.wrap ((a:Int)+(k:Int))=((a+k:Nat):Int):=by rw[aI aa aa];omega
   obtain⟨lo,Y1,hg⟩:=hs.row;have K0:=hs.sz;have lv:=hm.ltH (aD hN f3.nx);have W0:=hm.len;have b1:a<n:=aa;have b2:a+k<n:=aa;have d1:a<dc.size:=aa;have d2:a+k<dc.size:=aa;have E4:=aD hN f3.nx;replace d1:=ah d1;replace d2:=ah d2;replace K0:=ah K0;replace hww:=ah hww;refine zW tyS ?_;refine R1.ed λK3 u1 u2 u3 u4=>?_;refine zW (zDe tyS (ixC b1) (ixC b2) (swQ hm.len d1.out d2.out)) ?_;have f4:Fr (λk=>k=id) H ((H3.mod id (.arr (cm c (dc.setIfInBounds a dc[a+k]!)) 63 gen gen)).mod id (.arr (cm c (Go.Sort.swp dc a (a+k))) 63 gen gen)):=(f3.mod _ (.inr rfl)).mod _ (.inr rfl);have O3:Srt c ((H3.mod id (.arr (cm c (dc.setIfInBounds a dc[a+k]!)) 63 gen gen)).mod id (.arr (cm c (Go.Sort.swp dc a (a+k))) 63 gen gen)) id gen n (Go.Sort.swp dc a (a+k)):=⟨by rw[swp_size];exact K0.out,⟨gen,ai _,ao rfl⟩,hid⟩;clear hg Y1 lo;replace f4:=ah f4;replace O3:=ah O3;refine zG (qA tyS uC) λK5 U0=>?_;refine WE.con (rE hm _ id gen n (Go.Sort.swp dc a (a+k)) 0 k a O3.out E4 (by have:=hww.out;omega) (Nat.zero_le _) hn) λw' H5 g5⟨hq,Q1⟩=>?_;subst hq;have C0:=hr.out;rw[Go.Sort.heapPop]at C0;clear hr;replace C0:=ah C0;refine zK tyS ?_;apply u1.out;refine zW tyS ?_;exact⟨k,aZ _,Go.Sort.siftDown (ltF cf) k a 0 (Go.Sort.swp dc a (a+k)),aa,f4.out.then g5 (λ_ h=>.inr h),Q1,C0,zL⟩
  |zero=>replace t12:slot A.tm 12=.one (.i .i64 (-1)):=t12;have C0:dc=R:=hr;refine zW tyS ?_;apply q2.out;exact fin _ _ _ _ (.inl rfl) qe f3 hs C0
end
end Sv
open Go Go.Eng
namespace Sv
def oz:aq prog 179=true:=ae
def oy:aq prog 161=true:=ae
def ox:aq prog 160=true:=ae
def Ni:aq prog 120=true:=ae
def Ctr(H:Hp)(q k:Nat):Prop:=H.get q=some (.arr [.i .i64 (k:Int)] 3 0 0)/\q<H.nx
section
variable{α:Type}[Inhabited α]{c:α->List AC}{cf:α->α->Int}{cl N:Nat}
theorem lL(hm:Cmp c cf cl N)(H:Hp)(id gen n:Nat)(d:Array α)(a b q k:Nat)(hs:Srt c H id gen n d)(hq:Ctr H q k)(hqi:q≠id)(hN:N<=H.nx)(ha:a<n)(hb:b<n)(hn:n<=1099511627776)(hk:k<=1000):
  Con E2 179 [.one (.o (.sl id gen 0 n 3)),.one (.i .i64 a),.one (.i .i64 b),.one (.o (.ptr q 0 0 1)),.one (.o (.clo cl []))] H (λj=>j=q) λr H'=>r=.tup [(false,[.i .i64 ((Go.Sort.order2 (ltF cf) d a b k).1:Int)]),(false,[.i .i64 ((Go.Sort.order2 (ltF cf) d a b k).2.1:Int)])]/\Ctr H' q (Go.Sort.order2 (ltF cf) d a b k).2.2:=by
 have hbd:=hm.bd;refine Con.Fk (λH=>Srt c H id gen n d) hs (λH=>N<=H.nx) hN (λH=>Ctr H q k) hq λH hs hN hq=>?_;refine C1.EP 32 [.tmp 10,.tmp 11] Tryz.func179 λtm h0 h1 h2 h3 h4=>?_;generalize E0:Go.Sort.order2 (ltF cf) d a b k=R;have fin:∀(A:ag)(H3:Hp)(x y:Nat),slot A.tm 10=.one (.i .i64 (x:Int))->slot A.tm 11=.one (.i .i64 (y:Int))->A.dfr=[]->Fr (λj=>j=q) H H3->Ctr H3 q R.2.2->x=R.1->y=R.2.1->∃w H4,aH E2 [.tmp 10,.tmp 11] (.ret,A,H3)=.ok [(w,H4)]/\Fr (λj=>j=q) H H4/\∀lg':List Nat,w=.tup [(false,[.i .i64 (R.1:Int)]),(false,[.i .i64 (R.2.1:Int)])]/\Ctr ⟨H4.t,H4.nx,lg'⟩ q R.2.2:=λA H3 x y h1 h2 hd h3 h4 h5 h6=>⟨_,H3,bC (.i .i64 x) (.i .i64 y) (.inr rfl) hd h1 h2,h3,λ_=>⟨by rw[h5,h6],h4⟩⟩;have hid:=hs.lt;have K0:=hs.sz;obtain⟨lo,Y1,hg⟩:=hs.row;obtain⟨P6,q6⟩:=hq;have lv:=hm.ltH hN;have W0:=hm.len;have d1:a<d.size:=aa;have d2:b<d.size:=aa;replace E0:=ah E0;replace K0:=ah K0;replace d1:=ah d1;replace d2:=ah d2;refine zW tyS ?_;refine zG (zDe tyS (ixC ha) (ixC hb) (rdQ hm.len d1.out d2.out)) λK hK=>?_;refine WE.con (hm.con H d[b]! d[a]! hN) λw' H5 g5 hq'=>?_;subst hq';obtain⟨hg,hid⟩:=bq g5 hid hg;obtain⟨P6,q6⟩:=bq g5 q6 P6;have f5:Fr (λj=>j=q) H H5:=(Fr.refl _).then g5 λ_ h=>h.elim;have C0:=E0.out;unfold Go.Sort.order2 at C0;by_cases V3:cf d[b]! d[a]!<0
 ·rw[ad (show ltF cf d[b]! d[a]! = true from aL V3)]at C0;have hwk:=bw k;clear E0;replace C0:=ah C0;refine zK tyS ?_;exact fin _ _ b a qp qp qe (f5.mod _ (.inr rfl)) ⟨by rw[<-C0.out];exact ao rfl,q6⟩ (by rw[<-C0.out]) (by rw[<-C0.out])
 rw[ab (by unfold ltF;rw[aV V3];decide)]at C0;clear E0;replace C0:=ah C0;refine zK tyS ?_;exact fin _ _ a b qp qp qe f5 ⟨by rw[<-C0.out];exact P6,q6⟩ (by rw[<-C0.out]) (by rw[<-C0.out])
theorem lK{lt:α->α->Bool}{d:Array α}{a b k n:Nat}(ha:a<n)(hb:b<n):(Go.Sort.order2 lt d a b k).1<n/\(Go.Sort.order2 lt d a b k).2.1<n/\(Go.Sort.order2 lt d a b k).2.2<=k+1:=by
 unfold Go.Sort.order2;split
 ·exact⟨hb,ha,ai _⟩
 exact⟨ha,hb,Nat.le_succ _⟩
theorem lI(hm:Cmp c cf cl N)(H:Hp)(id gen n:Nat)(d:Array α)(a b e q k:Nat)(hs:Srt c H id gen n d)(hq:Ctr H q k)(hqi:q≠id)(hN:N<=H.nx)(ha:a<n)(hb:b<n)(he:e<n)(hn:n<=1099511627776)(hk:k<=100):
  Con E2 161 [.one (.o (.sl id gen 0 n 3)),.one (.i .i64 a),.one (.i .i64 b),.one (.i .i64 e),.one (.o (.ptr q 0 0 1)),.one (.o (.clo cl []))] H (λj=>j=q) λr H'=>r=.one (.i .i64 ((Go.Sort.median (ltF cf) d a b e k).1:Int))/\Ctr H' q (Go.Sort.median (ltF cf) d a b e k).2:=by
 refine Con.Fk (λH=>Srt c H id gen n d) hs (λH=>N<=H.nx) hN (λH=>Ctr H q k) hq λH hs hN hq=>?_;refine C1.aaC 41 [.tmp 12] Tryz.func161 λtm h0 h1 h2 h3 h4 h5=>?_;generalize E0:Go.Sort.median (ltF cf) d a b e k=R;unfold Go.Sort.median at E0;have hid:=hs.lt;have O8:=hq.2;replace E0:=ah E0;refine zW tyS ?_;refine zG (qA tyS oz) λK hK=>?_;refine WE.con (lL hm H id gen n d a b q k hs hq hqi hN ha hb hn aa) λw' H1 g1⟨hw,P6⟩=>?_;subst hw;obtain⟨x1,x2,x3⟩:=@lK α _ (ltF cf) d a b k n ha hb;generalize Go.Sort.order2 (ltF cf) d a b k=r1 at E0 P6 x1 x2 x3 |-;have R4:=hs.fr g1 (λh=>hqi h.symm);have hid1:=R4.lt;have hql1:=P6.2;have hN1:=aD hN g1.nx;refine zK tyS ?_;refine zG (qA tyS oz) λK hK=>?_;refine WE.con (lL hm H1 id gen n d r1.2.1 e q r1.2.2 R4 P6 hqi hN1 x2 he hn aa) λw' H2 g2⟨hw,q6⟩=>?_;subst hw;obtain⟨y1,y2,y3⟩:=@lK α _ (ltF cf) d r1.2.1 e r1.2.2 n x2 he;have C0:(let r3:=Go.Sort.order2 (ltF cf) d r1.1 (Go.Sort.order2 (ltF cf) d r1.2.1 e r1.2.2).1 (Go.Sort.order2 (ltF cf) d r1.2.1 e r1.2.2).2.2;(r3.2.1,r3.2.2))=R:=E0.out;clear E0;generalize Go.Sort.order2 (ltF cf) d r1.2.1 e r1.2.2=r2 at C0 q6 y1 y2 y3 |-;have F2:=R4.fr g2 (λh=>hqi h.symm);have hid2:=F2.lt;have hql2:=q6.2;have hN2:=aD hN1 g2.nx;replace C0:=ah C0;refine zK tyS ?_;refine zG (qA tyS oz) λK hK=>?_;refine WE.con (lL hm H2 id gen n d r1.1 r2.1 q r2.2.2 F2 q6 hqi hN2 x1 y1 hn aa) λw' H3 g3⟨hw,hq3⟩=>?_;subst hw;have O0:=C0.out;clear C0;generalize Go.Sort.order2 (ltF cf) d r1.1 r2.1 r2.2.2=r3 at O0 hq3 |-;replace O0:(r3.2.1,r3.2.2)=R:=O0;replace O0:=ah O0;refine zK tyS ?_;exact⟨_,_,au (.i .i64 (r3.2.1:Int)) (.inr rfl) qe qp,(g1.then g2 λ_ h=>.inr h).then g3 (λ_ h=>.inr h),λ_=>by rw[<-O0.out];exact⟨rfl,hq3⟩⟩
theorem tN{lt:α->α->Bool}{d:Array α}{a b e k n:Nat}(ha:a<n)(hb:b<n)(he:e<n):(Go.Sort.median lt d a b e k).1<n/\(Go.Sort.median lt d a b e k).2<=k+3:=by obtain⟨x1,x2,x3⟩:=@lK α _ lt d a b k n ha hb;obtain⟨y1,y2,y3⟩:=@lK α _ lt d (Go.Sort.order2 lt d a b k).2.1 e (Go.Sort.order2 lt d a b k).2.2 n x2 he;obtain⟨z1,z2,z3⟩:=@lK α _ lt d (Go.Sort.order2 lt d a b k).1 (Go.Sort.order2 lt d (Go.Sort.order2 lt d a b k).2.1 e (Go.Sort.order2 lt d a b k).2.2).1 (Go.Sort.order2 lt d (Go.Sort.order2 lt d a b k).2.1 e (Go.Sort.order2 lt d a b k).2.2).2.2 n x1 y1;exact⟨z2,by unfold Go.Sort.median;show _<=_;dsimp only;omega⟩
theorem lH(hm:Cmp c cf cl N)(H:Hp)(id gen n:Nat)(d:Array α)(a q k:Nat)(hs:Srt c H id gen n d)(hq:Ctr H q k)(hqi:q≠id)(hN:N<=H.nx)(h1:1<=a)(ha:a+1<n)(hn:n<=1099511627776)(hk:k<=100):
  Con E2 160 [.one (.o (.sl id gen 0 n 3)),.one (.i .i64 a),.one (.o (.ptr q 0 0 1)),.one (.o (.clo cl []))] H (λj=>j=q) λr H'=>r=.one (.i .i64 ((Go.Sort.medianAdjacent (ltF cf) d a k).1:Int))/\Ctr H' q (Go.Sort.medianAdjacent (ltF cf) d a k).2:=by
 have h1a:=h1;clear h1;refine Con.Fk (λH=>Srt c H id gen n d) hs (λH=>N<=H.nx) hN (λH=>Ctr H q k) hq λH hs hN hq=>?_;refine C1.nk 18 [.tmp 8] Tryz.func160 λtm h0 h1 h2 h3=>?_;unfold Go.Sort.medianAdjacent;generalize E0:Go.Sort.median (ltF cf) d (a-1) a (a+1) k=R;replace E0:=ah E0;have hid:=hs.lt;have O8:=hq.2;have I4:IntKind.i64.wrap ((a:Int)-1)=((a-1:Nat):Int):=by rw[aI aa aa];omega
 have N2:=bw a;refine zW tyS ?_;refine zG (qA tyS oy) λK hK=>?_;refine WE.con (lI hm H id gen n d (a-1) a (a+1) q k hs hq hqi hN aa aa ha hn hk) λw' H1 g1⟨hw,P6⟩=>?_;subst hw;rw[E0.out]at P6 |-;refine zK tyS ?_;exact⟨_,_,au (.i .i64 (R.1:Int)) (.inr rfl) qe qp,g1,λ_=>⟨rfl,P6⟩⟩
theorem tM{lt:α->α->Bool}{d:Array α}{a k n:Nat}(ha:a+1<n):(Go.Sort.medianAdjacent lt d a k).1<n/\(Go.Sort.medianAdjacent lt d a k).2<=k+3:=tN aa aa ha
def qx:Go.Sort.Hint->Int
 |.unknown=>0
 |.increasing=>1
 |.decreasing=>2
theorem Jy(hm:Cmp c cf cl N)(H:Hp)(id gen n:Nat)(d:Array α)(a b:Nat)(hs:Srt c H id gen n d)(hN:N<=H.nx)(A6:a<b)(hb:b<=n)(hn:n<=1099511627776):
  Con E2 120 [.one (.o (.sl id gen 0 n 3)),.one (.i .i64 a),.one (.i .i64 b),.one (.o (.clo cl []))] H (λ_=>False) λr H'=>r=.tup [(false,[.i .i64 ((Go.Sort.choosePivot (ltF cf) d a b).1:Int)]),(false,[.i .i64 (qx (Go.Sort.choosePivot (ltF cf) d a b).2)])]:=by
 refine Con.iM (λH=>Srt c H id gen n d) hs (λH=>N<=H.nx) hN λH hs hN=>?_;refine C1.nk 63 [.tmp 8,.tmp 9] Tryz.func120 λtm h0 h1 h2 h3=>?_;generalize E0:Go.Sort.choosePivot (ltF cf) d a b=R;unfold Go.Sort.choosePivot at E0;dsimp only at E0
 have fin:∀(A:ag)(H3:Hp)(x:Nat)(y:Int)(h:Go.Sort.Hint),slot A.tm 8=.one (.i .i64 (x:Int))->slot A.tm 9=.one (.i .i64 y)->y=qx h->A.dfr=[]->Gr H H3->(x,h)=R->∃w H4,aH E2 [.tmp 8,.tmp 9] (.ret,A,H3)=.ok [(w,H4)]/\Gr H H4/\∀lg':List Nat,w=.tup [(false,[.i .i64 (R.1:Int)]),(false,[.i .i64 (qx R.2)])]:=λA H3 x y h h1 h2 hy hd h3 h4=>⟨_,H3,bC (.i .i64 x) (.i .i64 y) (.inr rfl) hd h1 h2,h3,λ_=>by rw[<-h4,hy]⟩;have hid:=hs.lt;obtain⟨w,hw⟩:∃w,w=b-a:=⟨_,rfl⟩;have hw0:IntKind.i64.wrap ((b:Int)-(a:Int))=(w:Int):=by rw[aI aa aa];omega
 have hwq:IntKind.i64.wrap ((w:Int).tdiv 4)=((w/4:Nat):Int):=by rw[rQ aa,aI aa aa];omega
 have I4:IntKind.i64.wrap (((w/4:Nat):Int)*1)=((w/4*1:Nat):Int):=by rw[aI aa aa];omega
 have N2:IntKind.i64.wrap (((w/4:Nat):Int)*2)=((w/4*2:Nat):Int):=by rw[aI aa aa];omega
 have j5:IntKind.i64.wrap (((w/4:Nat):Int)*3)=((w/4*3:Nat):Int):=by rw[aI aa aa];omega
 have b8:IntKind.i64.wrap ((a:Int)+((w/4*1:Nat):Int))=((a+w/4*1:Nat):Int):=by rw[aI aa aa];omega
 have O6:IntKind.i64.wrap ((a:Int)+((w/4*2:Nat):Int))=((a+w/4*2:Nat):Int):=by rw[aI aa aa];omega
 have hv3:IntKind.i64.wrap ((a:Int)+((w/4*3:Nat):Int))=((a+w/4*3:Nat):Int):=by rw[aI aa aa];omega
 rw[<-hw]at E0;generalize hi1:a+w/4*1=i1 at E0 b8;generalize I2:a+w/4*2=i2 at E0 O6;generalize hi3:a+w/4*3=i3 at E0 hv3;have c1:i1<n:=aa;have c2:i2<n:=aa;have c3:i3<n:=aa;replace E0:=ah E0;replace hw:=ah hw;replace hi1:=ah hi1;replace I2:=ah I2;replace hi3:=ah hi3;refine zW (zDd tyS arQ (tS (show(4:Int)≠0 by decide))) ?_;have gA:Gr H (H.new (.arr [.i .i64 0] 3 0 0)):=(Fr.refl _).new _;have hsA:Srt c (H.new (.arr [.i .i64 0] 3 0 0)) id gen n d:=hs.fr gA aF;have hqA:Ctr (H.new (.arr [.i .i64 0] 3 0 0)) H.nx 0:=⟨aJ rfl,aZ _⟩;have b6:H.nx≠id:=aa;have hqH:H.nx<=H.nx:=ai _;generalize I7:H.nx=q at hqA b6 |-;replace hqH:H.nx<=q:=aa;refine R1.gen (λA1 H1=>Gr H H1/\Srt c H1 id gen n d/\Ctr H1 q 0/\wy A1.tm 0 3 10 11 (.o (.sl id gen 0 n 3)) (.o (.clo cl [])) (.i .i64 (w:Int)) (.o (.ptr q 0 0 1)) (hY A1 i1 i2 (kO A1 14 34 (.i .i64 (i3:Int)) (.b (decide ((8:Int)<=(w:Int)))) 63 []))) ⟨gA,hsA,hqA,zL⟩ ?_;clear h0 h1 h2 h3 tm hs hid b8 O6 hv3 hw0 I4 N2 j5 hwq gA hsA hqA I7;rintro A H1 ⟨g1,hs,hq,t0,t3,t10,t11,t12,t13,t14,t34,A0,B0⟩;have hN1:=aD hN g1.nx;have hid:=hs.lt;have O8:=hq.2;refine R1.eV (λB H3=>∃x k:Nat,Gr H H3/\Ctr H3 q k/\k<=100/\Hd ((x,if k=0 then Go.Sort.Hint.increasing else if k=12 then Go.Sort.Hint.decreasing else Go.Sort.Hint.unknown)=R)/\kO B 11 13 (.o (.ptr q 0 0 1)) (.i .i64 (x:Int)) 63 []) (λK m1 m2 m3=>?_) ?_
 ·have C0:=E0.out;by_cases h8:8<=w
  ·rw[ad h8]at C0;have h8i:(8:Int)<=(w:Int):=aa;by_cases h50:50<=w
   ·rw[ad h50]at C0;have h50i:(50:Int)<=(w:Int):=aa;have e1:=hi1.out;have e2:=I2.out;have e3:=hi3.out;have ew:=hw.out;have p1:1<=i1/\i1+1<n:=aa;have p2:1<=i2/\i2+1<n:=aa;have p3:1<=i3/\i3+1<n:=aa;clear e1 e2 e3 ew E0;obtain⟨x1,y1⟩:=@tM α _ (ltF cf) d i1 0 n p1.2;have k1:=lH hm H1 id gen n d i1 q 0 hs hq b6 hN1 p1.1 p1.2 hn aa;generalize Go.Sort.medianAdjacent (ltF cf) d i1 0=r1 at C0 x1 y1 k1;replace C0:=ah C0;replace p1:=ah p1;replace p2:=ah p2;replace p3:=ah p3;replace k1:=ah k1;refine zW tyS ?_;refine zG (qA tyS ox) λK5 U0=>?_;refine WE.con k1.out λw' H2 g2⟨Q2,q6⟩=>?_;subst Q2;clear k1;have F2:=hs.fr g2 (λh=>b6 h.symm);have hid2:=F2.lt;have hql2:=q6.2;have hN2:=aD hN1 g2.nx;obtain⟨x2,y2⟩:=@tM α _ (ltF cf) d i2 r1.2 n p2.out.2;have k2:=lH hm H2 id gen n d i2 q r1.2 F2 q6 b6 hN2 p2.out.1 p2.out.2 hn aa;have C0:=C0.out;generalize Go.Sort.medianAdjacent (ltF cf) d i2 r1.2=r2 at C0 x2 y2 k2;replace C0:=ah C0;replace k2:=ah k2;refine zK tyS ?_;refine zG (qA tyS ox) λK5 U0=>?_;refine WE.con k2.out λw' H3 g3⟨Q2,hq3⟩=>?_;subst Q2;clear k2;have hs3:=F2.fr g3 (λh=>b6 h.symm);have hid3:=hs3.lt;have hql3:=hq3.2;have hN3:=aD hN2 g3.nx;obtain⟨x3,y3⟩:=@tM α _ (ltF cf) d i3 r2.2 n p3.out.2;have k3:=lH hm H3 id gen n d i3 q r2.2 hs3 hq3 b6 hN3 p3.out.1 p3.out.2 hn aa;have C0:=C0.out;generalize Go.Sort.medianAdjacent (ltF cf) d i3 r2.2=r3 at C0 x3 y3 k3;replace C0:=ah C0;replace k3:=ah k3;refine zK tyS ?_;refine zG (qA tyS ox) λK5 U0=>?_;refine WE.con k3.out λw' H4 g4⟨Q2,hq4⟩=>?_;subst Q2;clear k3;have O3:=hs3.fr g4 (λh=>b6 h.symm);have P7:=O3.lt;have hql4:=hq4.2;have hN4:=aD hN3 g4.nx;obtain⟨x4,y4⟩:=@tN α _ (ltF cf) d r1.1 r2.1 r3.1 r3.2 n x1 x2 x3;have k4:=lI hm H4 id gen n d r1.1 r2.1 r3.1 q r3.2 O3 hq4 b6 hN4 x1 x2 x3 hn aa;have C0:=C0.out
    generalize Go.Sort.median (ltF cf) d r1.1 r2.1 r3.1 r3.2=r4 at C0 x4 y4 k4;replace C0:=ah C0;replace k4:=ah k4;refine zK tyS ?_;refine zG (qA tyS oy) λK5 U0=>?_;refine WE.con k4.out λw' H5 g5⟨Q2,hq5⟩=>?_;subst Q2;clear k4;refine zK tyS ?_;apply m1.out;exact⟨r4.1,r4.2,g1.then ((((g2.then g3 λ_ h=>.inr h).then g4 λ_ h=>.inr h).then g5 λ_ h=>.inr h)) (λj h=>by subst h;exact .inl hqH),hq5,aa,C0,zL⟩
   rw[ab h50]at C0;have h50i:¬(50:Int)<=(w:Int):=aa;obtain⟨x4,y4⟩:=@tN α _ (ltF cf) d i1 i2 i3 0 n c1 c2 c3;have k4:=lI hm H1 id gen n d i1 i2 i3 q 0 hs hq b6 hN1 c1 c2 c3 hn aa;generalize Go.Sort.median (ltF cf) d i1 i2 i3 0=r4 at C0 x4 y4 k4;clear E0;replace C0:=ah C0;replace k4:=ah k4;refine zW tyS ?_;refine zG (qA tyS oy) λK5 U0=>?_;refine WE.con k4.out λw' H5 g5⟨Q2,hq5⟩=>?_;subst Q2;clear k4;refine zK tyS ?_;apply m1.out;exact⟨r4.1,r4.2,g1.then g5 (λj h=>by subst h;exact .inl hqH),hq5,aa,C0,zL⟩
  rw[ab h8]at C0;have h8i:¬(8:Int)<=(w:Int):=aa;clear E0;replace C0:=ah C0;refine zW tyS ?_;apply m1.out;exact⟨i2,0,g1,hq,aa,C0,zL⟩
 clear t0 t3 t10 t11 t12 t13 t14 t34 A0 B0 A E0 hs hq hid O8 g1 H1 hN1;rintro A H3 ⟨x,k,g3,hq,hk,hr,t11,t13,A0,B0⟩;obtain⟨q1,q2⟩:=hq;have C0:=hr.out;clear hr;by_cases k0:k=0
 ·rw[ad k0]at C0;have kb:((k:Int)==0)=true:=by rw[k0];rfl
  replace C0:=ah C0;replace k0:=ah k0;refine zW tyS ?_;refine R1.cR λK2 u1 u2 u3 u4=>?_;refine zW tyS ?_;apply u4.out;exact fin _ _ x 1 .increasing qp qp rfl qe g3 C0.out
 rw[ab k0]at C0;have kb:((k:Int)==0)=false:=aW aa;replace k0:=ah k0;by_cases k12:k=12
 ·rw[ad k12]at C0;have kc:((k:Int)==12)=true:=by rw[k12];rfl
  replace C0:=ah C0;replace k12:=ah k12;refine zW tyS ?_;refine R1.cR λK2 u1 u2 u3 u4=>?_;refine zW tyS ?_;apply u4.out;exact fin _ _ x 2 .decreasing qp qp rfl qe g3 C0.out
 rw[ab k12]at C0;have kc:((k:Int)==12)=false:=aW aa;replace C0:=ah C0;replace k12:=ah k12;refine zW tyS ?_;refine R1.cR λK2 u1 u2 u3 u4=>?_;refine zW tyS ?_;apply u4.out;exact fin _ _ x 0 .unknown qp qp rfl qe g3 C0.out
end
end Sv
open Go Go.Eng
namespace Sv
def Sq:aq prog 121=true:=ae
def tu:aq prog 71=true:=ae
def zP:aq prog 126=true:=ae
def EO:aq prog 158=true:=ae
def EN:aq prog 159=true:=ae
def Si:aq prog 119=true:=ae
def tyU:=zDm tyS FC Gn GQ EE FB Gm GP ED yz yQ (zDg zq yg Oe MW arQ Wt)
def cvQ{s t:TypeId}{ks kt:IntKind}(hs:prog.underlying s=some (.int ks))(ht:prog.underlying t=some (.int kt)):(∀(tm:PT AV)(H:Hp)(d:Option Tmp)(ty:TypeId)(pos:String)(af:Array Edge)(g:Option (Nat×Bool))(x:Operand),aA prog tm H ⟨d,.convert s t x,ty,pos,af,g⟩=Qh (λ_ a=>.i kt (kt.wrap a)) H (cu prog tm H ⟨d,.convert s t x,ty,pos,af,g⟩) (ev tm x)) /\
  (∀(H:Hp)(alt:aj)(k:IntKind)(a:Int),Qh (λ_ a=>.i kt (kt.wrap a)) H alt (.one (.i k a))=.val (.one (.i kt (kt.wrap a))) H):=⟨λ_ _ _ _ _ _ _ _=>Bm hs ht,λ_ _ _ _=>rfl⟩
def ixS:(∀{st:Bool}{E:Env}{A:ag}{d:Option Tmp}{H:Hp}{next:ag->Hp->Prop}{ty:TypeId}{pos:String}{af:Array Edge}{gd:Option (Nat×Bool)}{t:TypeId}{x i:Operand},SK st E ⟨d,.index t x i,ty,pos,af,gd⟩ A H next=vN next A d (iK H (mJ E.P t) (ev A.tm x) (ev A.tm i) (aA E.P A.tm H ⟨d,.index t x i,ty,pos,af,gd⟩)))/\mJ prog 9=true /\
  (∀{st:Bool}{E:Env}{A:ag}{d:Option Tmp}{H:Hp}{next:ag->Hp->Prop}{ty:TypeId}{pos:String}{af:Array Edge}{gd:Option (Nat×Bool)}{a b:TypeId}{x:Operand},SK st E ⟨d,.convert a b x,ty,pos,af,gd⟩ A H next=vN next A d (aA E.P A.tm H ⟨d,.convert a b x,ty,pos,af,gd⟩)):=⟨nf,wP,zt⟩
section
variable{α:Type}[Inhabited α]{c:α->List AC}{cf:α->α->Int}{cl N:Nat}
theorem OL(hm:Cmp c cf cl N)(H:Hp)(id gen n:Nat)(d:Array α)(a b:Nat)(hs:Srt c H id gen n d)(hN:N<=H.nx)(A6:a<b)(hb:b<=n)(hn:n<=1099511627776):
  Con E2 121 [.one (.o (.sl id gen 0 n 3)),.one (.i .i64 a),.one (.i .i64 b),.one (.o (.clo cl []))] H (λk=>k=id) λr H'=>r=.tup []/\Srt c H' id gen n (Go.Sort.reverseRange d a b):=by
 refine Con.iM (λH=>Srt c H id gen n d) hs (λH=>N<=H.nx) hN λH hs hN=>?_;refine C1.nk 34 [] Tryz.func121 λtm h0 h1 h2 h3=>?_;unfold Go.Sort.reverseRange;generalize E0:Go.Sort.reverseLoop a (b-1) d=R;have fin:∀(e:ax)(A:ag)(H3:Hp)(dc:Array α),(e=.normal\/e=.ret)->A.dfr=[]->Fr (λk=>k=id) H H3->Srt c H3 id gen n dc->dc=R->∃w H4,aH E2 [] (e,A,H3)=.ok [(w,H4)]/\Fr (λk=>k=id) H H4/\∀lg':List Nat,w=.tup []/\Srt c ⟨H4.t,H4.nx,lg'⟩ id gen n R:=λe A H3 dc he h1 h2 h3 h4=>⟨_,H3,bp he h1,h2,λ_=>⟨rfl,by rw[<-h4];exact h3⟩⟩;have hid:=hs.lt;have I4:IntKind.i64.wrap ((b:Int)-1)=((b-1:Nat):Int):=by rw[aI aa aa];omega
 replace E0:=ah E0;refine zW tyS ?_;refine R1.cR λK k1 k2 k3 k4=>?_;refine R1.loop (λz A H3=>∃(i j:Nat)(dc:Array α),z=j-i/\i<=n/\j<n/\Fr (λk=>k=id) H H3/\Srt c H3 id gen n dc/\Hd (Go.Sort.reverseLoop i j dc=R)/\slot A.tm 0=.one (.o (.sl id gen 0 n 3))/\fI A i (pz A j (A.nt=34/\A.dfr=[]))) ?_ (b-1-a)
  ⟨a,b-1,d,rfl,aa,aa,Fr.refl _,hs,E0,zL⟩
 clear h0 h1 h2 h3 tm hs E0 hid I4 k3;rintro z A H3 ⟨i,j,dc,rfl,hi,hj,f3,hs,hr,t0,t8,t9,A0,B0⟩;have hid:=hs.lt;have K0:=hs.sz;obtain⟨lo,Y1,hg⟩:=hs.row;have C0:=hr.out;rw[Go.Sort.reverseLoop]at C0;clear hr;by_cases E5:i<j
 ·rw[ad E5]at C0;have E6:(i:Int)<(j:Int):=aa;have I2:i<n:=aa;have Z7:=bw i;have hwj:IntKind.i64.wrap ((j:Int)-1)=((j-1:Nat):Int):=by rw[aI aa aa];omega
  have lv:=hm.ltH (aD hN f3.nx);have W0:=hm.len;have d1:i<dc.size:=aa;have d2:j<dc.size:=aa;replace C0:=ah C0;replace K0:=ah K0;replace d1:=ah d1;replace d2:=ah d2;refine zW tyS ?_;refine R1.cR λK2 q1 q2 q3 q4=>?_;refine zW (zDe tyS (ixC I2) (ixC hj) (swQ hm.len d1.out d2.out)) ?_;apply q1.out;exact⟨j-1-(i+1),aa,i+1,j-1,Go.Sort.swp dc i j,rfl,aa,aa,(f3.mod _ (.inr rfl)).mod _ (.inr rfl),⟨by rw[swp_size];exact K0.out,⟨gen,ai _,ao rfl⟩,hid⟩,C0,zL⟩
 rw[ab E5]at C0;have E6:¬(i:Int)<(j:Int):=aa;replace C0:=ah C0;replace K0:=ah K0;refine zW tyS ?_;apply k2.out;exact fin _ _ _ _ (.inl rfl) qe f3 hs C0.out
end
def VD:List UInt8:=(List.range 256).map λm=>UInt8.ofNat (Go.Sort.bitsLen m)
def tW{next:ag->Hp->Prop}{A:ag}{d:Option Tmp}{H:Hp}{s:List UInt8}{k:IntKind}{m:Nat}{alt:aj}(hs:s=VD)(hm:m<256)(hn:vN next A d (.val (.one (.i .u8 (Go.Sort.bitsLen m:Int))) H)):vN next A d (iK H true (.one (.o (.str s))) (.one (.i k (m:Int))) alt):=by
 have h:s[m]?=some (UInt8.ofNat (Go.Sort.bitsLen m)):=by rw[hs];unfold VD;rw[pf,List.getElem?_range hm];rfl
 rw[Mp h];have e:((UInt8.ofNat (Go.Sort.bitsLen m)).toNat:Int)=(Go.Sort.bitsLen m:Int):=by have:Go.Sort.bitsLen m<=8:=(Go.Sort.bitsLen_le_iff m 8).2 aa;rw[UInt8.toNat_ofNat'];omega
 rw[e];exact hn
def ei{x:Nat}(h:256<=x):Go.Sort.bitsLen x=8+Go.Sort.bitsLen (x/256):=by
 have a:∀k,Go.Sort.bitsLen x<=8+k↔Go.Sort.bitsLen (x/256)<=k:=λk=>by rw[Go.Sort.bitsLen_le_iff,Go.Sort.bitsLen_le_iff,Nat.pow_add,Gv aE,yW]
 have b:=(a (Go.Sort.bitsLen (x/256))).2 (ai _);have c:8<=Go.Sort.bitsLen x:=by
  by_cases h8:Go.Sort.bitsLen x<=7
  ·have:=(Go.Sort.bitsLen_le_iff x 7).1 h8;omega
  omega
 have d:=(a (Go.Sort.bitsLen x-8)).1 aa;omega
def fb{x:Nat}(h:x<=65536):Go.Sort.bitsLen x<=17:=(Go.Sort.bitsLen_le_iff x 17).2 aa
def wU(H:Hp)(x:Nat)(hx:x<=65536):Con E2 126 [.one (.i .u64 x)] H (λ_=>False) λr _=>r=.one (.i .i64 (Go.Sort.bitsLen x:Int)):=by
 refine Con.nO λH=>?_;refine C1.jf 25 [.tmp 2] Tryz.func126 λtm h0=>?_;have c1:¬(4294967296:Int)<=(x:Int):=aa;have hb:=fb hx;by_cases c16:65536<=x
 ·have c2:(65536:Int)<=(x:Int):=aa;have e0:shF .shr .u64 (x:Int) 16=((x/65536:Nat):Int):=Bx (k:=16) aE;have hy:x/65536=1:=aa;have hbx:Go.Sort.bitsLen x=16+Go.Sort.bitsLen (x/65536):=by have h1:=ei (x:=x) aa;have h2:=ei (x:=x/256) aa;rw[Nat.div_div_eq_div_mul,show 256*256=65536 from rfl]at h2;omega
  generalize x/65536=y at e0 hy hbx;have e2:IntKind.i64.wrap (0+16)=16:=aE;have c3i:¬(256:Int)<=(y:Int):=aa;have e3:IntKind.u8.wrap (y:Int)=(y:Int):=by rw[IntKind.wrap_u8];omega
  have e4:=bZ (Go.Sort.bitsLen y:Int);have e5:IntKind.i64.wrap (16+(Go.Sort.bitsLen y:Int))=(Go.Sort.bitsLen x:Int):=by rw[aI aa aa];omega
  have hy2:y<256:=aa;clear hy hbx;refine zW (qA tyU (shI (op:=.shr) (show(0:Int)<=16 by decide))) ?_;refine zG (zDe tyU ixS (cvQ jY fH) (cvQ fH dJ)) λK hK=>?_;refine tW ae hy2 ?_;refine zK (zDe tyU ixS (cvQ jY fH) (cvQ fH dJ)) ?_;exact⟨_,_,au (.i .i64 (Go.Sort.bitsLen x:Int)) (.inr rfl) qe qp,Fr.refl _,λ_=>rfl⟩
 have c2:¬(65536:Int)<=(x:Int):=aa;by_cases c3:256<=x
 ·have c3i:(256:Int)<=(x:Int):=aa;have e1:shF .shr .u64 (x:Int) 8=((x/256:Nat):Int):=Bx (k:=8) aE;have e2:IntKind.i64.wrap (0+8)=8:=aE;have e3:IntKind.u8.wrap ((x/256:Nat):Int)=((x/256:Nat):Int):=by rw[IntKind.wrap_u8];omega
  have e4:IntKind.i64.wrap (Go.Sort.bitsLen (x/256):Int)=(Go.Sort.bitsLen (x/256):Int):=aI aa (by have:=ei c3;omega);have e5:IntKind.i64.wrap (8+(Go.Sort.bitsLen (x/256):Int))=(Go.Sort.bitsLen x:Int):=by have:=ei c3;rw[aI aa aa];omega
  refine zW (qA tyU (shI (op:=.shr) (show(0:Int)<=8 by decide))) ?_;refine zG (zDe tyU ixS (cvQ jY fH) (cvQ fH dJ)) λK hK=>?_;refine tW ae aa ?_;refine zK (zDe tyU ixS (cvQ jY fH) (cvQ fH dJ)) ?_;exact⟨_,_,au (.i .i64 (Go.Sort.bitsLen x:Int)) (.inr rfl) qe qp,Fr.refl _,λ_=>rfl⟩
 have c3i:¬(256:Int)<=(x:Int):=aa;have e3:IntKind.u8.wrap (x:Int)=(x:Int):=by rw[IntKind.wrap_u8];omega
 have e4:=bZ (Go.Sort.bitsLen x:Int);have e5:IntKind.i64.wrap (0+(Go.Sort.bitsLen x:Int))=(Go.Sort.bitsLen x:Int):=by rw[aI aa aa];omega
 refine zW (qA tyU (shI (op:=.shr) (show(0:Int)<=8 by decide))) ?_;refine zG (zDe tyU ixS (cvQ jY fH) (cvQ fH dJ)) λK hK=>?_;refine tW ae aa ?_;refine zK (zDe tyU ixS (cvQ jY fH) (cvQ fH dJ)) ?_;exact⟨_,_,au (.i .i64 (Go.Sort.bitsLen x:Int)) (.inr rfl) qe qp,Fr.refl _,λ_=>rfl⟩
def oJ(H:Hp)(x:Nat)(hx:x<=65536):Con E2 71 [.one (.i .u64 x)] H (λ_=>False) λr _=>r=.one (.i .i64 (Go.Sort.bitsLen x:Int)):=by refine Con.nO λH=>?_;refine C1.jf 8 [.tmp 2] Tryz.func71 λtm h0=>?_;refine zW tyS ?_;refine zG (qA tyS zP) λK hK=>?_;refine WE.con (wU H x hx) λw' H1 g1 hw=>?_;subst hw;refine zK tyS ?_;exact⟨_,_,au (.i .i64 (Go.Sort.bitsLen x:Int)) (.inr rfl) qe qp,g1,λ_=>rfl⟩
def Be(H:Hp)(x:Nat)(hx:x<=65536):Con E2 158 [.one (.i .i64 x)] H (λ_=>False) λr _=>r=.one (.i .u64 ((1 <<< Go.Sort.bitsLen x:Nat):Int)):=by
 refine Con.nO λH=>?_;refine C1.jf 7 [.tmp 2] Tryz.func158 λtm h0=>?_;have e1:IntKind.u64.wrap (x:Int)=(x:Int):=og aa;have hb:=fb hx;have e2:shF .shl .u64 1 (Go.Sort.bitsLen x:Int)=((1 <<< Go.Sort.bitsLen x:Nat):Int):=by have:=Eh (x:=1) (k:=Go.Sort.bitsLen x) aa;rw[show((1:Nat):Int)=1 from rfl]at this;rw[this,ua,Nat.one_mul,ph (vY (Nat.pow_le_pow_right aE hb) aE)]
 have e3:(0:Int)<=(Go.Sort.bitsLen x:Int):=aa;refine zW tyS ?_;refine zG (zDe tyU ixS (cvQ dJ mQ) tu) λK hK=>?_;refine WE.con (oJ H x hx) λw' H1 g1 hw=>?_;subst hw;refine zK (qA tyU (shI (op:=.shl) e3)) ?_;exact⟨_,_,au (.i .u64 ((1 <<< Go.Sort.bitsLen x:Nat):Int)) (.inr rfl) qe qp,g1,λ_=>rfl⟩
def Bd(H:Hp)(q x:Nat)(hx:x<18446744073709551616)(hg:H.get q=some (.arr [.i .u64 (x:Int)] 256 0 0))(hq:q<H.nx):
  Con E2 159 [.one (.o (.ptr q 0 0 1))] H (λk=>k=q) λr H'=>r=.one (.i .u64 (Go.Sort.xorNextN x:Int))/\H'.get q=some (.arr [.i .u64 (Go.Sort.xorNextN x:Int)] 256 0 0):=by
 refine Con.iM (λH=>H.get q=some (.arr [.i .u64 (x:Int)] 256 0 0)) hg (λH=>q<H.nx) hq λH hg hq=>?_;refine C1.jf 33 [.tmp 2] Tryz.func159 λtm h0=>?_;have p64:(18446744073709551616:Nat)=2^64:=aE;obtain⟨y,hy⟩:∃y,y=x ^^^ (x*8192%18446744073709551616):=⟨_,rfl⟩;obtain⟨z,hz⟩:∃z,z=y ^^^ (y/128):=⟨_,rfl⟩;obtain⟨u,hu⟩:∃u,u=z ^^^ (z*131072%18446744073709551616):=⟨_,rfl⟩;have ly:y<18446744073709551616:=by rw[hy,p64];exact vZ aa aa
 have lz:z<18446744073709551616:=by rw[hz,p64];exact vZ aa aa
 have lu:u<18446744073709551616:=by rw[hu,p64];exact vZ aa aa
 have hR:Go.Sort.xorNextN x=u:=by unfold Go.Sort.xorNextN;rw[hu,hz,hy]
 rw[hR];have a1:shF .shl .u64 (x:Int) 13=((x*8192%18446744073709551616:Nat):Int):=Eh (k:=13) aE;have a2:oA .xor .u64 (x:Int) ((x*8192%18446744073709551616:Nat):Int)=(y:Int):=by rw[Ev hx aa,hy]
 have a3:shF .shr .u64 (y:Int) 7=((y/128:Nat):Int):=Bx (k:=7) aE;have a4:oA .xor .u64 (y:Int) ((y/128:Nat):Int)=(z:Int):=by rw[Ev ly aa,hz]
 have a5:shF .shl .u64 (z:Int) 17=((z*131072%18446744073709551616:Nat):Int):=Eh (k:=17) aE;have a6:oA .xor .u64 (z:Int) ((z*131072%18446744073709551616:Nat):Int)=(u:Int):=by rw[Ev lz aa,hu]
 clear hR hu hz hy p64;refine zW (zDe tyU (shI (op:=.shl) (show(0:Int)<=13 by decide)) (shI (op:=.shr) (show(0:Int)<=7 by decide)) (shI (op:=.shl) (show(0:Int)<=17 by decide))) ?_;exact⟨_,_,au (.i .u64 (u:Int)) (.inr rfl) qe qp,(((Fr.refl (X:=λk=>k=q) H).mod _ (.inr rfl)).mod _ (.inr rfl)).mod _ (.inr rfl),λ_=>⟨rfl,ao rfl⟩⟩
section
variable{α:Type}[Inhabited α]{c:α->List AC}{cf:α->α->Int}{cl N:Nat}
def zV(a L M:Nat):Nat->Nat->UInt64×Array α->Array α
 |0,_,st=>st.2
 |k+1,i,st=>zV a L M k (i+1) (Go.Sort.breakStep a L M st i)
theorem Lb(d:Array α)(a b:Nat)(h:8<=b-a):Go.Sort.breakPatterns d a b=zV a (b-a) (1 <<< Go.Sort.bitsLen (b-a)) 3 (a+(b-a)/4*2-1) (UInt64.ofNat (b-a),d):=by unfold Go.Sort.breakPatterns;rw[ad h];rfl
theorem Np(hm:Cmp c cf cl N)(H:Hp)(id gen n:Nat)(d:Array α)(a b:Nat)(hs:Srt c H id gen n d)(hN:N<=H.nx)(A6:a<b)(hb:b<=n)(hn:n<=65536):
  Con E2 119 [.one (.o (.sl id gen 0 n 3)),.one (.i .i64 a),.one (.i .i64 b),.one (.o (.clo cl []))] H (λk=>k=id) λr H'=>r=.tup []/\Srt c H' id gen n (Go.Sort.breakPatterns d a b):=by
 refine Con.iM (λH=>Srt c H id gen n d) hs (λH=>N<=H.nx) hN λH hs hN=>?_;refine C1.nk 67 [] Tryz.func119 λtm h0 h1 h2 h3=>?_;generalize E0:Go.Sort.breakPatterns d a b=R;have fin:∀(e:ax)(A:ag)(H3:Hp)(dc:Array α),(e=.normal\/e=.ret)->A.dfr=[]->Fr (λk=>k=id) H H3->Srt c H3 id gen n dc->dc=R->∃w H4,aH E2 [] (e,A,H3)=.ok [(w,H4)]/\Fr (λk=>k=id) H H4/\∀lg':List Nat,w=.tup []/\Srt c ⟨H4.t,H4.nx,lg'⟩ id gen n R:=λe A H3 dc he h1 h2 h3 h4=>⟨_,H3,bp he h1,h2,λ_=>⟨rfl,by rw[<-h4];exact h3⟩⟩;have hid:=hs.lt;obtain⟨L,hL⟩:∃L,L=b-a:=⟨_,rfl⟩;have hw0:IntKind.i64.wrap ((b:Int)-(a:Int))=(L:Int):=by rw[aI aa aa];omega
 by_cases h8:8<=L
 case neg=>
  have h8i:¬(8:Int)<=(L:Int):=aa;have C0:d=R:=by rw[<-E0];unfold Go.Sort.breakPatterns;rw[ab aa]
  clear E0;replace C0:=ah C0;replace hL:=ah hL;refine zW tyS ?_;exact fin _ _ _ _ (.inl rfl) qe (Fr.refl _) hs C0.out
 have h8i:(8:Int)<=(L:Int):=aa;rw[Lb d a b aa,<-hL]at E0;obtain⟨M,hM⟩:∃M:Nat,M=1 <<< Go.Sort.bitsLen L:=⟨_,rfl⟩;have hM1:1<=M:=by rw[hM,ua];exact Nat.two_pow_pos _
 have hM2:M<=2*L:=by rw[hM,ua];exact Go.Sort.two_pow_bitsLen_le aa
 rw[<-hM]at E0;have hLu:IntKind.u64.wrap (L:Int)=(L:Int):=og aa;have hqq:IntKind.i64.wrap ((L:Int).tdiv 4)=((L/4:Nat):Int):=by rw[rQ aa,aI aa aa];omega
 have q6:IntKind.i64.wrap (((L/4:Nat):Int)*2)=((L/4*2:Nat):Int):=by rw[aI aa aa];omega
 have hq3:IntKind.i64.wrap ((a:Int)+((L/4*2:Nat):Int))=((a+L/4*2:Nat):Int):=by rw[aI aa aa];omega
 have hq4:IntKind.i64.wrap (((a+L/4*2:Nat):Int)-1)=((a+L/4*2-1:Nat):Int):=by rw[aI aa aa];omega
 have hq5:IntKind.i64.wrap (((a+L/4*2:Nat):Int)+1)=((a+L/4*2+1:Nat):Int):=by rw[aI aa aa];omega
 replace E0:=ah E0;replace hL:=ah hL;replace hM:=ah hM;refine zW (zDd tyU ixS (cvQ dJ Pe)) ?_;have gA:Gr H ((H.new (.arr [.i .u64 0] 256 0 0)).mod H.nx (.arr [.i .u64 (L:Int)] 256 0 0)):=((Fr.refl _).new _).mod _ (.inl (ai _));have hsA:=hs.fr gA aF;have hqA:((H.new (.arr [.i .u64 0] 256 0 0)).mod H.nx (.arr [.i .u64 (L:Int)] 256 0 0)).get H.nx=some (.arr [.i .u64 (L:Int)] 256 0 0):=ao rfl;have b6:H.nx≠id:=aa;have hqH:H.nx<=H.nx:=ai _;generalize I7:H.nx=q at hqA b6 |-;have hqlt:q<((H.new (.arr [.i .u64 0] 256 0 0)).mod q (.arr [.i .u64 (L:Int)] 256 0 0)).nx:=by show q<H.nx+1;omega
 refine R1.gen (λA1 H1=>Gr H H1/\Srt c H1 id gen n d/\H1.get q=some (.arr [.i .u64 (L:Int)] 256 0 0)/\q<H1.nx/\cZ A1 id gen n a (slot A1.tm 3=.one (.o (.clo cl []))/\fI A1 L (lV A1 q (A1.nt=67/\A1.dfr=[]))))
  ⟨by rw[<-I7];exact gA,by rw[<-I7];exact hsA,hqA,hqlt,zL⟩ ?_
 replace hqH:H.nx<=q:=aa;clear h0 h1 h2 h3 tm hs hid hw0 hLu gA hsA hqA hqlt I7;rintro A H1 ⟨g1,hs,hg,O8,t0,t1,t3,t8,t9,A0,B0⟩;have hid:=hs.lt;refine zG (qA tyS EO) λK hK=>?_;have V5:=hL.out;refine WE.con (Be H1 L aa) λw' H2 g2 hw=>?_;rw[<-hM.out]at hw;subst hw;have F2:=hs.fr g2 aF;have hid2:=F2.lt;obtain⟨hg,O8⟩:=bq g2 O8 hg;have f2:Fr (λk=>k=id) H H2:=(Fr.refl _).then (g1.gr g2) λ_ h=>h.elim;clear g1 g2 hs hid;replace V5:=ah V5;replace f2:=ah f2;have h4:(4:Int)≠0:=aE;refine zK (qA tyU (tS h4)) ?_;clear hq4 q6 hq3;refine R1.cR λK2 k1 k2 k3 k4=>?_;refine R1.loop (λz A H3=>∃(t:Nat)(x:UInt64)(dc:Array α),z=3-t/\t<=3/\Fr (λk=>k=id) H H3/\Srt c H3 id gen n dc/\H3.get q=some (.arr [.i .u64 (x.toNat:Int)] 256 0 0)/\q<H3.nx/\Hd (zV a L M (3-t) (a+L/4*2-1+t) (x,dc)=R) /\
   slot A.tm 0=.one ((.o (.sl id gen 0 n 3)))/\slot A.tm 1=.one (.i .i64 (a:Int))/\slot A.tm 3=.one ((.o (.clo cl [])))/\slot A.tm 8=.one (.i .i64 (L:Int))/\slot A.tm 9=.one ((.o (.ptr q 0 0 1)))/\slot A.tm 10=.one ((.i .u64 (M:Int)))/\slot A.tm 11=.one (.i .i64 ((a+L/4*2-1+t:Nat):Int))/\A.nt=67/\A.dfr=[]) ?_ 3
  ⟨0,UInt64.ofNat L,d,rfl,aE,f2.out,F2,by rw[hg,UInt64.toNat_ofNat'];rw[ph (by have:=V5.out;omega)],O8,E0,zL⟩
 clear t0 t1 t3 t8 t9 A0 B0 A F2 hid2 hg O8 f2 E0 k3 hK K;rintro z A H3 ⟨t,x,dc,rfl,ht,f3,hs,hg,O8,hr,t0,t1,t3,t8,t9,t10,t11,A0,B0⟩;have hid:=hs.lt;have V5:=hL.out;have q6:IntKind.i64.wrap (((L/4:Nat):Int)*2)=((L/4*2:Nat):Int):=by rw[aI aa aa];omega
 have hq3:IntKind.i64.wrap ((a:Int)+((L/4*2:Nat):Int))=((a+L/4*2:Nat):Int):=by rw[aI aa aa];omega
 by_cases ht3:t<3
 case neg=>have U4:¬((a+L/4*2-1+t:Nat):Int)<=((a+L/4*2+1:Nat):Int):=aa;have ht4:3-t=0:=aa;have C0:=hr.out;rw[ht4,zV]at C0;replace C0:dc=R:=C0;clear hr ht4;replace C0:=ah C0;replace V5:=ah V5;refine zW (qA tyU (tS h4)) ?_;apply k2.out;exact fin _ _ _ _ (.inl rfl) qe f3 hs C0.out
 have U4:((a+L/4*2-1+t:Nat):Int)<=((a+L/4*2+1:Nat):Int):=aa;have C0:=hr.out;rw[show 3-t=(3-(t+1))+1 from by omega,zV]at C0;unfold Go.Sort.breakStep at C0;dsimp only at C0
 clear hr;have j7:Go.Sort.xorNextN x.toNat=(Go.Sort.xorNext x).toNat:=(Go.Sort.xorNext_toNat x).symm;have lx:=x.toNat_lt;have ly:=(Go.Sort.xorNext x).toNat_lt;generalize hy:Go.Sort.xorNext x=y at C0 j7 ly;obtain⟨o,ho⟩:∃o,o=y.toNat &&& (M-1):=⟨_,rfl⟩;have ho2:o<=M-1:=by rw[ho];exact Nat.and_le_right
 rw[<-ho]at C0;have hMu:IntKind.u64.wrap ((M:Int)-1)=((M-1:Nat):Int):=by rw[show((M:Int)-1)=((M-1:Nat):Int)from by omega];exact og aa
 have hand:oA .and .u64 (y.toNat:Int) ((M-1:Nat):Int)=(o:Int):=by rw[Yw ly aa,ho]
 have Y6:=bZ (o:Int);have hio:=bZ ((o:Int)-(L:Int));have Z7:IntKind.i64.wrap (((a+L/4*2-1+t:Nat):Int)+1)=((a+L/4*2-1+(t+1):Nat):Int):=by rw[aI aa aa];omega
 clear ho hy;have M4:=Bd H3 q x.toNat lx hg O8;rw[j7]at M4;clear j7;have b1:a+L/4*2-1+t<n:=aa;generalize hix:a+L/4*2-1+t=ix at U4 Z7 b1 C0 t11;replace C0:=ah C0;replace V5:=ah V5;replace hix:=ah hix;replace M4:=ah M4;refine zW (qA tyU (tS h4)) ?_;refine R1.ed λK3 q1 q2 q3 q4=>?_;refine zG (qA tyS EN) λK5 U0=>?_;refine WE.con M4.out λw' H4 g4⟨hw,hg4⟩=>?_;subst hw;clear M4;have O3:=hs.fr g4 (λh=>b6 h.symm);have P7:=O3.lt;have hql4:=ay O8 g4.nx;have f4:Fr (λk=>k=id) H H4:=f3.then g4 λj h=>by subst h;exact .inl hqH
 clear hs hg O8 hid f3 g4;refine zS (zDd tyU ixS (cvQ mQ dJ)) ?_;apply U0.out;obtain⟨o2,L5⟩:∃o2,o2=if o>=L then o-L else o:=⟨_,rfl⟩;have O0:=C0.out;rw[<-L5]at O0;clear C0;have ho2L:o2<L:=by have:=V5.out;rw[L5];split<;>omega
 replace O0:=ah O0;refine R1.gen (λA5 H5=>H4=H5/\cZ A5 id gen n a (slot A5.tm 3=.one (.o (.clo cl []))/\fI A5 L (lV A5 q (slot A5.tm 10=.one (.i .u64 (M:Int))/\lW A5 ix o (A5.nt=67/\A5.dfr=[]))))) ⟨rfl,zL⟩ ?_;clear t0 t1 t3 t8 t9 t10 t11 A0 B0 A;rintro A _ ⟨rfl,t0,t1,t3,t8,t9,t10,t11,t12,A0,B0⟩;have hwa:IntKind.i64.wrap ((a:Int)+(o2:Int))=((a+o2:Nat):Int):=by have:=V5.out;rw[aI aa aa];omega
 refine zW tyS ?_;refine R1.eV (λB H5=>H4=H5/\cZ B id gen n a (slot B.tm 3=.one (.o (.clo cl []))/\fI B L (lV B q (slot B.tm 10=.one (.i .u64 (M:Int))/\lW B ix o2 (B.nt=67/\B.dfr=[]))))) (λK4 m1 m2 m3=>?_) ?_
 ·by_cases hoL:L<=o
  ·have hoi:(L:Int)<=(o:Int):=aa;clear hio;have hio:IntKind.i64.wrap ((o:Int)-(L:Int))=(o2:Int):=by have:=V5.out;rw[L5,ad hoL,aI aa aa];omega
   replace L5:=ah L5;refine zW tyS ?_;apply m1.out;exact⟨rfl,zL⟩
  have hoi:¬(L:Int)<=(o:Int):=aa;rw[ab hoL]at L5;subst L5;refine zW tyS ?_;apply m1.out;exact⟨rfl,zL⟩
 clear t0 t1 t3 t8 t9 t10 t11 t12 A0 B0 A hio L5 Y6 hand hMu U4;rintro A _ ⟨rfl,t0,t1,t3,t8,t9,t10,t11,t12,A0,B0⟩;have K0:=O3.sz;obtain⟨lo,Y1,hg⟩:=O3.row;have lv:=hm.ltH (aD hN f4.nx);have W0:=hm.len;have b2:a+o2<n:=by have:=V5.out;omega
 have d1:ix<dc.size:=aa;have d2:a+o2<dc.size:=aa;replace K0:=ah K0;replace d1:=ah d1;replace d2:=ah d2;refine zW (zDe tyS (ixC b1) (ixC b2) (swQ hm.len d1.out d2.out)) ?_;apply q1.out;refine zW tyS ?_;exact⟨3-(t+1),aa,t+1,y,Go.Sort.swp dc ix (a+o2),rfl,aa,(f4.mod _ (.inr rfl)).mod _ (.inr rfl),⟨by rw[swp_size];exact K0.out,⟨gen,ai _,ao rfl⟩,P7⟩,by rw[az b6,az b6];exact hg4,hql4,by rw[show a+L/4*2-1+(t+1)=ix+1 from by have:=hix.out;omega];exact O0,zL⟩
end
end Sv
open Go Go.Eng
namespace Sv
def Wn:aq prog 124=true:=ae
def Ze:aq prog 123=true:=ae
section
variable{α:Type}[Inhabited α]
theorem sB{p:α->Bool}{d:Array α}{i j:Nat}(h:i<=j)(hp:p d[i]! = true):Go.Sort.scanUp p d j i=Go.Sort.scanUp p d j (i+1):=by rw[Go.Sort.scanUp,ad (by rw[aL h,hp];rfl)]
theorem ez{p:α->Bool}{d:Array α}{i j:Nat}(h:¬i<=j\/p d[i]! = false):Go.Sort.scanUp p d j i=i:=by
 rw[Go.Sort.scanUp,ab];rcases h with h|h
 ·rw[aV h,Bool.false_and];exact zA8
 rw[h,Bool.and_false];decide
theorem my{p:α->Bool}{d:Array α}{i j:Nat}(h:i<=j)(h0:j≠0)(hp:p d[j]! = true):Go.Sort.scanDown p d i j=Go.Sort.scanDown p d i (j-1):=by obtain⟨k,rfl⟩:∃k,j=k+1:=⟨j-1,aa⟩;rw[Go.Sort.scanDown,ad (by rw[aL h,hp];rfl)];rfl
theorem dO{p:α->Bool}{d:Array α}{i j:Nat}(h:¬i<=j\/p d[j]! = false):Go.Sort.scanDown p d i j=j:=by
 cases j with
 |zero=>rfl
 |succ k=>
  rw[Go.Sort.scanDown,ab];rcases h with h|h
  ·rw[aV h,Bool.false_and];exact zA8
  rw[h,Bool.and_false];decide
theorem Ee{p:α->Bool}{d:Array α}{j:Nat}:∀{i:Nat},i<=j+1->Go.Sort.scanUp p d j i<=j+1:=by
 intro i h;obtain⟨m,hm⟩:∃m,m=j+1-i:=⟨_,rfl⟩;induction m generalizing i with
 |zero=>rw[ez (.inl aa)];exact h
 |succ m ih=>
  by_cases hp:p d[i]! = true
  ·rw[sB aa hp];exact ih aa aa
  rw[ez (.inr (by simpa using hp))];exact h
theorem Bv{p:α->Bool}{d:Array α}{i j:Nat}(h:i<=j+2):Go.Sort.scanUp p d j i<=j+2:=by
 by_cases h1:i<=j+1
 ·exact tZ (Ee h1)
 rw[ez (.inl aa)];exact h
theorem rC{p:α->Bool}{d:Array α}{i:Nat}:∀{j:Nat},i<=j+1->i<=Go.Sort.scanDown p d i j+1
 |0,h=>h
 |j+1,h=>by
  by_cases hp:i<=j+1/\p d[j+1]! = true
  ·rw[my hp.1 aa hp.2];exact rC aa
  rw[dO (by
   by_cases hq:i<=j+1
   ·exact .inr (by have:=λh=>hp ⟨hq,h⟩;simpa using this)
   exact .inl hq)]
  exact h
theorem vK{p:α->Bool}{d:Array α}{i j:Nat}(h:i<=j+2):i<=Go.Sort.scanDown p d i j+2:=by
 by_cases h1:i<=j+1
 ·exact tZ (rC h1)
 rw[dO (.inl aa)];exact h
variable{c:α->List AC}{cf:α->α->Int}{cl N:Nat}
theorem UJ(hm:Cmp c cf cl N)(H:Hp)(id gen n:Nat)(d:Array α)(a b pv:Nat)(hs:Srt c H id gen n d)(hN:N<=H.nx)(A6:a<b)(hb:b<=n)(hp:pv<n)(hn:n<=65536):
  Con E2 124 [.one (.o (.sl id gen 0 n 3)),.one (.i .i64 a),.one (.i .i64 b),.one (.i .i64 pv),.one (.o (.clo cl []))] H (λk=>k=id) λr H'=>r=.tup [(false,[.i .i64 ((Go.Sort.partition (ltF cf) d a b pv).1:Int)]),(false,[.b (Go.Sort.partition (ltF cf) d a b pv).2.1])]/\Srt c H' id gen n (Go.Sort.partition (ltF cf) d a b pv).2.2:=by
 have hbd:=hm.bd;refine Con.iM (λH=>Srt c H id gen n d) hs (λH=>N<=H.nx) hN λH hs hN=>?_;refine C1.EP 178 [.tmp 10,.tmp 11] Tryz.func124 λtm h0 h1 h2 h3 h4=>?_;generalize E0:Go.Sort.partition (ltF cf) d a b pv=R;unfold Go.Sort.partition at E0;dsimp only at E0
 have fin:∀(A:ag)(H3:Hp)(x:Nat)(y:Bool)(dc:Array α),slot A.tm 10=.one (.i .i64 (x:Int))->slot A.tm 11=.one (.b y)->A.dfr=[]->Fr (λk=>k=id) H H3->Srt c H3 id gen n dc->(x,y,dc)=R->∃w H4,aH E2 [.tmp 10,.tmp 11] (.ret,A,H3)=.ok [(w,H4)]/\Fr (λk=>k=id) H H4/\∀lg':List Nat,w=.tup [(false,[.i .i64 (R.1:Int)]),(false,[.b R.2.1])]/\Srt c ⟨H4.t,H4.nx,lg'⟩ id gen n R.2.2:=λA H3 x y dc h1 h2 hd h3 h4 h5=>⟨_,H3,bC (.i .i64 x) (.b y) (.inr rfl) hd h1 h2,h3,λ_=>by rw[<-h5];exact⟨rfl,h4⟩⟩;have hid:=hs.lt;have K0:=hs.sz;obtain⟨lo,Y1,hg⟩:=hs.row;have lv:=hm.ltH hN;have W0:=hm.len;have b2:a<n:=aa;have d1:a<d.size:=aa;have d2:pv<d.size:=aa;have I4:=bw a;have N2:IntKind.i64.wrap ((b:Int)-1)=((b-1:Nat):Int):=by rw[aI aa aa];omega
 replace E0:=ah E0;replace K0:=ah K0;replace d1:=ah d1;replace d2:=ah d2;refine zW (zDe tyS (ixC b2) (ixC hp) (swQ hm.len d1.out d2.out)) ?_;refine R1.gen (λA1 H1=>Fr (λk=>k=id) H H1/\Srt c H1 id gen n (Go.Sort.swp d a pv)/\cZ A1 id gen n a (slot A1.tm 4=.one (.o (.clo cl []))/\hY A1 (a+1:Nat) (b-1:Nat) (A1.nt=178/\A1.dfr=[])))
  ⟨((Fr.refl (X:=λk=>k=id) H).mod _ (.inr rfl)).mod _ (.inr rfl),⟨by rw[swp_size];exact K0.out,⟨gen,ai _,ao rfl⟩,hid⟩,zL⟩ ?_
 clear h0 h1 h2 h3 h4 tm hs hid I4 N2 hg Y1 lo lv W0 K0 d1 d2;generalize hd1:Go.Sort.swp d a pv=dd at E0;replace hd1:=ah hd1;rintro A1 H1 ⟨f1,hs,t0,t1,t4,t12,t13,A0,B0⟩;obtain⟨i0,T5⟩:∃i,i=a+1:=⟨_,rfl⟩;obtain⟨j0,hj0⟩:∃j,j=b-1:=⟨_,rfl⟩;rw[<-T5]at t12 E0;rw[<-hj0]at t13 E0;have hi1:a+1<=i0:=aa;have hj1:j0<n:=aa;have hij0:i0<=j0+1:=aa;clear T5 hj0;obtain⟨I,hI⟩:∃I,Hd (Go.Sort.scanUp (λx=>ltF cf x dd[a]!) dd j0 i0=I):=⟨_,rfl⟩;obtain⟨J,hJ⟩:∃J,Hd (Go.Sort.scanDown (λx=>!ltF cf x dd[a]!) dd I j0=J):=⟨_,rfl⟩;have C0:=E0.out;rw[hI.out,hJ.out]at C0;clear E0;replace C0:=ah C0;have hI1:i0<=I:=by rw[<-hI.out];exact Go.Sort.scanUp_ge _ _ _ _
 have hI2:I<=j0+1:=by rw[<-hI.out];exact Ee hij0
 have hJ1:J<=j0:=by rw[<-hJ.out];exact Go.Sort.scanDown_le _ _ _ _
 have hJ2:I<=J+1:=by rw[<-hJ.out];exact rC hI2
 refine R1.eV (λB H4=>Fr (λk=>k=id) H H4/\Srt c H4 id gen n dd/\cZ B id gen n a (slot B.tm 4=.one (.o (.clo cl []))/\hY B I j0 (B.nt=178/\B.dfr=[]))) (λK5 m1 m2 m3=>?_) ?_
 ·refine R1.cR λK5b u1 u2 u3 u4=>?_;refine R1.loop (λz A H4=>∃ii:Nat,z=j0+1-ii/\i0<=ii/\ii<=n+2/\Fr (λk=>k=id) H H4/\Srt c H4 id gen n dd/\Hd (Go.Sort.scanUp (λx=>ltF cf x dd[a]!) dd j0 ii=I)/\cZ A id gen n a (slot A.tm 4=.one (.o (.clo cl []))/\hY A ii j0 (A.nt=178/\A.dfr=[]))) ?_ (j0+1-i0)
   ⟨i0,rfl,ai _,aa,f1,hs,hI,zL⟩
  clear t0 t1 t4 t12 t13 A0 B0 hs f1 A1 hI u3;rintro z A H4 ⟨ii,rfl,hi1,I2,f4,hs,hr,t0,t1,t4,t12,t13,A0,B0⟩;have hid:=hs.lt;by_cases E5:ii<=j0
  ·have E6:(ii:Int)<=(j0:Int):=aa;have K0:=hs.sz;obtain⟨lo,Y1,hg⟩:=hs.row;have lv:=hm.ltH (aD hN f4.nx);have W0:=hm.len;have b1:ii<n:=aa;have b2:a<n:=aa;have d1:ii<Array.size dd:=aa;have d2:a<Array.size dd:=aa;replace K0:=ah K0;replace d1:=ah d1;replace d2:=ah d2;refine zG (zDe tyS (ixC b1) (ixC b2) (rdQ hm.len d1.out d2.out)) λK hK=>?_;refine WE.con (hm.con H4 dd[ii]! dd[a]! (aD hN f4.nx)) λw' H5 g5 hq=>?_;subst hq;have Q1:=hs.fr g5 aF;obtain⟨hg,hid⟩:=bq g5 hid hg;have f5:=f4.then g5 λ_ h=>h.elim;by_cases V3:cf dd[ii]! dd[a]!<0
   ·have L0:=hr.out;rw[sB E5 (by show ltF cf _ _=true;exact aL V3)]at L0;clear hr;replace L0:=ah L0;have Z7:=bw ii;refine zK tyS ?_;refine R1.cR λK4 v1 v2 v3 v4=>?_;refine zW tyS ?_;apply v1.out;exact⟨j0+1-(ii+1),aa,ii+1,rfl,aa,aa,f5,Q1,L0,zL⟩
   have L0:=hr.out;rw[ez (.inr (by show ltF cf _ _=false;exact aV V3))]at L0;clear hr;subst L0;refine zK tyS ?_;refine u2.out _ _ (m1.out _ _ ?_);exact⟨f5,Q1,zL⟩
  have E6:¬(ii:Int)<=(j0:Int):=aa;have L0:=hr.out;rw[ez (.inl E5)]at L0;clear hr;subst L0;refine zW tyS ?_;refine u2.out _ _ (m1.out _ _ ?_);exact⟨f4,hs,zL⟩
 clear t0 t1 t4 t12 t13 A0 B0 hs f1 A1 H1 hI;rintro A H1 ⟨f1,hs,t0,t1,t4,t12,t13,A0,B0⟩;refine R1.eV (λB H4=>Fr (λk=>k=id) H H4/\Srt c H4 id gen n dd/\cZ B id gen n a (slot B.tm 4=.one (.o (.clo cl []))/\hY B I J (B.nt=178/\B.dfr=[]))) (λK6 m1 m2 m3=>?_) ?_
 ·refine R1.cR λK6b u1 u2 u3 u4=>?_;refine R1.loop (λz A H4=>∃jj:Nat,z=jj/\jj<=j0/\Fr (λk=>k=id) H H4/\Srt c H4 id gen n dd/\Hd (Go.Sort.scanDown (λx=>!ltF cf x dd[a]!) dd I jj=J)/\cZ A id gen n a (slot A.tm 4=.one (.o (.clo cl []))/\hY A I jj (A.nt=178/\A.dfr=[]))) ?_ j0
   ⟨j0,rfl,ai _,f1,hs,hJ,zL⟩
  clear t0 t1 t4 t12 t13 A0 B0 hs f1 A hJ u3;rintro jj A H4 ⟨_,rfl,hj1,f4,hs,hr,t0,t1,t4,t12,t13,A0,B0⟩;have hid:=hs.lt;by_cases E5:I<=jj
  ·have E6:(I:Int)<=(jj:Int):=aa;have K0:=hs.sz;obtain⟨lo,Y1,hg⟩:=hs.row;have lv:=hm.ltH (aD hN f4.nx);have W0:=hm.len;have b1:jj<n:=aa;have b2:a<n:=aa;have d1:jj<Array.size dd:=aa;have d2:a<Array.size dd:=aa;replace K0:=ah K0;replace d1:=ah d1;replace d2:=ah d2;refine zG (zDe tyS (ixC b1) (ixC b2) (rdQ hm.len d1.out d2.out)) λK hK=>?_;refine WE.con (hm.con H4 dd[jj]! dd[a]! (aD hN f4.nx)) λw' H5 g5 hq=>?_;subst hq;have Q1:=hs.fr g5 aF;obtain⟨hg,hid⟩:=bq g5 hid hg;have f5:=f4.then g5 λ_ h=>h.elim;have hjn:jj≠0:=aa;by_cases V3:cf dd[jj]! dd[a]!<0
   ·have L0:=hr.out;rw[dO (.inr (by show(!ltF cf _ _)=false;unfold ltF;rw[aL V3];rfl))]at L0;clear hr;subst L0;refine zK tyS ?_;refine u2.out _ _ (m1.out _ _ ?_);exact⟨f5,Q1,zL⟩
   have L0:=hr.out;rw[my E5 hjn (by show(!ltF cf _ _)=true;unfold ltF;rw[aV V3];rfl)]at L0;clear hr;replace L0:=ah L0;have hwj:IntKind.i64.wrap ((jj:Int)-1)=((jj-1:Nat):Int):=by rw[aI aa aa];omega
   refine zK tyS ?_;refine R1.cR λK4 v1 v2 v3 v4=>?_;refine zW tyS ?_;apply v1.out;exact⟨jj-1,aa,jj-1,rfl,aa,f5,Q1,L0,zL⟩
  have E6:¬(I:Int)<=(jj:Int):=aa;have L0:=hr.out;rw[dO (.inl E5)]at L0;clear hr;subst L0;refine zW tyS ?_;refine u2.out _ _ (m1.out _ _ ?_);exact⟨f4,hs,zL⟩
 clear t0 t1 t4 t12 t13 A0 B0 hs f1 A H1 hJ;rintro A H1 ⟨f1,hs,t0,t1,t4,t12,t13,A0,B0⟩;have hid:=hs.lt;have K0:=hs.sz;obtain⟨lo,Y1,hg⟩:=hs.row;have lv:=hm.ltH (aD hN f1.nx);have W0:=hm.len;have O0:=C0.out;clear C0;by_cases hIJ:J<I
 ·rw[ad hIJ]at O0;have hIJi:(J:Int)<(I:Int):=aa;have b1:J<n:=aa;have d1:J<dd.size:=aa;have d2:a<dd.size:=aa;replace O0:=ah O0;replace K0:=ah K0;replace d1:=ah d1;replace d2:=ah d2;refine zW (zDe tyS (ixC b1) (ixC b2) (swQ hm.len d1.out d2.out)) ?_;exact fin _ _ J true (Go.Sort.swp dd J a) qp qp qe ((f1.mod _ (.inr rfl)).mod _ (.inr rfl)) ⟨by rw[swp_size];exact K0.out,⟨gen,ai _,ao rfl⟩,hid⟩ O0.out
 rw[ab hIJ]at O0;have hIJi:¬(J:Int)<(I:Int):=aa;have b1:I<n:=aa;have b3:J<n:=aa;have d1:I<dd.size:=aa;have d2:J<dd.size:=aa;have hwI:=bw I;have hwJ:IntKind.i64.wrap ((J:Int)-1)=((J-1:Nat):Int):=by rw[aI aa aa];omega
 replace O0:=ah O0;replace K0:=ah K0;replace d1:=ah d1;replace d2:=ah d2;refine zW (zDe tyS (ixC b1) (ixC b3) (swQ hm.len d1.out d2.out)) ?_;refine R1.eV (λB H4=>Fr (λk=>k=id) H H4/\Srt c H4 id gen n (Go.Sort.partLoop (ltF cf) a (I+1) (J-1) (Go.Sort.swp dd I J)).2/\(Go.Sort.partLoop (ltF cf) a (I+1) (J-1) (Go.Sort.swp dd I J)).1<n/\cZ B id gen n a (eK B 13 (.i .i64 ((Go.Sort.partLoop (ltF cf) a (I+1) (J-1) (Go.Sort.swp dd I J)).1:Int)) 178 [])) (λK7 m1 m2 m3=>?_) ?_
 ·generalize B5:Go.Sort.partLoop (ltF cf) a (I+1) (J-1) (Go.Sort.swp dd I J)=Z at m1;replace B5:=ah B5;refine R1.cR λK8 k1 k2 k3 k4=>?_;refine R1.loop (λz A H4=>∃(i j:Nat)(dc:Array α),z=j+1-i/\a+1<=i/\j<n/\i<=j+2/\Fr (λk=>k=id) H H4/\Srt c H4 id gen n dc/\Hd (Go.Sort.partLoop (ltF cf) a i j dc=Z)/\cZ A id gen n a (slot A.tm 4=.one (.o (.clo cl []))/\hY A i j (A.nt=178/\A.dfr=[]))) ?_ (J-1+1-(I+1))
   ⟨I+1,J-1,Go.Sort.swp dd I J,rfl,aa,aa,aa,(f1.mod _ (.inr rfl)).mod _ (.inr rfl),⟨by rw[swp_size];exact K0.out,⟨gen,ai _,ao rfl⟩,hid⟩,B5,zL⟩
  clear t0 t1 t4 t12 t13 A0 B0 hs f1 A B5 k3 hg hid lv Y1 d1 d2 K0 hIJi hwI hwJ O0 b1 b3 hIJ hI1 hI2 hJ1 hJ2 hij0 hi1 hj1;rintro z A1 H1 ⟨i0,j0,dd,rfl,hi1,hj1,hij0,f1,hs,hr,t0,t1,t4,t12,t13,A0,B0⟩;obtain⟨I,hI⟩:∃I,Hd (Go.Sort.scanUp (λx=>ltF cf x dd[a]!) dd j0 i0=I):=⟨_,rfl⟩;obtain⟨J,hJ⟩:∃J,Hd (Go.Sort.scanDown (λx=>!ltF cf x dd[a]!) dd I j0=J):=⟨_,rfl⟩;have C0:=hr.out;rw[Go.Sort.partLoop]at C0;have hgd:=@Go.Sort.partLoop_guard α _ (ltF cf) a i0 j0 dd;rw[hI.out,hJ.out]at hgd;rw[hI.out,hJ.out]at C0;clear hr;replace C0:=ah C0;have hI1:i0<=I:=by rw[<-hI.out];exact Go.Sort.scanUp_ge _ _ _ _
  have hI2:I<=j0+2:=by rw[<-hI.out];exact Bv hij0
  have hJ1:J<=j0:=by rw[<-hJ.out];exact Go.Sort.scanDown_le _ _ _ _
  have hJ2:I<=J+2:=by rw[<-hJ.out];exact vK hI2
  replace hgd:=ah hgd;refine R1.cR λK9 q1 q2 q3 q4=>?_;refine R1.eV (λB H4=>Fr (λk=>k=id) H H4/\Srt c H4 id gen n dd/\cZ B id gen n a (slot B.tm 4=.one (.o (.clo cl []))/\hY B I j0 (B.nt=178/\B.dfr=[]))) (λKa m1 m2 m3=>?_) ?_
  ·refine R1.cR λKab u1 u2 u3 u4=>?_;refine R1.loop (λz A H4=>∃ii:Nat,z=j0+1-ii/\i0<=ii/\ii<=n+2/\Fr (λk=>k=id) H H4/\Srt c H4 id gen n dd/\Hd (Go.Sort.scanUp (λx=>ltF cf x dd[a]!) dd j0 ii=I)/\cZ A id gen n a (slot A.tm 4=.one (.o (.clo cl []))/\hY A ii j0 (A.nt=178/\A.dfr=[]))) ?_ (j0+1-i0)
    ⟨i0,rfl,ai _,aa,f1,hs,hI,zL⟩
   clear t0 t1 t4 t12 t13 A0 B0 hs f1 A1 hI u3;rintro z A H4 ⟨ii,rfl,hi1,I2,f4,hs,hr,t0,t1,t4,t12,t13,A0,B0⟩;have hid:=hs.lt;by_cases E5:ii<=j0
   ·have E6:(ii:Int)<=(j0:Int):=aa;have K0:=hs.sz;obtain⟨lo,Y1,hg⟩:=hs.row;have lv:=hm.ltH (aD hN f4.nx);have W0:=hm.len;have b1:ii<n:=aa;have b2:a<n:=aa;have d1:ii<Array.size dd:=aa;have d2:a<Array.size dd:=aa;replace K0:=ah K0;replace d1:=ah d1;replace d2:=ah d2;refine zG (zDe tyS (ixC b1) (ixC b2) (rdQ hm.len d1.out d2.out)) λK hK=>?_;refine WE.con (hm.con H4 dd[ii]! dd[a]! (aD hN f4.nx)) λw' H5 g5 hq=>?_;subst hq;have Q1:=hs.fr g5 aF;obtain⟨hg,hid⟩:=bq g5 hid hg;have f5:=f4.then g5 λ_ h=>h.elim;by_cases V3:cf dd[ii]! dd[a]!<0
    ·have L0:=hr.out;rw[sB E5 (by show ltF cf _ _=true;exact aL V3)]at L0;clear hr;replace L0:=ah L0;have Z7:=bw ii;refine zK tyS ?_;refine R1.cR λK4 v1 v2 v3 v4=>?_;refine zW tyS ?_;apply v1.out;exact⟨j0+1-(ii+1),aa,ii+1,rfl,aa,aa,f5,Q1,L0,zL⟩
    have L0:=hr.out;rw[ez (.inr (by show ltF cf _ _=false;exact aV V3))]at L0;clear hr;subst L0;refine zK tyS ?_;refine u2.out _ _ (m1.out _ _ ?_);exact⟨f5,Q1,zL⟩
   have E6:¬(ii:Int)<=(j0:Int):=aa;have L0:=hr.out;rw[ez (.inl E5)]at L0;clear hr;subst L0;refine zW tyS ?_;refine u2.out _ _ (m1.out _ _ ?_);exact⟨f4,hs,zL⟩
  clear t0 t1 t4 t12 t13 A0 B0 hs f1 A1 H1 hI;rintro A H1 ⟨f1,hs,t0,t1,t4,t12,t13,A0,B0⟩;refine R1.eV (λB H4=>Fr (λk=>k=id) H H4/\Srt c H4 id gen n dd/\cZ B id gen n a (slot B.tm 4=.one (.o (.clo cl []))/\hY B I J (B.nt=178/\B.dfr=[]))) (λKb m1 m2 m3=>?_) ?_
  ·refine R1.cR λKbb u1 u2 u3 u4=>?_;refine R1.loop (λz A H4=>∃jj:Nat,z=jj/\jj<=j0/\Fr (λk=>k=id) H H4/\Srt c H4 id gen n dd/\Hd (Go.Sort.scanDown (λx=>!ltF cf x dd[a]!) dd I jj=J)/\cZ A id gen n a (slot A.tm 4=.one (.o (.clo cl []))/\hY A I jj (A.nt=178/\A.dfr=[]))) ?_ j0
    ⟨j0,rfl,ai _,f1,hs,hJ,zL⟩
   clear t0 t1 t4 t12 t13 A0 B0 hs f1 A hJ u3;rintro jj A H4 ⟨_,rfl,hj1,f4,hs,hr,t0,t1,t4,t12,t13,A0,B0⟩;have hid:=hs.lt;by_cases E5:I<=jj
   ·have E6:(I:Int)<=(jj:Int):=aa;have K0:=hs.sz;obtain⟨lo,Y1,hg⟩:=hs.row;have lv:=hm.ltH (aD hN f4.nx);have W0:=hm.len;have b1:jj<n:=aa;have b2:a<n:=aa;have d1:jj<Array.size dd:=aa;have d2:a<Array.size dd:=aa;replace K0:=ah K0;replace d1:=ah d1;replace d2:=ah d2;refine zG (zDe tyS (ixC b1) (ixC b2) (rdQ hm.len d1.out d2.out)) λK hK=>?_;refine WE.con (hm.con H4 dd[jj]! dd[a]! (aD hN f4.nx)) λw' H5 g5 hq=>?_;subst hq;have Q1:=hs.fr g5 aF;obtain⟨hg,hid⟩:=bq g5 hid hg;have f5:=f4.then g5 λ_ h=>h.elim;have hjn:jj≠0:=aa;by_cases V3:cf dd[jj]! dd[a]!<0
    ·have L0:=hr.out;rw[dO (.inr (by show(!ltF cf _ _)=false;unfold ltF;rw[aL V3];rfl))]at L0;clear hr;subst L0;refine zK tyS ?_;refine u2.out _ _ (m1.out _ _ ?_);exact⟨f5,Q1,zL⟩
    have L0:=hr.out;rw[my E5 hjn (by show(!ltF cf _ _)=true;unfold ltF;rw[aV V3];rfl)]at L0;clear hr;replace L0:=ah L0;have hwj:IntKind.i64.wrap ((jj:Int)-1)=((jj-1:Nat):Int):=by rw[aI aa aa];omega
    refine zK tyS ?_;refine R1.cR λK4 v1 v2 v3 v4=>?_;refine zW tyS ?_;apply v1.out;exact⟨jj-1,aa,jj-1,rfl,aa,f5,Q1,L0,zL⟩
   have E6:¬(I:Int)<=(jj:Int):=aa;have L0:=hr.out;rw[dO (.inl E5)]at L0;clear hr;subst L0;refine zW tyS ?_;refine u2.out _ _ (m1.out _ _ ?_);exact⟨f4,hs,zL⟩
  clear t0 t1 t4 t12 t13 A0 B0 hs f1 A H1 hJ;rintro A H1 ⟨f1,hs,t0,t1,t4,t12,t13,A0,B0⟩;have hid:=hs.lt;have K0:=hs.sz;obtain⟨lo,Y1,hg⟩:=hs.row;have lv:=hm.ltH (aD hN f1.nx);have O0:=C0.out;clear C0;by_cases hIJ:J<I
  ·rw[ad hIJ]at O0;have hIJi:(J:Int)<(I:Int):=aa;replace O0:=ah O0;replace hs:=ah hs;refine zW tyS ?_;refine q3.out _ _ _ aE (k2.out _ _ (m1.out _ _ ?_));rw[<-O0.out];exact⟨f1,hs.out,vY hJ1 hj1,zL⟩
  rw[ab hIJ,dif_pos (hgd.out hIJ)]at O0;have hIJi:¬(J:Int)<(I:Int):=aa;have b1:I<n:=aa;have b3:J<n:=aa;have d1:I<dd.size:=aa;have d2:J<dd.size:=aa;have hwI:=bw I;have hwJ:IntKind.i64.wrap ((J:Int)-1)=((J-1:Nat):Int):=by rw[aI aa aa];omega
  replace O0:=ah O0;replace K0:=ah K0;replace d1:=ah d1;replace d2:=ah d2;refine zW (zDe tyS (ixC b1) (ixC b3) (swQ hm.len d1.out d2.out)) ?_;apply q1.out;exact⟨J-1+1-(I+1),aa,I+1,J-1,Go.Sort.swp dd I J,rfl,aa,aa,aa,(f1.mod _ (.inr rfl)).mod _ (.inr rfl),⟨by rw[swp_size];exact K0.out,⟨gen,ai _,ao rfl⟩,hid⟩,O0,zL⟩
 generalize B5:Go.Sort.partLoop (ltF cf) a (I+1) (J-1) (Go.Sort.swp dd I J)=Z at O0;clear t0 t1 t4 t12 t13 A0 B0 hs f1 A hg hid lv Y1 d1 d2 K0 hIJi hwI hwJ b1 b3 B5;rintro A H1 ⟨f1,hs,hZ,t0,t1,t13,A0,B0⟩;have hid:=hs.lt;have K0:=hs.sz;obtain⟨lo,Y1,hg⟩:=hs.row;have lv:=hm.ltH (aD hN f1.nx);have d1:Z.1<Z.2.size:=aa;have d2:a<Z.2.size:=aa;replace K0:=ah K0;replace d1:=ah d1;replace d2:=ah d2;refine zW (zDe tyS (ixC hZ) (ixC b2) (swQ hm.len d1.out d2.out)) ?_;exact fin _ _ Z.1 false (Go.Sort.swp Z.2 Z.1 a) qp qp qe ((f1.mod _ (.inr rfl)).mod _ (.inr rfl)) ⟨by rw[swp_size];exact K0.out,⟨gen,ai _,ao rfl⟩,hid⟩ O0.out
end
end Sv
open Go Go.Eng
namespace Sv
section
variable{α:Type}[Inhabited α]{c:α->List AC}{cf:α->α->Int}{cl N:Nat}
theorem abl{lt:α->α->Bool}{a n:Nat}:∀(m i j:Nat)(d:Array α),j+1-i<=m->i<=j+2->j<n->(Go.Sort.partEqLoop lt a i j d).1<=n+1
 |m,i,j,d,hm,E5,hj=>by
  have h2:=Bv (p:=λx=>!lt d[a]! x) (d:=d) E5;rw[Go.Sort.partEqLoop_eq];by_cases hIJ:Go.Sort.scanUp (λx=>!lt d[a]! x) d j i>Go.Sort.scanDown (λx=>lt d[a]! x) d (Go.Sort.scanUp (λx=>!lt d[a]! x) d j i) j
  ·rw[ad hIJ];show Go.Sort.scanUp _ d j i<=_;omega
  rw[ab hIJ];have hg:=Go.Sort.partEqLoop_guard lt a i j d hIJ;have h3:=Go.Sort.scanDown_le (λx=>lt d[a]! x) d (Go.Sort.scanUp (λx=>!lt d[a]! x) d j i) j;cases m with
  |zero=>omega
  |succ m=>exact abl m _ _ _ aa aa aa
theorem XN(hm:Cmp c cf cl N)(H:Hp)(id gen n:Nat)(d:Array α)(a b pv:Nat)(hs:Srt c H id gen n d)(hN:N<=H.nx)(A6:a<b)(hb:b<=n)(hp:pv<n)(hn:n<=65536):
  Con E2 123 [.one (.o (.sl id gen 0 n 3)),.one (.i .i64 a),.one (.i .i64 b),.one (.i .i64 pv),.one (.o (.clo cl []))] H (λk=>k=id) λr H'=>r=.one (.i .i64 ((Go.Sort.partitionEqual (ltF cf) d a b pv).1:Int))/\Srt c H' id gen n (Go.Sort.partitionEqual (ltF cf) d a b pv).2:=by
 have hbd:=hm.bd;refine Con.iM (λH=>Srt c H id gen n d) hs (λH=>N<=H.nx) hN λH hs hN=>?_;refine C1.EP 90 [.tmp 10] Tryz.func123 λtm h0 h1 h2 h3 h4=>?_;generalize E0:Go.Sort.partitionEqual (ltF cf) d a b pv=R;unfold Go.Sort.partitionEqual at E0;have fin:∀(A:ag)(H3:Hp),slot A.tm 10=.one (.i .i64 (R.1:Int))->A.dfr=[]->Fr (λk=>k=id) H H3->Srt c H3 id gen n R.2->∃w H4,aH E2 [.tmp 10] (.ret,A,H3)=.ok [(w,H4)]/\Fr (λk=>k=id) H H4/\∀lg':List Nat,w=.one (.i .i64 (R.1:Int))/\Srt c ⟨H4.t,H4.nx,lg'⟩ id gen n R.2:=λA H3 h1 hd h3 h4=>⟨_,H3,au (.i .i64 (R.1:Int)) (.inr rfl) hd h1,h3,λ_=>⟨rfl,h4⟩⟩;have hid:=hs.lt;have K0:=hs.sz;obtain⟨lo,Y1,hg⟩:=hs.row;have lv:=hm.ltH hN;have W0:=hm.len;have b2:a<n:=aa;have d1:a<d.size:=aa;have d2:pv<d.size:=aa;have I4:=bw a;have N2:IntKind.i64.wrap ((b:Int)-1)=((b-1:Nat):Int):=by rw[aI aa aa];omega
 have hRn:R.1<=n+1:=by rw[<-E0];exact abl _ _ _ _ (ai _) aa aa
 replace E0:=ah E0;replace K0:=ah K0;replace d1:=ah d1;replace d2:=ah d2;refine zW (zDe tyS (ixC b2) (ixC hp) (swQ hm.len d1.out d2.out)) ?_;refine R1.eV (λB H4=>Fr (λk=>k=id) H H4/\Srt c H4 id gen n R.2/\eK B 11 (.i .i64 (R.1:Int)) 90 []) (λK7 m1 m2 m3=>?_) ?_
 ·refine R1.cR λK8 k1 k2 k3 k4=>?_;refine R1.loop (λz A H4=>∃(i j:Nat)(dc:Array α),z=j+1-i/\a+1<=i/\j<n/\i<=j+2/\Fr (λk=>k=id) H H4/\Srt c H4 id gen n dc/\Hd (Go.Sort.partEqLoop (ltF cf) a i j dc=R)/\cZ A id gen n a (slot A.tm 4=.one (.o (.clo cl []))/\lW A i j (A.nt=90/\A.dfr=[]))) ?_ (b-1+1-(a+1))
   ⟨a+1,b-1,Go.Sort.swp d a pv,rfl,aa,aa,aa,((Fr.refl (X:=λk=>k=id) H).mod _ (.inr rfl)).mod _ (.inr rfl),⟨by rw[swp_size];exact K0.out,⟨gen,ai _,ao rfl⟩,hid⟩,E0,zL⟩
  clear h0 h1 h2 h3 h4 tm hs hid I4 N2 hg Y1 lo lv K0 d1 d2 E0 k3;rintro z A1 H1 ⟨i0,j0,dd,rfl,hi1,hj1,hij0,f1,hs,hr,t0,t1,t4,t11,t12,A0,B0⟩;obtain⟨I,hI⟩:∃I,Hd (Go.Sort.scanUp (λx=>!ltF cf dd[a]! x) dd j0 i0=I):=⟨_,rfl⟩;obtain⟨J,hJ⟩:∃J,Hd (Go.Sort.scanDown (λx=>ltF cf dd[a]! x) dd I j0=J):=⟨_,rfl⟩;have C0:=hr.out;rw[Go.Sort.partEqLoop_eq]at C0;have hgd:=@Go.Sort.partEqLoop_guard α _ (ltF cf) a i0 j0 dd;rw[hI.out,hJ.out]at hgd;rw[hI.out,hJ.out]at C0;clear hr;replace C0:=ah C0;have hI1:i0<=I:=by rw[<-hI.out];exact Go.Sort.scanUp_ge _ _ _ _
  have hI2:I<=j0+2:=by rw[<-hI.out];exact Bv hij0
  have hJ1:J<=j0:=by rw[<-hJ.out];exact Go.Sort.scanDown_le _ _ _ _
  have hJ2:I<=J+2:=by rw[<-hJ.out];exact vK hI2
  replace hgd:=ah hgd;refine R1.cR λK9 q1 q2 q3 q4=>?_;refine R1.eV (λB H4=>Fr (λk=>k=id) H H4/\Srt c H4 id gen n dd/\cZ B id gen n a (slot B.tm 4=.one (.o (.clo cl []))/\lW B I j0 (B.nt=90/\B.dfr=[]))) (λKa m1 m2 m3=>?_) ?_
  ·refine R1.cR λKab u1 u2 u3 u4=>?_;refine R1.loop (λz A H4=>∃ii:Nat,z=j0+1-ii/\i0<=ii/\ii<=n+2/\Fr (λk=>k=id) H H4/\Srt c H4 id gen n dd/\Hd (Go.Sort.scanUp (λx=>!ltF cf dd[a]! x) dd j0 ii=I)/\cZ A id gen n a (slot A.tm 4=.one (.o (.clo cl []))/\lW A ii j0 (A.nt=90/\A.dfr=[]))) ?_ (j0+1-i0)
    ⟨i0,rfl,ai _,aa,f1,hs,hI,zL⟩
   clear t0 t1 t4 t11 t12 A0 B0 hs f1 A1 hI u3;rintro z A H4 ⟨ii,rfl,hi1,I2,f4,hs,hr,t0,t1,t4,t11,t12,A0,B0⟩;have hid:=hs.lt;by_cases E5:ii<=j0
   ·have E6:(ii:Int)<=(j0:Int):=aa;have K0:=hs.sz;obtain⟨lo,Y1,hg⟩:=hs.row;have lv:=hm.ltH (aD hN f4.nx);have W0:=hm.len;have b1:ii<n:=aa;have b2:a<n:=aa;have d1:ii<Array.size dd:=aa;have d2:a<Array.size dd:=aa;replace K0:=ah K0;replace d1:=ah d1;replace d2:=ah d2;refine zG (zDe tyS (ixC b1) (ixC b2) (rdQ hm.len d1.out d2.out)) λK hK=>?_;refine WE.con (hm.con H4 dd[a]! dd[ii]! (aD hN f4.nx)) λw' H5 g5 hq=>?_;subst hq;have Q1:=hs.fr g5 aF;obtain⟨hg,hid⟩:=bq g5 hid hg;have f5:=f4.then g5 λ_ h=>h.elim;by_cases V3:cf dd[a]! dd[ii]!<0
    ·have L0:=hr.out;rw[ez (.inr (by show(!ltF cf _ _)=false;unfold ltF;rw[aL V3];rfl))]at L0;clear hr;subst L0;refine zK tyS ?_;refine u2.out _ _ (m1.out _ _ ?_);exact⟨f5,Q1,zL⟩
    have L0:=hr.out;rw[sB E5 (by show(!ltF cf _ _)=true;unfold ltF;rw[aV V3];rfl)]at L0;clear hr;replace L0:=ah L0;have Z7:=bw ii;refine zK tyS ?_;refine R1.cR λK4 v1 v2 v3 v4=>?_;refine zW tyS ?_;apply v1.out;exact⟨j0+1-(ii+1),aa,ii+1,rfl,aa,aa,f5,Q1,L0,zL⟩
   have E6:¬(ii:Int)<=(j0:Int):=aa;have L0:=hr.out;rw[ez (.inl E5)]at L0;clear hr;subst L0;refine zW tyS ?_;refine u2.out _ _ (m1.out _ _ ?_);exact⟨f4,hs,zL⟩
  clear t0 t1 t4 t11 t12 A0 B0 hs f1 A1 H1 hI;rintro A H1 ⟨f1,hs,t0,t1,t4,t11,t12,A0,B0⟩;refine R1.eV (λB H4=>Fr (λk=>k=id) H H4/\Srt c H4 id gen n dd/\cZ B id gen n a (slot B.tm 4=.one (.o (.clo cl []))/\lW B I J (B.nt=90/\B.dfr=[]))) (λKb m1 m2 m3=>?_) ?_
  ·refine R1.cR λKbb u1 u2 u3 u4=>?_;refine R1.loop (λz A H4=>∃jj:Nat,z=jj/\jj<=j0/\Fr (λk=>k=id) H H4/\Srt c H4 id gen n dd/\Hd (Go.Sort.scanDown (λx=>ltF cf dd[a]! x) dd I jj=J)/\cZ A id gen n a (slot A.tm 4=.one (.o (.clo cl []))/\lW A I jj (A.nt=90/\A.dfr=[]))) ?_ j0
    ⟨j0,rfl,ai _,f1,hs,hJ,zL⟩
   clear t0 t1 t4 t11 t12 A0 B0 hs f1 A hJ u3;rintro jj A H4 ⟨_,rfl,hj1,f4,hs,hr,t0,t1,t4,t11,t12,A0,B0⟩;have hid:=hs.lt;by_cases E5:I<=jj
   ·have E6:(I:Int)<=(jj:Int):=aa;have K0:=hs.sz;obtain⟨lo,Y1,hg⟩:=hs.row;have lv:=hm.ltH (aD hN f4.nx);have W0:=hm.len;have b1:jj<n:=aa;have b2:a<n:=aa;have d1:jj<Array.size dd:=aa;have d2:a<Array.size dd:=aa;replace K0:=ah K0;replace d1:=ah d1;replace d2:=ah d2;refine zG (zDe tyS (ixC b1) (ixC b2) (rdQ hm.len d1.out d2.out)) λK hK=>?_;refine WE.con (hm.con H4 dd[a]! dd[jj]! (aD hN f4.nx)) λw' H5 g5 hq=>?_;subst hq;have Q1:=hs.fr g5 aF;obtain⟨hg,hid⟩:=bq g5 hid hg;have f5:=f4.then g5 λ_ h=>h.elim;have hjn:jj≠0:=aa;by_cases V3:cf dd[a]! dd[jj]!<0
    ·have L0:=hr.out;rw[my E5 hjn (by show ltF cf _ _=true;exact aL V3)]at L0;clear hr;replace L0:=ah L0;have hwj:IntKind.i64.wrap ((jj:Int)-1)=((jj-1:Nat):Int):=by rw[aI aa aa];omega
     refine zK tyS ?_;refine R1.cR λK4 v1 v2 v3 v4=>?_;refine zW tyS ?_;apply v1.out;exact⟨jj-1,aa,jj-1,rfl,aa,f5,Q1,L0,zL⟩
    have L0:=hr.out;rw[dO (.inr (by show ltF cf _ _=false;exact aV V3))]at L0;clear hr;subst L0;refine zK tyS ?_;refine u2.out _ _ (m1.out _ _ ?_);exact⟨f5,Q1,zL⟩
   have E6:¬(I:Int)<=(jj:Int):=aa;have L0:=hr.out;rw[dO (.inl E5)]at L0;clear hr;subst L0;refine zW tyS ?_;refine u2.out _ _ (m1.out _ _ ?_);exact⟨f4,hs,zL⟩
  clear t0 t1 t4 t11 t12 A0 B0 hs f1 A H1 hJ;rintro A H1 ⟨f1,hs,t0,t1,t4,t11,t12,A0,B0⟩;have hid:=hs.lt;have K0:=hs.sz;obtain⟨lo,Y1,hg⟩:=hs.row;have lv:=hm.ltH (aD hN f1.nx);have O0:=C0.out;clear C0;by_cases hIJ:J<I
  ·rw[ad hIJ]at O0;have hIJi:(J:Int)<(I:Int):=aa;replace O0:=ah O0;replace hs:=ah hs;refine zW tyS ?_;refine q3.out _ _ _ aE (k2.out _ _ (m1.out _ _ ?_));rw[<-O0.out];exact⟨f1,hs.out,zL⟩
  rw[ab hIJ]at O0;have hIJi:¬(J:Int)<(I:Int):=aa;have hgd2:=hgd.out hIJ;have b1:I<n:=aa;have b3:J<n:=aa;have d1:I<dd.size:=aa;have d2:J<dd.size:=aa;have hwI:=bw I;have hwJ:IntKind.i64.wrap ((J:Int)-1)=((J-1:Nat):Int):=by rw[aI aa aa];omega
  replace O0:=ah O0;replace K0:=ah K0;replace d1:=ah d1;replace d2:=ah d2;replace hgd2:=ah hgd2;refine zW (zDe tyS (ixC b1) (ixC b3) (swQ hm.len d1.out d2.out)) ?_;apply q1.out;exact⟨J-1+1-(I+1),hgd2.out,I+1,J-1,Go.Sort.swp dd I J,rfl,aa,aa,aa,(f1.mod _ (.inr rfl)).mod _ (.inr rfl),⟨by rw[swp_size];exact K0.out,⟨gen,ai _,ao rfl⟩,hid⟩,O0,zL⟩
 clear h0 h1 h2 h3 h4 tm hs hid I4 N2 hg Y1 lo lv K0 d1 d2 E0;rintro A H1 ⟨f1,hs,t11,A0,B0⟩;replace hs:=ah hs;refine zW tyS ?_;exact fin _ _ qp qe f1 hs.out
end
end Sv
open Go Go.Eng
namespace Sv
def Wo:aq prog 122=true:=ae
section
variable{α:Type}[Inhabited α]
theorem Vr{lt:α->α->Bool}{d:Array α}{b i:Nat}(h:i<b)(hp:lt d[i]! d[i-1]! = false):Go.Sort.scanSorted lt d b i=Go.Sort.scanSorted lt d b (i+1):=by rw[Go.Sort.scanSorted,ad (by rw[aL h,hp];rfl)]
theorem vP{lt:α->α->Bool}{d:Array α}{b i:Nat}(h:¬i<b\/lt d[i]! d[i-1]! = true):Go.Sort.scanSorted lt d b i=i:=by
 rw[Go.Sort.scanSorted,ab];rcases h with h|h
 ·rw[aV h,Bool.false_and];exact zA8
 rw[h,Bool.not_true,Bool.and_false];exact zA8
theorem YQ{lt:α->α->Bool}{d:Array α}{b:Nat}:∀(m i:Nat),b-i<=m->i<=b->i<=Go.Sort.scanSorted lt d b i/\Go.Sort.scanSorted lt d b i<=b
 |0,i,h,hi=>by rw[vP (.inl aa)];exact⟨ai _,hi⟩
 |m+1,i,h,hi=>by
  by_cases hp:i<b/\lt d[i]! d[i-1]! = false
  ·rw[Vr hp.1 hp.2];have hp1:=hp.1;have:=YQ (lt:=lt) (d:=d) (b:=b) m (i+1) aa aa;exact⟨aa,this.2⟩
  rw[vP (by
   by_cases hq:i<b
   ·exact .inr (by have:=λh=>hp ⟨hq,h⟩;simpa using this)
   exact .inl hq)]
  exact⟨ai _,hi⟩
variable{c:α->List AC}{cf:α->α->Int}{cl N:Nat}
theorem UL(hm:Cmp c cf cl N)(H:Hp)(id gen n:Nat)(d:Array α)(a b:Nat)(hs:Srt c H id gen n d)(hN:N<=H.nx)(A6:a<b)(hb:b<=n)(hn:n<=65536):
  Con E2 122 [.one (.o (.sl id gen 0 n 3)),.one (.i .i64 a),.one (.i .i64 b),.one (.o (.clo cl []))] H (λk=>k=id) λr H'=>r=.one (.b (Go.Sort.partialInsertionSort (ltF cf) d a b).2)/\Srt c H' id gen n (Go.Sort.partialInsertionSort (ltF cf) d a b).1:=by
 have hbd:=hm.bd;refine Con.iM (λH=>Srt c H id gen n d) hs (λH=>N<=H.nx) hN λH hs hN=>?_;refine C1.nk 141 [.tmp 8] Tryz.func122 λtm h0 h1 h2 h3=>?_;generalize E0:Go.Sort.partialInsertionSort (ltF cf) d a b=R;unfold Go.Sort.partialInsertionSort at E0;have fin:∀(A:ag)(H3:Hp)(x:Bool)(dc:Array α),slot A.tm 8=.one (.b x)->A.dfr=[]->Fr (λk=>k=id) H H3->Srt c H3 id gen n dc->(dc,x)=R->∃w H4,aH E2 [.tmp 8] (.ret,A,H3)=.ok [(w,H4)]/\Fr (λk=>k=id) H H4/\∀lg':List Nat,w=.one (.b R.2)/\Srt c ⟨H4.t,H4.nx,lg'⟩ id gen n R.1:=λA H3 x dc h1 hd h3 h4 h5=>⟨_,H3,au (.b x) (.inr rfl) hd h1,h3,λ_=>by rw[<-h5];exact⟨rfl,h4⟩⟩;have hid:=hs.lt;have I4:=bw a;replace E0:=ah E0;refine zW tyS ?_;refine R1.ed λK k1 k2 k3 k4=>?_;refine R1.loop (λz A H3=>∃(i:Nat)(dc:Array α),z<=5/\a+1<=i/\i<=b/\Fr (λk=>k=id) H H3/\Srt c H3 id gen n dc/\Hd (Go.Sort.partialIns (ltF cf) a b z i dc=R)/\cZ A id gen n a (eJ A b (slot A.tm 3=.one (.o (.clo cl []))/\lU A i (5-z:Nat) (A.nt=141/\A.dfr=[])))) ?_ 5
  ⟨a+1,d,ai _,ai _,A6,Fr.refl _,hs,E0,zL⟩
 clear h0 h1 h2 h3 tm hs hid I4 E0 k3;rintro z A H3 ⟨i0,dc,hz5,hi1,I2,f3,hs,hr,t0,t1,t2,t3,t9,t10,A0,B0⟩;have hid:=hs.lt;cases z with
 |zero=>have U4:¬(((5-0:Nat):Int))<5:=aE;have C0:(dc,false)=R:=hr;replace C0:=ah C0;clear hr;refine zW tyS ?_;apply k2.out;refine zW tyS ?_;exact fin _ _ false _ qp qe f3 hs C0.out
 |succ z=>
 have U4:(((5-(z+1):Nat):Int))<5:=aa;have hwz:IntKind.i64.wrap (((5-(z+1):Nat):Int)+1)=((5-z:Nat):Int):=by rw[aI aa aa];omega
 have C0:=hr.out;rw[Go.Sort.partialIns]at C0;clear hr;obtain⟨I,hI⟩:∃I,Hd (Go.Sort.scanSorted (ltF cf) dc b i0=I):=⟨_,rfl⟩;obtain⟨hI1,hI2⟩:=YQ (lt:=ltF cf) (d:=dc) (b-i0) i0 (ai _) I2;rw[hI.out]at C0 hI1 hI2;dsimp only at C0
 replace C0:=ah C0;generalize hcz:((5-(z+1):Nat):Int)=cz at U4 hwz t10;replace hcz:=ah hcz;refine zW tyS ?_;refine R1.ed λK2 q1 q2 q3 q4=>?_;refine R1.eV (λB H4=>Fr (λk=>k=id) H H4/\Srt c H4 id gen n dc/\cZ B id gen n a (eJ B b (slot B.tm 3=.one (.o (.clo cl []))/\lU B I cz (B.nt=141/\B.dfr=[])))) (λK3 m1 m2 m3=>?_) ?_
 ·refine R1.cR λK4 u1 u2 u3 u4=>?_;refine R1.loop (λz A H4=>∃ii:Nat,z=b-ii/\a+1<=ii/\ii<=b/\Fr (λk=>k=id) H H4/\Srt c H4 id gen n dc/\Hd (Go.Sort.scanSorted (ltF cf) dc b ii=I)/\cZ A id gen n a (eJ A b (slot A.tm 3=.one (.o (.clo cl []))/\lU A ii cz (A.nt=141/\A.dfr=[])))) ?_ (b-i0)
   ⟨i0,rfl,hi1,I2,f3,hs,hI,zL⟩
  clear t0 t1 t2 t3 t9 t10 A0 B0 A hs f3 H3 hid hI u3 U4 hwz;rintro z A H4 ⟨ii,rfl,hi1,I2,f4,hs,hr,t0,t1,t2,t3,t9,t10,A0,B0⟩;have hid:=hs.lt;by_cases hib:ii<b
  ·have hibi:(ii:Int)<(b:Int):=aa;obtain⟨k,rfl⟩:∃k,ii=k+1:=⟨ii-1,aa⟩;have hwk:IntKind.i64.wrap (((k+1:Nat):Int)-1)=(k:Int):=by rw[aI aa aa];omega
   have K0:=hs.sz;obtain⟨lo,Y1,hg⟩:=hs.row;have lv:=hm.ltH (aD hN f4.nx);have W0:=hm.len;have b1:k+1<n:=aa;have b2:k<n:=aa;have d1:k+1<Array.size dc:=aa;have d2:k<Array.size dc:=aa;replace K0:=ah K0;replace d1:=ah d1;replace d2:=ah d2;refine zG (zDe tyS (ixC b1) (ixC b2) (rdQ hm.len d1.out d2.out)) λK hK=>?_;refine WE.con (hm.con H4 dc[k+1]! dc[k]! (aD hN f4.nx)) λw' H5 g5 hq=>?_;subst hq;have Q1:=hs.fr g5 aF;obtain⟨hg,hid⟩:=bq g5 hid hg;have f5:=f4.then g5 λ_ h=>h.elim;by_cases V3:cf dc[k+1]! dc[k]!<0
   ·have L0:=hr.out;rw[vP (.inr (by show ltF cf dc[k+1]! dc[k]! = true;exact aL V3))]at L0;clear hr;subst L0;refine zK tyS ?_;refine u2.out _ _ (m1.out _ _ ?_);exact⟨f5,Q1,zL⟩
   have L0:=hr.out;rw[Vr hib (by show ltF cf dc[k+1]! dc[k]! = false;exact aV V3)]at L0;clear hr;replace L0:=ah L0;have Z7:IntKind.i64.wrap (((k+1:Nat):Int)+1)=((k+1+1:Nat):Int):=by rw[aI aa aa];omega
   refine zK tyS ?_;refine R1.cR λK4 v1 v2 v3 v4=>?_;refine zW tyS ?_;apply v1.out;exact⟨b-(k+1+1),aa,k+1+1,rfl,aa,aa,f5,Q1,L0,zL⟩
  have hibi:¬(ii:Int)<(b:Int):=aa;have L0:=hr.out;rw[vP (.inl hib)]at L0;clear hr;subst L0;refine zW tyS ?_;refine u2.out _ _ (m1.out _ _ ?_);exact⟨f4,hs,zL⟩
 clear t0 t1 t2 t3 t9 t10 A0 B0 A hs f3 hid hI H3 U4;rintro A H3 ⟨f3,hs,t0,t1,t2,t3,t9,t10,A0,B0⟩;have hid:=hs.lt;have O0:=C0.out;clear C0;by_cases hIb:I=b
 ·rw[ad hIb]at O0;have hIbi:((I:Int)==(b:Int))=true:=by rw[hIb];exact fl _
  replace O0:=ah O0;replace hIb:=ah hIb;refine zW tyS ?_;exact q4.out _ _ (k4.out _ _ (fin _ _ true _ qp qe f3 hs O0.out))
 rw[ab hIb]at O0;have hIbi:((I:Int)==(b:Int))=false:=aW aa;have hwba:IntKind.i64.wrap ((b:Int)-(a:Int))=((b-a:Nat):Int):=by rw[aI aa aa];omega
 by_cases h50:b-a<50
 ·rw[ad h50]at O0;have h50i:((b-a:Nat):Int)<50:=aa;replace O0:=ah O0;replace hIb:=ah hIb;refine zW tyS ?_;exact q4.out _ _ (k4.out _ _ (fin _ _ false _ qp qe f3 hs O0.out))
 rw[ab h50]at O0;have h50i:¬((b-a:Nat):Int)<50:=aa;have hwI:IntKind.i64.wrap ((I:Int)-1)=((I-1:Nat):Int):=by rw[aI aa aa];omega
 have hwIa:IntKind.i64.wrap ((I:Int)-(a:Int))=((I-a:Nat):Int):=by rw[aI aa aa];omega
 have hwbI:IntKind.i64.wrap ((b:Int)-(I:Int))=((b-I:Nat):Int):=by rw[aI aa aa];omega
 have K0:=hs.sz;obtain⟨lo,Y1,hg⟩:=hs.row;have lv:=hm.ltH (aD hN f3.nx);have W0:=hm.len;have hIn:I<n:=aa;have hIn1:I-1<n:=aa;have d1:I<dc.size:=aa;have d2:I-1<dc.size:=aa;replace O0:=ah O0;replace K0:=ah K0;replace d1:=ah d1;replace d2:=ah d2;refine zW (zDe tyS (ixC hIn) (ixC hIn1) (swQ hm.len d1.out d2.out)) ?_;obtain⟨e1,l7⟩:∃e1,Hd (Go.Sort.swp dc I (I-1)=e1):=⟨_,rfl⟩;have B5:=O0.out;rw[l7.out]at B5;obtain⟨e2,he2⟩:∃e2,Hd ((if I-a>=2 then Go.Sort.shiftDown (ltF cf) (I-1) e1 else e1)=e2):=⟨_,rfl⟩;rw[he2.out]at B5;obtain⟨e3,he3⟩:∃e3,Hd ((if b-I>=2 then Go.Sort.shiftUp (ltF cf) b (I+1) e2 else e2)=e3):=⟨_,rfl⟩;rw[he3.out]at B5;clear O0;replace B5:=ah B5;have R4:Srt c ((H3.mod id (.arr (cm c (dc.setIfInBounds I dc[I-1]!)) 63 gen gen)).mod id (.arr (cm c (Go.Sort.swp dc I (I-1))) 63 gen gen)) id gen n e1:=by rw[<-l7.out];exact⟨by rw[swp_size];exact K0.out,⟨gen,ai _,ao rfl⟩,hid⟩
 have f4:Fr (λk=>k=id) H ((H3.mod id (.arr (cm c (dc.setIfInBounds I dc[I-1]!)) 63 gen gen)).mod id (.arr (cm c (Go.Sort.swp dc I (I-1))) 63 gen gen)):=(f3.mod _ (.inr rfl)).mod _ (.inr rfl);refine R1.gen (λA4 H4=>Fr (λk=>k=id) H H4/\Srt c H4 id gen n e1/\cZ A4 id gen n a (eJ A4 b (slot A4.tm 3=.one (.o (.clo cl []))/\lU A4 I cz (eK A4 65 (.b (decide ((2:Int)<=((I-a:Nat):Int)))) 141 [])))) ⟨f4,R4,zL⟩ ?_;clear t0 t1 t2 t3 t9 t10 A0 B0 A hs f3 hid hg Y1 lo lv R4 f4 l7 K0 d1 d2 H3;rintro A H3 ⟨f3,hs,t0,t1,t2,t3,t9,t10,t65,A0,B0⟩;have hid:=hs.lt;refine R1.eV (λB H4=>Fr (λk=>k=id) H H4/\Srt c H4 id gen n e2/\cZ B id gen n a (eJ B b (slot B.tm 3=.one (.o (.clo cl []))/\lU B I cz (B.nt=141/\B.dfr=[])))) (λK3 m1 m2 m3=>?_) ?_
 ·by_cases hIa:2<=I-a
  case neg=>have hIai:¬(2:Int)<=((I-a:Nat):Int):=aa;have he:=he2.out;rw[ab hIa]at he;subst he;clear he2;refine zW tyS ?_;apply m1.out;exact⟨f3,hs,zL⟩
  have hIai:(2:Int)<=((I-a:Nat):Int):=aa;have he:=he2.out;rw[ad hIa]at he;clear he2;replace he:=ah he;refine zW tyS ?_;refine R1.cR λK4 u1 u2 u3 u4=>?_;refine R1.loop (λz A H4=>∃(j:Nat)(dj:Array α),z=j/\j<=I-1/\Fr (λk=>k=id) H H4/\Srt c H4 id gen n dj/\Hd (Go.Sort.shiftDown (ltF cf) j dj=e2)/\cZ A id gen n a (eJ A b (slot A.tm 3=.one (.o (.clo cl []))/\lU A I cz (eK A 11 (.i .i64 (j:Int)) 141 [])))) ?_ (I-1)
   ⟨I-1,e1,rfl,ai _,f3,hs,he,zL⟩
  clear t0 t1 t2 t3 t9 t10 t65 A0 B0 A hs f3 hid he u3 H3;rintro j A H4 ⟨_,dj,rfl,hj,f4,hs,hr,t0,t1,t2,t3,t9,t10,t11,A0,B0⟩;have hid:=hs.lt;cases j with
  |zero=>have U4:¬(1:Int)<=((0:Nat):Int):=aE;have L0:dj=e2:=hr;subst L0;clear hr;refine zW tyS ?_;refine u2.out _ _ (m1.out _ _ ?_);exact⟨f4,hs,zL⟩
  |succ k=>
   have U4:(1:Int)<=((k+1:Nat):Int):=aa;have hwk:IntKind.i64.wrap (((k+1:Nat):Int)-1)=(k:Int):=by rw[aI aa aa];omega
   have K0:=hs.sz;obtain⟨lo,Y1,hg⟩:=hs.row;have lv:=hm.ltH (aD hN f4.nx);have b1:k+1<n:=aa;have b2:k<n:=aa;have d1:k+1<Array.size dj:=aa;have d2:k<Array.size dj:=aa;replace K0:=ah K0;replace d1:=ah d1;replace d2:=ah d2;refine zW tyS ?_;refine R1.ed λK5 v1 v2 v3 v4=>?_;refine zG (zDe tyS (ixC b1) (ixC b2) (rdQ hm.len d1.out d2.out)) λK hK=>?_;refine WE.con (hm.con H4 dj[k+1]! dj[k]! (aD hN f4.nx)) λw' H5 g5 hq=>?_;subst hq;have Q1:=hs.fr g5 aF;obtain⟨hg,hid⟩:=bq g5 hid hg;have lv:=hm.ltH (aD hN (aD f4.nx g5.nx));have f5:=f4.then g5 λ_ h=>h.elim;have L0:=hr.out;rw[Go.Sort.shiftDown]at L0;by_cases V3:cf dj[k+1]! dj[k]!<0
   ·rw[ab (by unfold ltF;rw[aL V3];decide)]at L0;clear hr hs Q1;replace L0:=ah L0;refine zK (zDe tyS (ixC b1) (ixC b2) (swQ hm.len d1.out d2.out)) ?_;apply v1.out;refine zW tyS ?_;exact⟨k,aZ _,k,Go.Sort.swp dj (k+1) k,rfl,aa,(f5.mod _ (.inr rfl)).mod _ (.inr rfl),⟨by rw[swp_size];exact K0.out,⟨gen,ai _,ao rfl⟩,hid⟩,L0,zL⟩
   rw[ad (by unfold ltF;rw[aV V3];rfl)]at L0;subst L0;clear hr;refine zK tyS ?_;refine v3.out _ _ _ aE (u2.out _ _ (m1.out _ _ ?_));exact⟨f5,Q1,zL⟩
 clear t0 t1 t2 t3 t9 t10 t65 A0 B0 A hs f3 hid he2 H3;rintro A H3 ⟨f3,hs,t0,t1,t2,t3,t9,t10,A0,B0⟩;have hid:=hs.lt;refine zW tyS ?_;refine R1.aaJ (λB H4=>Fr (λk=>k=id) H H4/\Srt c H4 id gen n e3/\cZ B id gen n a (eJ B b (slot B.tm 3=.one (.o (.clo cl []))/\lU B I cz (B.nt=141/\B.dfr=[])))) (λK3 m1 m2 m3=>?_) ?_
 ·by_cases hIa:2<=b-I
  case neg=>have hIai:¬(2:Int)<=((b-I:Nat):Int):=aa;have he:=he3.out;rw[ab hIa]at he;subst he;clear he3;refine zW tyS ?_;apply m1.out;exact⟨f3,hs,zL⟩
  have hIai:(2:Int)<=((b-I:Nat):Int):=aa;have hwI1:=bw I;have he:=he3.out;rw[ad hIa]at he;clear he3;replace he:=ah he;refine zW tyS ?_;refine R1.cR λK4 u1 u2 u3 u4=>?_;refine R1.loop (λz A H4=>∃(j:Nat)(dj:Array α),z=b-j/\1<=j/\j<=b/\Fr (λk=>k=id) H H4/\Srt c H4 id gen n dj/\Hd (Go.Sort.shiftUp (ltF cf) b j dj=e3)/\cZ A id gen n a (eJ A b (slot A.tm 3=.one (.o (.clo cl []))/\lU A I cz (mX A j (A.nt=141/\A.dfr=[]))))) ?_ (b-(I+1))
   ⟨I+1,e2,rfl,aa,aa,f3,hs,he,zL⟩
  clear t0 t1 t2 t3 t9 t10 A0 B0 A hs f3 hid he u3 H3 hwI1;rintro z A H4 ⟨j,dj,rfl,hj1,hj,f4,hs,hr,t0,t1,t2,t3,t9,t10,t12,A0,B0⟩;have hid:=hs.lt;have L0:=hr.out;rw[Go.Sort.shiftUp]at L0;by_cases hjb:j<b
  case neg=>have U4:¬(j:Int)<(b:Int):=aa;rw[ab hjb]at L0;subst L0;clear hr;refine zW tyS ?_;refine u2.out _ _ (m1.out _ _ ?_);exact⟨f4,hs,zL⟩
  have U4:(j:Int)<(b:Int):=aa;rw[ad hjb]at L0;obtain⟨k,rfl⟩:∃k,j=k+1:=⟨j-1,aa⟩;have hwk:IntKind.i64.wrap (((k+1:Nat):Int)-1)=(k:Int):=by rw[aI aa aa];omega
  have hwk1:IntKind.i64.wrap (((k+1:Nat):Int)+1)=((k+1+1:Nat):Int):=by rw[aI aa aa];omega
  have K0:=hs.sz;obtain⟨lo,Y1,hg⟩:=hs.row;have lv:=hm.ltH (aD hN f4.nx);have b1:k+1<n:=aa;have b2:k<n:=aa;have d1:k+1<Array.size dj:=aa;have d2:k<Array.size dj:=aa;replace K0:=ah K0;replace d1:=ah d1;replace d2:=ah d2;replace L0:(if(!ltF cf dj[k+1]! dj[k]!)=true then dj else Go.Sort.shiftUp (ltF cf) b (k+1+1) (Go.Sort.swp dj (k+1) k))=e3:=L0;replace L0:=ah L0;clear hr;refine zW tyS ?_;refine R1.ed λK5 v1 v2 v3 v4=>?_;refine zG (zDe tyS (ixC b1) (ixC b2) (rdQ hm.len d1.out d2.out)) λK hK=>?_;refine WE.con (hm.con H4 dj[k+1]! dj[k]! (aD hN f4.nx)) λw' H5 g5 hq=>?_;subst hq;have Q1:=hs.fr g5 aF;obtain⟨hg,hid⟩:=bq g5 hid hg;have lv:=hm.ltH (aD hN (aD f4.nx g5.nx));have f5:=f4.then g5 λ_ h=>h.elim;have hr4:=L0.out;clear L0;by_cases V3:cf dj[k+1]! dj[k]!<0
  ·rw[ab (by unfold ltF;rw[aL V3];decide)]at hr4;clear hs Q1;replace hr4:=ah hr4;refine zK (zDe tyS (ixC b1) (ixC b2) (swQ hm.len d1.out d2.out)) ?_;apply v1.out;refine zW tyS ?_;exact⟨b-(k+1+1),aa,k+1+1,Go.Sort.swp dj (k+1) k,rfl,aa,aa,(f5.mod _ (.inr rfl)).mod _ (.inr rfl),⟨by rw[swp_size];exact K0.out,⟨gen,ai _,ao rfl⟩,hid⟩,hr4,zL⟩
  rw[ad (by unfold ltF;rw[aV V3];rfl)]at hr4;subst hr4;refine zK tyS ?_;refine v3.out _ _ _ aE (u2.out _ _ (m1.out _ _ ?_));exact⟨f5,Q1,zL⟩
 clear t0 t1 t2 t3 t9 t10 A0 B0 A hs f3 hid he3 H3;rintro A H3 ⟨f3,hs,t0,t1,t2,t3,t9,t10,A0,B0⟩;replace hs:=ah hs;apply q1.out;refine zW tyS ?_;exact⟨z,aZ _,I,e3,aa,aa,hI2,f3,hs.out,B5,zL⟩
end
end Sv
open Go Go.Eng
namespace Sv
def tv:aq prog 70=true:=ae
def Hw:aq prog 41=true:=ae
def tyH:=zDd tyS arQ (tS (show(8:Int)≠0 by decide))
section
variable{α:Type}[Inhabited α]{c:α->List AC}{cf:α->α->Int}{cl N:Nat}
theorem XK(hm:Cmp c cf cl N)(hsw:Go.Sort.SWO (ltF cf))(id gen n:Nat)(hn:n<=65536):∀(m:Nat)(H:Hp)(d:Array α)(a b lim:Nat),b-a<=m->Srt c H id gen n d->N<=H.nx->a<=b->b<=n->lim<=64->Go.Sort.Below (ltF cf) a b d ->
  Con E2 70 [.one (.o (.sl id gen 0 n 3)),.one (.i .i64 a),.one (.i .i64 b),.one (.i .i64 lim),.one (.o (.clo cl []))] H (λk=>k=id) λr H'=>r=.tup []/\∃d',Srt c H' id gen n d'/\Go.Sort.PermIn a b d d'/\Go.Sort.SortedIn (ltF cf) a b d':=by
 have hbd:=hm.bd;intro m;induction m using Nat.strongRecOn with
 |ind m ih=>
 intro H d a0 b0 lim hm0 hs hN hab0 hb0 W2 hBl0;refine Con.iM (λH=>Srt c H id gen n d) hs (λH=>N<=H.nx) hN λH hs hN=>?_;refine C1.EP 148 [] Tryz.func70 λtm h0 h1 h2 h3 h4=>?_;have fin:∀(e:ax)(A:ag)(H3:Hp)(dc:Array α),(e=.normal\/e=.ret)->A.dfr=[]->Fr (λk=>k=id) H H3->Srt c H3 id gen n dc->Go.Sort.PermIn a0 b0 d dc/\Go.Sort.SortedIn (ltF cf) a0 b0 dc->∃w H4,aH E2 [] (e,A,H3)=.ok [(w,H4)]/\Fr (λk=>k=id) H H4/\∀lg':List Nat,w=.tup []/\∃d',Srt c ⟨H4.t,H4.nx,lg'⟩ id gen n d'/\Go.Sort.PermIn a0 b0 d d'/\Go.Sort.SortedIn (ltF cf) a0 b0 d':=λe A H3 dc he h1 h2 h3 h4=>⟨_,H3,bp he h1,h2,λ_=>⟨rfl,dc,h3,h4⟩⟩;replace hBl0:=ah hBl0;replace ih:=ah ih;refine zW tyS ?_;refine R1.cR λK k1 k2 k3 k4=>?_;refine R1.loop (λz A H3=>∃(a b lim:Nat)(wb wp:Bool)(dc:Array α),z=b-a/\a0<=a/\a<=b/\b<=b0/\lim<=64/\Fr (λk=>k=id) H H3/\Srt c H3 id gen n dc/\Hd (Go.Sort.Below (ltF cf) a b dc)/\Hd (∀R,Go.Sort.PermIn a b dc R->Go.Sort.SortedIn (ltF cf) a b R->Go.Sort.PermIn a0 b0 d R/\Go.Sort.SortedIn (ltF cf) a0 b0 R) /\
   slot A.tm 0=.one ((.o (.sl id gen 0 n 3)))/\slot A.tm 1=.one (.i .i64 (a:Int))/\slot A.tm 2=.one (.i .i64 (b:Int))/\slot A.tm 3=.one (.i .i64 (lim:Int))/\slot A.tm 4=.one ((.o (.clo cl [])))/\slot A.tm 10=.one (.b wb)/\slot A.tm 11=.one (.b wp)/\A.nt=148/\A.dfr=[]) ?_ (b0-a0)
  ⟨a0,b0,lim,true,true,d,rfl,ai _,hab0,ai _,W2,Fr.refl _,hs,hBl0,λR h1 h2=>⟨h1,h2⟩,zL⟩
 clear h0 h1 h2 h3 h4 tm hs hBl0 k3;rintro z A H3 ⟨a,b,lim,wb,wp,dc,rfl,haa,A6,hbb0,W2,f3,hs,hBl,hct,t0,t1,t2,t3,t4,t10,t11,A0,B0⟩;have hid:=hs.lt;have hN3:=aD hN f3.nx;obtain⟨L,hL⟩:∃L,L=b-a:=⟨_,rfl⟩;have hwL:IntKind.i64.wrap ((b:Int)-(a:Int))=(L:Int):=by rw[aI aa aa];omega
 refine R1.cR λK2 q1 q2 q3 q4=>?_;by_cases h12:L<=12
 ·have h12i:(L:Int)<=12:=aa;replace hL:=ah hL;refine zW tyS ?_;refine zG (qA tyS zN) λK5 U0=>?_;refine WE.con (Fs hm H3 id gen n dc a b hs hN3 A6 aa aa) λw' H4 g4⟨hw,O3⟩=>?_;subst hw;obtain⟨x1,x2⟩:=Go.Sort.insertionSort_holds hsw dc a b A6 (by have:=hs.sz;omega);have N3:=hct.out _ x1 x2;replace x1:=ah x1;replace x2:=ah x2;replace O3:=ah O3;replace N3:=ah N3;refine zK tyS ?_;exact q4.out _ _ (k4.out _ _ (fin _ _ _ _ (.inr rfl) qe (f3.then g4 λ_ h=>.inr h) O3.out N3.out))
 have h12i:¬(L:Int)<=12:=aa;by_cases Y4:lim=0
 ·have hl0b:((lim:Int)==0)=true:=by rw[Y4];rfl
  replace hL:=ah hL;replace Y4:=ah Y4;refine zW tyS ?_;refine zG (qA tyS Nh) λK5 U0=>?_;refine WE.con (Ix hm H3 id gen n dc a b hs hN3 A6 aa aa) λw' H4 g4⟨hw,O3⟩=>?_;subst hw;obtain⟨x1,x2⟩:=Go.Sort.heapSort_holds hsw dc a b A6 (by have:=hs.sz;omega);have N3:=hct.out _ x1 x2;replace x1:=ah x1;replace x2:=ah x2;replace O3:=ah O3;replace N3:=ah N3;refine zK tyS ?_;exact q4.out _ _ (k4.out _ _ (fin _ _ _ _ (.inr rfl) qe (f3.then g4 λ_ h=>.inr h) O3.out N3.out))
 have hl0b:((lim:Int)==0)=false:=aW aa;have hwl:IntKind.i64.wrap ((lim:Int)-1)=((lim-1:Nat):Int):=by rw[aI aa aa];omega
 have V5:a<b:=aa;have hL12:12<b-a:=aa;replace hL:=ah hL;replace Y4:=ah Y4;refine zW tyS ?_;refine R1.eV (λB H4=>∃(l1:Nat)(d1:Array α),l1<=64/\Fr (λk=>k=id) H H4/\Srt c H4 id gen n d1/\Hd (Go.Sort.PermIn a b dc d1)/\cZ B id gen n a (eJ B b (dw B l1 (gU B.tm 4 10 11 (.o (.clo cl [])) (.b wb) (.b wp) (mX B L (B.nt=148/\B.dfr=[])))))) (λK3 m1 m2 m3=>?_) ?_
 ·cases wb with
  |true=>refine zW tyS ?_;apply m1.out;exact⟨lim,dc,W2,f3,hs,Go.Sort.permIn_refl dc a b,zL⟩
  |false=>refine zW tyS ?_;refine zG (qA tyS Si) λK5 U0=>?_;refine WE.con (Np hm H3 id gen n dc a b hs hN3 V5 aa hn) λw' H4 g4⟨hw,O3⟩=>?_;subst hw;have x1:=Go.Sort.breakPatterns_holds dc a b A6 (by have:=hs.sz;omega);replace x1:=ah x1;replace O3:=ah O3;refine zK tyS ?_;apply m1.out;exact⟨lim-1,_,aa,f3.then g4 (λ_ h=>.inr h),O3.out,x1,zL⟩
 have hdz0:dc.size=n:=hs.sz;clear t0 t1 t2 t3 t4 t10 t11 A0 B0 A hs f3 hid hN3 H3 hwl W2 hl0b Y4 lim;rintro A H3 ⟨lim,d1,W2,f3,hs,hp1,t0,t1,t2,t3,t4,t10,t11,t12,A0,B0⟩;have hid:=hs.lt;have hN3:=aD hN f3.nx;refine zG (qA tyS Ni) λK5 U0=>?_;have U3:=Go.Sort.choosePivot_holds (ltF cf) d1 a b V5;refine WE.con (Jy hm H3 id gen n d1 a b hs hN3 V5 aa aa) λw' H4 g4 hw=>?_;subst hw;have O3:=hs.fr g4 aF;have P7:=O3.lt;have f4:Fr (λk=>k=id) H H4:=f3.then g4 λ_ h=>h.elim;have hN4:=aD hN f4.nx;clear hs hid hN3 g4 f3;generalize Go.Sort.choosePivot (ltF cf) d1 a b=pv at U3 |-;obtain⟨p0,hh⟩:=pv;obtain⟨hpv1,hpv2⟩:=U3;replace hpv1:a<=p0:=hpv1;replace hpv2:p0<b:=hpv2;refine zS tyS ?_;apply U0.out;refine R1.gen (λA5 H5=>H4=H5/\cZ A5 id gen n a (eJ A5 b (dw A5 lim (gU A5.tm 4 10 11 (.o (.clo cl [])) (.b wb) (.b wp) (hY A5 L p0 (eK A5 14 (.i .i64 ((qx hh):Int)) 148 [])))))) ⟨rfl,zL⟩ ?_;clear t0 t1 t2 t3 t4 t10 t11 t12 A0 B0 A;rintro A _ ⟨rfl,t0,t1,t2,t3,t4,t10,t11,t12,t13,t14,A0,B0⟩;have hdz1:d1.size=n:=O3.sz;have hct1:Hd (∀R,Go.Sort.PermIn a b d1 R->Go.Sort.SortedIn (ltF cf) a b R->Go.Sort.PermIn a0 b0 d R/\Go.Sort.SortedIn (ltF cf) a0 b0 R):=λR h1 h2=>hct.out R (Go.Sort.permIn_trans _ _ _ a b hp1.out h1) h2;have hBl1:Hd (Go.Sort.Below (ltF cf) a b d1):=hBl.out.perm aa hp1.out;clear hct hBl hp1 hdz0;refine zW tyS ?_;refine R1.eV (λB H5=>∃(pv:Nat)(hi:Int)(d2:Array α),a<=pv/\pv<b/\Fr (λk=>k=id) H H5/\Srt c H5 id gen n d2/\Hd (Go.Sort.PermIn a b d1 d2)/\cZ B id gen n a (eJ B b (dw B lim (gU B.tm 4 10 11 (.o (.clo cl [])) (.b wb) (.b wp) (hY B L pv (eK B 14 (.i .i64 (hi:Int)) 148 [])))))) (λK3 m1 m2 m3=>?_) ?_
 ·by_cases hdd:hh=.decreasing
  ·have hdi:(qx hh==2)=true:=by rw[hdd];rfl
   have hwa:IntKind.i64.wrap ((b:Int)-1)=((b-1:Nat):Int):=by rw[aI aa aa];omega
   have hwb:IntKind.i64.wrap ((p0:Int)-(a:Int))=((p0-a:Nat):Int):=by rw[aI aa aa];omega
   have hwc:IntKind.i64.wrap (((b-1:Nat):Int)-((p0-a:Nat):Int))=((b-1-(p0-a):Nat):Int):=by rw[aI aa aa];omega
   have x1:=Go.Sort.reverseRange_holds d1 a b A6 aa;replace x1:=ah x1;replace hdd:=ah hdd;refine zW tyS ?_;refine zG (qA tyS Sq) λK5 U0=>?_;refine WE.con (OL hm H4 id gen n d1 a b O3 hN4 V5 aa aa) λw' H5 g5⟨hw,Q1⟩=>?_;subst hw;replace Q1:=ah Q1;refine zK tyS ?_;apply m1.out;exact⟨b-1-(p0-a),1,_,aa,aa,f4.then g5 (λ_ h=>.inr h),Q1.out,x1,zL⟩
  have hdi:(qx hh==2)=false:=by cases hh<;>first|rfl|exact absurd rfl hdd
  replace hdd:=ah hdd;refine zW tyS ?_;apply m1.out;exact⟨p0,qx hh,d1,hpv1,hpv2,f4,O3,Go.Sort.permIn_refl d1 a b,zL⟩
 clear t0 t1 t2 t3 t4 t10 t11 t12 t13 t14 A0 B0 A O3 f4 P7 hN4 hh hpv1 hpv2 p0;rintro A H4 ⟨pv,hi,d2,hpv1,hpv2,f4,O3,j6,t0,t1,t2,t3,t4,t10,t11,t12,t13,t14,A0,B0⟩;have P7:=O3.lt;have hN4:=aD hN f4.nx;have hdz2:d2.size=n:=O3.sz;have hct2:Hd (∀R,Go.Sort.PermIn a b d2 R->Go.Sort.SortedIn (ltF cf) a b R->Go.Sort.PermIn a0 b0 d R/\Go.Sort.SortedIn (ltF cf) a0 b0 R):=λR h1 h2=>hct1.out R (Go.Sort.permIn_trans _ _ _ a b j6.out h1) h2;have hBl2:Hd (Go.Sort.Below (ltF cf) a b d2):=hBl1.out.perm aa j6.out;clear hct1 hBl1 j6 hdz1;repeat refine R1.aM ?_
 refine R1.s_h ae λK4 hK4=>?_;have key:Hd (∀(bb:Bool)(A:ag),slot A.tm 75=.one (.b bb)/\cZ A id gen n a (eJ A b (dw A lim (gU A.tm 4 10 11 (.o (.clo cl [])) (.b wb) (.b wp) (hY A L pv (A.nt=148/\A.dfr=[])))))->K4 A H4):=by
  clear t0 t1 t2 t3 t4 t10 t11 t12 t13 t14 A0 B0 A;rintro bb A ⟨t75,t0,t1,t2,t3,t4,t10,t11,t12,t13,A0,B0⟩;apply hK4.out;refine R1.eV (λB H5=>∃(d3:Array α),Fr (λk=>k=id) H H5/\Srt c H5 id gen n d3/\Hd (Go.Sort.PermIn a b d2 d3)/\cZ B id gen n a (eJ B b (dw B lim (gU B.tm 4 10 11 (.o (.clo cl [])) (.b wb) (.b wp) (hY B L pv (B.nt=148/\B.dfr=[])))))) (λK5 m1 m2 m3=>?_) ?_
  ·cases bb with
   |true=>
    refine zW tyS ?_;refine zG (qA tyS Wo) λK6 hK6=>?_;have hx:=Go.Sort.partialInsertionSort_holds hsw d2 a b V5 aa hBl2.out;refine WE.con (UL hm H4 id gen n d2 a b O3 hN4 V5 aa hn) λw' H5 g5⟨hw,Q1⟩=>?_;subst hw;generalize Go.Sort.partialInsertionSort (ltF cf) d2 a b=Z at hx Q1 |-;obtain⟨d3,zb⟩:=Z;obtain⟨x1,x2⟩:=hx;cases zb with
    |true=>have N3:=hct2.out _ x1 (x2 rfl);replace x1:=ah x1;replace x2:=ah x2;replace Q1:=ah Q1;replace N3:=ah N3;refine zK tyS ?_;exact m3.out _ _ (q4.out _ _ (k4.out _ _ (fin _ _ _ _ (.inr rfl) qe (f4.then g5 λ_ h=>.inr h) Q1.out N3.out)))
    |false=>replace x1:=ah x1;replace x2:=ah x2;replace Q1:=ah Q1;refine zK tyS ?_;apply m1.out;exact⟨d3,f4.then g5 (λ_ h=>.inr h),Q1.out,x1,zL⟩
   |false=>refine zW tyS ?_;apply m1.out;exact⟨d2,f4,O3,Go.Sort.permIn_refl d2 a b,zL⟩
  clear t0 t1 t2 t3 t4 t10 t11 t12 t13 t75 A0 B0 A O3 f4 P7 hN4 bb;rintro A H5 ⟨d3,f5,Q1,hp3,t0,t1,t2,t3,t4,t10,t11,t12,t13,A0,B0⟩;have hdz3:d3.size=n:=Q1.sz;have hct3:Hd (∀R,Go.Sort.PermIn a b d3 R->Go.Sort.SortedIn (ltF cf) a b R->Go.Sort.PermIn a0 b0 d R/\Go.Sort.SortedIn (ltF cf) a0 b0 R):=λR h1 h2=>hct2.out R (Go.Sort.permIn_trans _ _ _ a b hp3.out h1) h2;have hBl3:Hd (Go.Sort.Below (ltF cf) a b d3):=hBl2.out.perm aa hp3.out;clear hct2 hBl2 hp3 hdz2;repeat refine R1.aM ?_
  refine R1.s_h ae λK6 hK6=>?_;have key2:Hd (∀(bb:Bool)(A:ag)(H5:Hp),Fr (λk=>k=id) H H5->Srt c H5 id gen n d3->(bb=true->0<a/\ltF cf d3[a-1]! d3[pv]! = false)->slot A.tm 97=.one (.b bb)/\cZ A id gen n a (eJ A b (dw A lim (gU A.tm 4 10 11 (.o (.clo cl [])) (.b wb) (.b wp) (hY A L pv (A.nt=148/\A.dfr=[])))))->K6 A H5):=by
   clear t0 t1 t2 t3 t4 t10 t11 t12 t13 A0 B0 A Q1 f5 H5;rintro bb A H5 f5 Q1 u7 ⟨t97,t0,t1,t2,t3,t4,t10,t11,t12,t13,A0,B0⟩;apply hK6.out;have hid5:=Q1.lt;have hN5:=aD hN f5.nx;cases bb with
   |true=>obtain⟨ha0,hnl⟩:=u7 rfl;refine zW tyS ?_;refine zG (qA tyS Ze) λK7 hK7=>?_;have hcon:=XN hm H5 id gen n d3 a b pv Q1 hN5 V5 aa aa hn;generalize hx:Go.Sort.partitionEqual (ltF cf) d3 a b pv=Z at hcon;obtain⟨mid,d4⟩:=Z;obtain⟨y1,y2,y3,y4,y5⟩:=Go.Sort.round_eq hsw (Go.Sort.partitionEqual_holds (ltF cf)) ha0 hpv1 hpv2 aa hBl3.out hnl hx;refine WE.con hcon λw' H6 g6⟨hw,hs6⟩=>?_;subst hw;have hct4:Hd (∀R,Go.Sort.PermIn mid b d4 R->Go.Sort.SortedIn (ltF cf) mid b R->Go.Sort.PermIn a0 b0 d R/\Go.Sort.SortedIn (ltF cf) a0 b0 R):=λR h1 h2=>hct3.out R (y5 R h1 h2).1 (y5 R h1 h2).2;clear hcon y5 hnl u7;replace hx:=ah hx;replace y3:=ah y3;replace y4:=ah y4;replace hs6:Srt c H6 id gen n d4:=hs6;replace hs6:=ah hs6;refine zK tyS ?_;apply q2.out;exact⟨b-mid,aa,mid,b,lim,wb,wp,d4,rfl,aa,y2,hbb0,W2,f5.then g6 (λ_ h=>.inr h),hs6.out,y4,hct4,zL⟩
   |false=>
    clear u7;refine zW tyS ?_;refine zG (qA tyS Wn) λK7 hK7=>?_;have hcon:=UJ hm H5 id gen n d3 a b pv Q1 hN5 V5 aa aa hn;generalize hx:Go.Sort.partition (ltF cf) d3 a b pv=Z at hcon;obtain⟨mid,ap,d4⟩:=Z;obtain⟨y1,y2,y3,y4,y5,y6,y7⟩:=Go.Sort.round_part hsw (Go.Sort.partition_holds (ltF cf)) hpv1 hpv2 aa hBl3.out hx;refine WE.con hcon λw' H6 g6⟨hw,hs6⟩=>?_;subst hw;replace hs6:Srt c H6 id gen n d4:=hs6;have hid6:=hs6.lt;have f6:Fr (λk=>k=id) H H6:=f5.then g6 λ_ h=>.inr h;have hN6:=aD hN f6.nx;have hml:IntKind.i64.wrap ((mid:Int)-(a:Int))=((mid-a:Nat):Int):=by rw[aI aa aa];omega
    have hmr:IntKind.i64.wrap ((b:Int)-(mid:Int))=((b-mid:Nat):Int):=by rw[aI aa aa];omega
    have hm1:=bw mid;have hLe:=hL.out;have hq8:IntKind.i64.wrap ((L:Int).tdiv 8)=((L/8:Nat):Int):=by rw[rQ aa,aI aa aa];omega
    replace hLe:=ah hLe;clear hcon;replace hx:=ah hx;replace y3:=ah y3;replace y4:=ah y4;replace y5:=ah y5;replace y6:=ah y6;replace y7:=ah y7;by_cases hlr:mid-a<b-mid
    ·have hlri:((mid-a:Nat):Int)<((b-mid:Nat):Int):=aa;replace hs6:=ah hs6;refine zK tyH ?_;refine zG (qA tyS tv) λK8 hK8=>?_;refine WE.con (ih.out (mid-a) aa H6 d4 a mid lim (ai _) hs6.out hN6 aa aa W2 y4.out) λw' H7 g7⟨hw,dL,hs7,pL,sL⟩=>?_;subst hw;obtain⟨u1,u2⟩:=y6.out dL pL sL;have hct4:Hd (∀R,Go.Sort.PermIn (mid+1) b dL R->Go.Sort.SortedIn (ltF cf) (mid+1) b R->Go.Sort.PermIn a0 b0 d R/\Go.Sort.SortedIn (ltF cf) a0 b0 R):=λR h1 h2=>hct3.out R (u2 R h1 h2).1 (u2 R h1 h2).2;clear u2;replace u1:=ah u1;replace hs7:=ah hs7;replace pL:=ah pL;replace sL:=ah sL;refine zK tyH ?_;apply q1.out;exact⟨b-(mid+1),aa,mid+1,b,lim,_,ap,dL,rfl,aa,aa,hbb0,W2,f6.then g7 (λ_ h=>.inr h),hs7.out,u1,hct4,zL⟩
    have hlri:¬((mid-a:Nat):Int)<((b-mid:Nat):Int):=aa;replace hs6:=ah hs6;refine zK tyH ?_;refine zG (qA tyS tv) λK8 hK8=>?_;refine WE.con (ih.out (b-(mid+1)) aa H6 d4 (mid+1) b lim (ai _) hs6.out hN6 aa aa W2 y5.out) λw' H7 g7⟨hw,dL,hs7,pL,sL⟩=>?_;subst hw;obtain⟨u1,u2⟩:=y7.out dL pL sL;have hct4:Hd (∀R,Go.Sort.PermIn a mid dL R->Go.Sort.SortedIn (ltF cf) a mid R->Go.Sort.PermIn a0 b0 d R/\Go.Sort.SortedIn (ltF cf) a0 b0 R):=λR h1 h2=>hct3.out R (u2 R h1 h2).1 (u2 R h1 h2).2;clear u2;replace u1:=ah u1;replace hs7:=ah hs7;replace pL:=ah pL;replace sL:=ah sL;refine zK tyH ?_;apply q1.out;exact⟨mid-a,aa,a,mid,lim,_,ap,dL,rfl,haa,y1,aa,W2,f6.then g7 (λ_ h=>.inr h),hs7.out,u1,hct4,zL⟩
  clear hK6;by_cases ha0:0<a
  ·have ha0i:(0:Int)<(a:Int):=aa;have hwa:IntKind.i64.wrap ((a:Int)-1)=((a-1:Nat):Int):=by rw[aI aa aa];omega
   have hid5:=Q1.lt;have hN5:=aD hN f5.nx;obtain⟨lo,Y1,hg⟩:=Q1.row;have lv:=hm.ltH hN5;have W0:=hm.len;have b1:a-1<n:=aa;have b2:pv<n:=aa;have e1:a-1<d3.size:=aa;have e2:pv<d3.size:=aa;replace hdz3:=ah hdz3;replace e1:=ah e1;replace e2:=ah e2;refine zS (zDe tyS (ixC b1) (ixC b2) (rdQ hm.len e1.out e2.out)) ?_;refine WE.con (hm.con H5 d3[a-1]! d3[pv]! hN5) λw' H6 g6 hq=>?_;subst hq;have hs6:=Q1.fr g6 aF;have f6:Fr (λk=>k=id) H H6:=f5.then g6 λ_ h=>h.elim;by_cases V3:cf d3[a-1]! d3[pv]!<0
   ·refine zS tyS ?_;exact key2.out false _ _ f6 hs6 (λh=>by cases h) zL
   refine zS tyS ?_;exact key2.out true _ _ f6 hs6 (λ_=>⟨ha0,aV V3⟩) zL
  have ha0i:¬(0:Int)<(a:Int):=aa;replace hdz3:=ah hdz3;refine zS tyS ?_;exact key2.out false _ _ f5 Q1 (λh=>by cases h) zL
 clear hK4;cases wb with
 |false=>refine zS tyS ?_;exact key.out false _ zL
 |true=>
 cases wp with
 |false=>refine zS tyS ?_;exact key.out false _ zL
 |true=>refine zS tyS ?_;exact key.out (hi==1) _ zL
theorem Re(hm:Cmp c cf cl N)(hsw:Go.Sort.SWO (ltF cf))(H:Hp)(id gen n:Nat)(d:Array α)(hs:Srt c H id gen n d)(hN:N<=H.nx)(hn:n<=65536):
  Con E2 41 [.one (.o (.sl id gen 0 n 3)),.one (.o (.clo cl []))] H (λk=>k=id) λr H'=>r=.tup []/\∃d',Srt c H' id gen n d'/\d'.toList.Perm d.toList/\Go.Sort.SortedIn (ltF cf) 0 n d':=by
 have hbd:=hm.bd;refine Con.iM (λH=>Srt c H id gen n d) hs (λH=>N<=H.nx) hN λH hs hN=>?_;refine C1.fK 14 [] Tryz.func41 λtm h0 h1=>?_;have hid:=hs.lt;have K0:=hs.sz;have e1:IntKind.u64.wrap (n:Int)=(n:Int):=og aa;have hb:=fb hn;replace K0:=ah K0;refine zW tyS ?_;refine zG (zDe tyU ixS (cvQ dJ mQ) tu) λK hK=>?_;refine WE.con (oJ H n hn) λw' H1 g1 hw=>?_;subst hw;have R4:=hs.fr g1 aF;have hid1:=R4.lt;refine zS (qA tyS tv) ?_;refine WE.con (XK hm hsw id gen n hn n H1 d 0 n (Go.Sort.bitsLen n) (ai _) R4 (aD hN g1.nx) (Nat.zero_le _) (ai _) aa (.inl rfl)) λw' H2 g2⟨hw,d',F2,hp,V7⟩=>?_;subst hw;replace F2:=ah F2;replace hp:=ah hp;replace V7:=ah V7;refine zK tyS ?_;refine⟨_,_,bp (.inl rfl) qe,((Fr.refl (X:=λk=>k=id) H).then g1 λ_ h=>h.elim).then g2 λ_ h=>.inr h,λ_=>⟨rfl,d',F2.out,?_,V7.out⟩⟩;have h3:=hp.out.2.2;have e2:n=d.size:=K0.out.symm;have e3:n=d'.size:=F2.out.1.symm;rw[show d'.extract 0 n=d' from by rw[e3];exact yX,show d.extract 0 n=d from by rw[e2];exact yX]at h3;exact h3
end
end Sv
open Go Go.Eng
namespace Sv
def Wf:aq prog 42=true:=ae
abbrev SpN:={x:Sp // okN x.2.2=true}
instance:Inhabited SpN:=⟨⟨(0,[],1),rfl⟩⟩
def spN(x:SpN):List AC:=spC x.1
def cfN(x y:SpN):Int:=x.1.2.2-y.1.2.2
def YK{m:Int}(h:okN m=true):1<=m/\m<=1099511627776:=by unfold okN at h;rw[aT,bB,bB]at h;exact h
def SN(H:Hp)(x y:SpN):Con E2 42 [.agg (spN x),.agg (spN y)] H (λ_=>False) λr _=>r=.one (.i .i64 (cfN x y)):=by refine Con.nO λH=>?_;obtain⟨⟨x1,x2,x3⟩,hx⟩:=x;obtain⟨⟨y1,y2,y3⟩,hy⟩:=y;have bx:=YK hx;have bv:=YK hy;replace bx:1<=x3/\x3<=1099511627776:=bx;replace bv:1<=y3/\y3<=1099511627776:=bv;have hw:=bZ (x3-y3);show C1 E2 _ [.agg [.i .i64 x1,.o (.str x2),.i .i64 x3],.agg [.i .i64 y1,.o (.str y2),.i .i64 y3]] H λv h'=>Fr _ H h'/\∀_:List Nat,v=.one (.i .i64 (x3-y3));clear hx hy bx bv;refine C1.fK 10 [.tmp 4] Tryz.func42 λtm h0 h1=>?_;refine zW tyS ?_;exact⟨_,_,au (.i .i64 (x3-y3)) (.inr rfl) qe qp,((Fr.refl _).new _).new _,λ_=>rfl⟩
def Zo:Cmp spN cfN 42 0 where
 len:=λx=>rfl
 lt:=λx i hi=>by obtain⟨⟨x1,x2,x3⟩,hx⟩:=x;have:i∈([]:List Nat):=hi;cases this
 bd:=Wf
 con:=λH x y _=>SN H x y
def swoS:Go.Sort.SWO (ltF cfN)where
 irrefl:=λx=>by unfold ltF cfN;exact aV aa
 trans:=λx y z h1 h2=>by unfold ltF cfN at *;rw[bB]at *;omega
 ntrans:=λx y z h1 h2=>by unfold ltF cfN at *;rw[fm]at *;omega
def Xc(H:Hp)(cl:FuncId):Con E2 117 [.one (.o .nilS),.one (.i .i64 0),.one (.i .i64 0),.one (.o (.clo cl []))] H (λ_=>False) λr _=>r=.tup []:=by refine Con.nO λH=>?_;refine C1.nk 53 [] Tryz.func117 λtm h0 h1 h2 h3=>?_;have hw:IntKind.i64.wrap (0+1)=1:=aE;refine zW tyS ?_;refine R1.cR λK k1 k2 k3 k4=>?_;refine R1.loop (λz A H1=>Gr H H1/\kO A 2 8 (.i .i64 (0:Int)) (.i .i64 (1:Int)) 53 []) ?_ 0 ⟨Fr.refl _,zL⟩;clear h0 h1 h2 h3 tm k3;rintro z A H1 ⟨g1,t2,t8,A0,B0⟩;have hc:¬(1:Int)<0:=aE;refine zW tyS ?_;apply k2.out;exact⟨_,_,bp (.inl rfl) qe,g1,λ_=>rfl⟩
def XM(H:Hp)(cl:FuncId):Con E2 70 [.one (.o .nilS),.one (.i .i64 0),.one (.i .i64 0),.one (.i .i64 0),.one (.o (.clo cl []))] H (λ_=>False) λr _=>r=.tup []:=by refine Con.nO λH=>?_;refine C1.EP 148 [] Tryz.func70 λtm h0 h1 h2 h3 h4=>?_;have hw:IntKind.i64.wrap (0-0)=0:=aE;refine zW tyS ?_;refine R1.cR λK k1 k2 k3 k4=>?_;refine R1.loop (λz A H1=>Gr H H1/\yf A 0 1 2 4 (.o .nilS) (.i .i64 (0:Int)) (.i .i64 (0:Int)) (.o (.clo cl [])) 148 []) ?_ 0 ⟨Fr.refl _,zL⟩;clear h0 h1 h2 h3 h4 tm k3;rintro z A H1 ⟨g1,t0,t1,t2,t4,A0,B0⟩;have hc:(0:Int)<=12:=aE;refine R1.cR λK2 q1 q2 q3 q4=>?_;refine zW tyS ?_;refine zG (qA tyS zN) λK5 U0=>?_;refine WE.con (Xc H1 cl) λw' H2 g2 Q2=>?_;subst Q2;refine zK tyS ?_;exact q4.out _ _ (k4.out _ _ ⟨_,_,bp (.inr rfl) qe,g1.gr g2,λ_=>rfl⟩)
def Rg(H:Hp)(cl:FuncId):Con E2 41 [.one (.o .nilS),.one (.o (.clo cl []))] H (λ_=>False) λr _=>r=.tup []:=by refine Con.nO λH=>?_;refine C1.fK 14 [] Tryz.func41 λtm h0 h1=>?_;have e1:IntKind.u64.wrap 0=0:=og (x:=0) aE;have hlen:=oJ H 0 aE;rw[show((0:Nat):Int)=0 from rfl,show((Go.Sort.bitsLen 0:Nat):Int)=0 from rfl]at hlen;replace hlen:=ah hlen;refine zW tyS ?_;refine zG (zDe tyU ixS (cvQ dJ mQ) tu) λK hK=>?_;refine WE.con hlen.out λw' H1 g1 hw=>?_;subst hw;clear hlen;refine zS (qA tyS tv) ?_;refine WE.con (XM H1 cl) λw' H2 g2 hw=>?_;subst hw;refine zK tyS ?_;exact⟨_,_,bp (.inl rfl) qe,g1.gr g2,λ_=>rfl⟩
def lif:(l:List Sp)->(∀x∈l,okN x.2.2=true)->List SpN
 |[],_=>[]
 |x::l,h=>⟨x,h x (bh ..)⟩::lif l λy hy=>h y (aU _ hy)
def yB:∀(l:List Sp)(h:∀x∈l,okN x.2.2=true),(lif l h).map Subtype.val=l
 |[],_=>rfl
 |x::l,h=>by rw[lif,List.map_cons,yB l]
def AB:∀(l:List SpN),l.flatMap spN=(l.map Subtype.val).flatMap spC
 |[]=>rfl
 |x::l=>by rw[List.flatMap_cons,AB l,List.map_cons,List.flatMap_cons];rfl
def Rh(H:Hp)(v:AC)(l:List Sp)(r:Option Nat)(hv:dz H v 63 3 l.length (l.flatMap spC) r)(hl:∀x∈l,okN x.2.2=true)(hn:l.length<=4096):
  Con E2 41 [.one v,.one (.o (.clo 42 []))] H (λk=>r=some k) λq H'=>q=.tup []/\∃out,sR H' v out/\out.Perm l/\out.length=l.length/\List.Pairwise (λx y:Sp=>¬y.2.2<x.2.2) out:=by
 rcases hv with⟨rfl,h0,_,rfl⟩|⟨id,lo,gen,rfl,rfl,hg,Y1,hlen,hid⟩
 ·have Y4:l=[]:=List.eq_nil_of_length_eq_zero h0;subst Y4;intro lg;refine N1.mono (Rg H 42 lg) λw h'⟨h1,h2⟩=>⟨h1.mono λ_ h=>h.elim,λlg'=>⟨h2 lg',[],sR.nil,wa _,rfl,List.Pairwise.nil⟩⟩
 have hd:Srt spN H id gen l.length (lif l hl).toArray:=by
  refine⟨?_,⟨lo,Y1,?_⟩,hid⟩
  ·have:=congrArg List.length (yB l hl);rw[cT]at this;rw[pj];exact this
  rw[hg];unfold cm;rw[yY,AB,yB]
 intro lg;refine N1.mono (Re Zo swoS H id gen l.length _ hd (Nat.zero_le _) (aD hn aE) lg) λw h'⟨h1,h2⟩=>⟨h1.mono λk h=>by rw[h],λlg'=>?_⟩;obtain⟨h3,d',h4,h5,h6⟩:=h2 lg';refine⟨h3,d'.toList.map Subtype.val,?_,?_,?_,?_⟩
 ·obtain⟨lo',hlo',R2⟩:=h4.row;have M1:(d'.toList.map Subtype.val).length=l.length:=by rw[cT,ke];exact h4.sz
  refine⟨by rw[ql OR],.inr ⟨id,gen,0,by rw[M1],h4.lt,cm spN d',by rw[R2];exact de hlo' (ai _),?_,?_⟩⟩
  ·rw[M1,iU Zo.len,h4.sz];omega
  rw[List.drop_zero,M1,iX (by rw[iU Zo.len,h4.sz];omega)];unfold cm;rw[AB]
 ·have:=h5.map Subtype.val;rw[yY,yB]at this;exact this
 ·rw[cT,ke];exact h4.sz
 rw[List.pairwise_map,List.pairwise_iff_getElem];intro i j hi hj E5;rw[ke,h4.sz]at hi hj;have h7:=h6 i j (Nat.zero_le _) E5 hj;have hi':i<d'.size:=by rw[h4.sz];exact hi
 have z6:j<d'.size:=by rw[h4.sz];exact hj
 rw[ub d' i hi',ub d' j z6]at h7;unfold ltF cfN at h7;rw[fm]at h7;rw[yZ,yZ];omega
end Sv
open Go Go.Eng
open Sv
def PA:aq prog 15=true:=ae
def Sr:aq prog 41=true:=ae
def BR{E:Env}{s t:Tmp}{A:ag}{H H2:Hp}{e:ax}(c d:AC)(he:e=.normal\/e=.ret)(hd:closeAll H A.dfr=some H2)(hs:slot A.tm s=.one c)(ht:slot A.tm t=.one d):aH E [.tmp s,.tmp t] (e,A,H)=.ok [(.tup [(false,[c]),(false,[d])],H2)]:=by
 have key:(aB (closeAll H A.dfr) (R.bad "marks") λh2=>aB (cI E.P [.tmp s,.tmp t] A.tm h2) (.bad "results") λl=>.ok [(fa l,h2)])=.ok [(.tup [(false,[c]),(false,[d])],H2)]:=by
  rw[hd];have hr:cI E.P [.tmp s,.tmp t] A.tm H2=some [(false,[c]),(false,[d])]:=by show aB (aB (A.tm.get s) none jU) none (λx=>aB (aB (aB (A.tm.get t) none jU) none λx=>aB (some []) none λl=>some (x::l)) none λl=>some (x::l))=_;rw[Fi hs,Fi ht];rfl
  show aB (cI E.P [.tmp s,.tmp t] A.tm H2) (R.bad "results") (λl=>R.ok [(fa l,H2)])=_
  rw[hr];rfl
 rcases he with rfl|rfl
 ·exact key
 exact key
def dz.dV{H H':Hp}{v:AC}{e:TypeId}{sz n:Nat}{cells:List AC}{r:Option Nat}(h:dz H v e sz n cells r)(hn:H.nx<=H'.nx)(hg:∀i,r=some i->i<H.nx->H'.get i=H.get i):dz H' v e sz n cells r:=by
 rcases h with h|⟨id,lo,gen,h1,h2,h3,h4,h5,h6⟩
 ·exact .inl h
 exact .inr ⟨id,lo,gen,h1,h2,(hg id h1 h6).trans h3,h4,h5,ay h6 hn⟩
def yD(b:Bool)(x:Sp):(one b x).length<=1:=by
 unfold one;split
 ·exact ai _
 exact Nat.zero_le _
def Kc(us:List Pr)(cs vs:List Int)(n:Int)(i:Nat):(eM us cs vs n i).length<=4:=by
 unfold eM;have h1:=yD (decide (0<cs.getD i 0)) (1,(us.getD i ([],0)).1,n-vs.getD i 0);have h2:=yD (jL us i (cs.getD i 0+1)) (2,(us.getD i ([],0)).1,n+vs.getD i 0);rw[bA,bA];split
 ·rw[List.length_nil];omega
 have h3:=yD (cs.getD i 0==0&&decide (0<cs.getD (i+1) 0)&&jL us i (cs.getD (i+1) 0)) (3,(us.getD i ([],0)).1,n-cs.getD (i+1) 0*vs.getD (i+1) 0+cs.getD (i+1) 0*vs.getD i 0);have h4:=yD (cs.getD (i+1) 0==0&&decide (0<cs.getD i 0)&&jL us (i+1) (cs.getD i 0)) (4,(us.getD (i+1) ([],0)).1,n-cs.getD i 0*vs.getD i 0+cs.getD i 0*vs.getD (i+1) 0);rw[bA];omega
def Mj(us:List Pr)(cs vs:List Int)(n:Int):(dI us cs vs n).length<=4*us.length:=by
 unfold dI;have key:∀k,((List.range k).flatMap (eM us cs vs n)).length<=4*k:=λk=>by
  induction k with
  |zero=>exact ai _
  |succ k ih=>rw[List.range_succ,pk,bA,List.flatMap_cons,List.flatMap_nil,List.append_nil];have:=Kc us cs vs n k;omega
 exact key us.length
def rF(nm:List UInt8)(us:List Pr)(n:Int):Int:=if aR nm us≠0 then aR nm us else if n<1\/1099511627776<n then 8 else 0
def Ml(H:Hp)(nm:List UInt8)(u:AC)(us:List Pr)(n:Int)(hu:SlP H u us):
  Con E2 15 [.agg [.o (.str nm),u],.one (.i .i64 n)] H (λ_=>False) λr H'=>∃c out,r=.tup [(false,[c]),(false,[.i .i64 (rF nm us n)])]/\sR H' c out/\(rF nm us n≠0->out=[])/\(rF nm us n=0->aR nm us=0/\1<=n/\n<=1099511627776/\out.Perm (dI us (aC us n) (dG nm us) n)/\List.Pairwise (λx y:Sp=>¬y.2.2<x.2.2) out/\out.length<=48):=by
 refine Con.qw (λH=>SlP H u us) hu λH hu=>?_;refine C1.fK 31 [.tmp 4,.tmp 5] Tryz.func15 λtm h0 h1=>?_;have J3:∀id∈(AV.one u).ids,id<H.nx:=hu.lt;have bad:∀(e:Int)(A:ag)(H3:Hp),slot A.tm 4=.one (.o .nilS)->slot A.tm 5=.one (.i .i64 e)->A.dfr=[]->Gr H H3->e=rF nm us n->e≠0->∃w H4,aH E2 [.tmp 4,.tmp 5] (.ret,A,H3)=.ok [(w,H4)]/\Gr H H4/\∀lg':List Nat,∃c out,w=.tup [(false,[c]),(false,[.i .i64 (rF nm us n)])]/\sR ⟨H4.t,H4.nx,lg'⟩ c out/\(rF nm us n≠0->out=[])/\(rF nm us n=0->aR nm us=0/\1<=n/\n<=1099511627776/\out.Perm (dI us (aC us n) (dG nm us) n)/\List.Pairwise (λx y:Sp=>¬y.2.2<x.2.2) out/\out.length<=48):=λe A H3 h1 h2 hd hg he hn=>
  ⟨_,H3,bC (.o .nilS) (.i .i64 e) (.inr rfl) hd h1 h2,hg,λ_=>⟨.o .nilS,[],by rw[he],sR.nil,λ_=>rfl,λh=>absurd (he.trans h) hn⟩⟩
 have hlu:ltV (.one u) H.nx:=hu.lt;refine zG tyS λK hK=>?_;apply hK.out;refine R1.gen (λA1 H1=>Gr H H1/\H.nx+1=H1.nx/\H1.get H.nx=some (.arr [.o (.str nm),u] 51 0 0)/\ja A1 n (iB A1 H.nx (A1.nt=31/\A1.dfr=[])))
  ⟨(Fr.refl _).new _,rfl,aJ rfl,zL⟩ ?_
 clear h0 h1 tm hK K hlu;rintro A1 H1 ⟨g1,n1,r1,t1,t2,A0,B0⟩;have V2:SlP H1 u us:=hu.gr g1;obtain⟨c1,hc1⟩:=dZ H.nx;rw[<-hc1]at r1 t2 n1;have l1:c1<H1.nx:=aa;have hcH:H.nx<=c1:=aa;replace hc1:=ah hc1;replace n1:=ah n1;refine zG (qA tyS uz) λK hK=>?_;refine WE.con (rW H1 nm u us V2) λw H2 g2 hq=>?_;subst hq;obtain⟨r1,l1⟩:=bq g2 l1 r1;have J6:SlP H2 u us:=V2.gr g2;have g2:=g1.gr g2;by_cases N0:aR nm us=0
 case neg=>
  have ce:(aR nm us==0)=false:=aW N0;have he:aR nm us=rF nm us n:=by unfold rF;rw[ad N0]
  generalize aR nm us=e0 at ce he N0 |-;replace he:=ah he;replace N0:=ah N0;refine zK tyS ?_;exact bad e0 _ _ qp qp qe g2 he.out N0.out
 have ce:=beq_iff_eq.2 N0;by_cases q1:n<1
 ·have he:8=rF nm us n:=by unfold rF;rw[ab (λh=>h N0),ad (.inl q1)]
  replace he:=ah he;replace N0:=ah N0;refine zK tyS ?_;exact bad 8 _ _ qp qp qe g2 he.out aE
 by_cases q2:1099511627776<n
 ·have he:8=rF nm us n:=by unfold rF;rw[ab (λh=>h N0),ad (.inr q2)]
  replace he:=ah he;replace N0:=ah N0;refine zK tyS ?_;exact bad 8 _ _ qp qp qe g2 he.out aE
 have he:rF nm us n=0:=by unfold rF;rw[ab (λh=>h N0),ab (λh=>h.elim q1 q2)]
 have C5:1<=n:=aa;have E4:n<=1099511627776:=aa;have hSB:=yM N0 (show 0<=n by omega) E4;have hL12:=(jg N0).1;clear bad;replace he:=ah he;replace N0:=ah N0;replace hSB:=ah hSB;refine zK tyS ?_;refine R1.gen (λA3 H3=>Gr H2 H3/\H2.nx<H3.nx/\H3.get H2.nx=some (.arr [.o .nilS] 59 0 0)/\ja A3 n (iB A3 c1 (eK A3 7 (.o (.ptr H2.nx 0 0 1)) 31 [])))
  ⟨(Fr.refl _).new _,aZ _,aJ rfl,zL⟩ ?_
 clear t1 t2 A0 B0 A1 hK K q1 q2;rintro A3 H3 ⟨g3,m3,r3,t1,t2,t7,A0,B0⟩;obtain⟨c3,o7⟩:=dZ H2.nx;rw[<-o7]at m3 r3 t7;obtain⟨r1,l1⟩:=bq g3 l1 r1;have hu3:SlP H3 u us:=J6.gr g3;have g3':=g2.gr g3;have o13:c1<c3:=by have:=g2.nx;have:=hc1.out;have:=n1.out;have:=J6;omega
 have hc3H:H.nx<=c3:=by have:=g2.nx;omega
 clear o7 g3 g2;have hlu3:=hu3.lt;refine zG (qA tyS zT) λK hK=>?_;refine WE.con (xe H3 (.o (.str nm)) u n hu3.lt) λv H5 g5⟨hv,Z4,X6,hln⟩=>?_;subst hv;refine zS tyS ?_;apply hK.out;refine R1.lp (λA4=>kO A4 7 22 (.o (.ptr c3 0 0 1)) (.o (.clo 65 [(H3.nx,0,0,2),(H3.nx+1,0,0,1)])) 31 []) zL ?_;clear t1 t2 t7 A0 B0 A3 hK K;rintro A ⟨t7,t22,A0,B0⟩;have gg:Gr H H5:=g3'.gr g5;have r3:=(g5.get _ m3 aF).trans r3;have R5:SlP H5 u us:=hu3.gr g5;obtain⟨il,w8⟩:=dZ H3.nx;rw[<-w8]at Z4 X6 hln t22 m3;have hid1:∀id∈(AV.one u).ids,id<c3:=λid h=>ay (J3 id h) hc3H;clear w8 hlu3 r1 l1;obtain⟨zs,hzs,hzsl⟩:=Pk;have hSl:=Mj us (aC us n) (dG nm us) n;have hSok:∀x∈dI us (aC us n) (dG nm us) n,okN x.2.2=true:=λx hx=>((vM N0.out C5 x).1 hx).1;generalize hS:dI us (aC us n) (dG nm us) n=S at hSl hSok;have hS48:S.length<=48:=aa;have hc3g:c3<H5.nx:=ay m3 aa;refine R1.bJ λK k1 k2 k3 k4=>?_;refine R1.range (σ:=AC×Option Nat) (g:=65) (caps:=[(il,0,0,2),(il+1,0,0,1)]) (n:=S.length) (ar:=slA S) (D:=λk=>k=il\/k=il+1\/k∈(AV.one u).ids) (by simp only[Ar,t22]) wB (λ_=>rfl)
  (xd H5 il (il+1) nm u us n aa Z4 hln X6 R5 N0.out C5 E4 _ _ rfl rfl hSB.out S hS) (λk hk=>by
   rcases hk with h|h|h
   ·omega
   ·omega
   exact sI (hid1 k h) hc3g) (by rw[A0];rfl) (λi _=>Ge S i)
  (λi s H6=>H6.get c3=some (.arr [s.1] 59 0 0)/\dz H6 s.1 63 3 i ((S.take i).flatMap spC) s.2/\(∀q,s.2=some q->H5.nx+2<=q)/\H5.nx<=H6.nx)
  (λ_ _ _=>False)
  (λs k=>k=c3\/s.2=some k) ?_ ?_ ?_ (.o .nilS,none) ?_ ?_ ?_ ?_
 ·rintro i s H6 H7 ⟨a1,a2,a3,a4⟩ hs;exact⟨by rw[hs.get _ aa aa];exact a1,dz.dV a2 hs.nx λq hq hl=>hs.get q hl (by have:=a3 q hq;omega),a3,aD a4 hs.nx⟩
 ·rintro e s H6 H7 h hs;exact h
 ·rintro i s H6 k ⟨a1,a2,a3,a4⟩ hk;rcases hk with rfl|hk
  ·refine⟨aa,aa,aa,λh=>?_⟩;rcases h with h|h|h
   ·omega
   ·omega
   have:=hid1 _ h;omega
  have h5:=a3 k hk;have h6:k<H6.nx:=by
   rcases a2 with⟨_,_,_,h⟩|⟨q,lo,gen,h,_,_,_,_,D0⟩
   ·rw[h]at hk;cases hk
   rw[h]at hk;cases hk;exact D0
  refine⟨h6,aa,aa,λh=>?_⟩;rcases h with h|h|h
  ·omega
  ·omega
  have:=hid1 _ h;omega
 ·intro H6 g6 n6;exact⟨by rw[g6.get _ aa aF];exact r3,.inl ⟨rfl,rfl,rfl,rfl⟩,λq h=>(by cases h),g6.nx⟩
 ·rintro i ⟨v,r⟩ H6 hi ⟨a1,a2,a3,a4⟩ n6;have hy:=aO hi;have Y2:=dK hi;generalize S[i]=y at hy Y2;rw[Gd hy];obtain⟨kd,sg,nn⟩:=y;refine R1.lp (λA7=>slot A7.tm 7=.one (.o (.ptr c3 0 0 1))/\slot A7.tm 23=.agg [.i .i64 kd,.o (.str sg),.i .i64 nn]/\A7.nt=31/\A7.dfr=[]) ⟨?_,?_,A0,rfl⟩ ?_
  ·show slot (A.tm.set 23 _) 7=_;simp only[cJ,Nat.reduceEqDiff,reduceIte,t7]
  ·show slot (A.tm.set 23 _) 23=_;simp only[cJ,Nat.reduceEqDiff,reduceIte];rfl
  clear t7 t22 A0 B0 r3;rintro A7 ⟨t7,t23,A0,B0⟩;replace hS:=ah hS;replace Y2:=ah Y2;clear hy hzsl hzs zs;refine zW tyS ?_;refine⟨rfl,((Fr.refl _).new _).mod _ (.inl (ai _)),λH8 n8 s8=>?_⟩;have gu:H8.get H6.nx=some (.arr [.i .i64 kd,.o (.str sg),.i .i64 nn] 63 0 0):=by rw[s8.get _ (by show H6.nx<H6.nx+1;omega) aa];exact ao rfl
  have keep:∀k,k<H6.nx->k≠H5.nx+1->H8.get k=H6.get k:=λk hk R3=>by rw[s8.get _ (by show k<H6.nx+1;omega) R3,az aa,bu aa]
  have n8':H8.nx=H6.nx+1:=n8;have b1:H8.get c3=some (.arr [v] 59 0 0):=(keep c3 aa aa).trans a1;have b2:dz H8 v 63 3 i ((S.take i).flatMap spC) r:=dz.dV a2 aa λq hq hl=>keep q hl (by have:=a3 q hq;omega);have lu:H6.nx<H8.nx:=aa;have m3:c3<H8.nx:=aa;have hv8:=b2.lt;have B5:∀q,r=some q->q≠c3:=λq hq=>by have:=a3 q hq;omega
  obtain⟨zs,hzs,hzsl⟩:=Pk;obtain⟨hlt5,v9,H9,r9,X2,how9,l8,hr9⟩:=gZ An Wx hzs hzsl aE b2 [.i .i64 kd,.o (.str sg),.i .i64 nn] rfl aa;have c9:H9.get c3=some (.arr [v] 59 0 0):=(l8.get _ m3 λh=>B5 _ h rfl).trans b1;have m9:c3<H9.nx:=ay m3 l8.nx;have hv9:=how9.lt;clear hzs hzsl zs keep n8 a1 a2 s8;replace n8':=ah n8';replace hr9:=ah hr9;replace how9:=ah how9;replace l8:=ah l8;replace b2:=ah b2;replace B5:=ah B5;replace a3:=ah a3;refine R1.mh λK2 p1 p2 p3 p4=>?_;refine zG (zDd tyS rq X2) λK hK=>?_;refine⟨hlt5,?_⟩;refine zK tyS ?_;have C7:c3≠r9/\H5.nx+2<=r9:=by
   rcases hr9.out with e|e
   ·exact⟨λh=>B5.out r9 e h.symm,a3.out r9 e⟩
   have:=n8'.out;exact⟨aa,aa⟩
  refine p1 _ _ ⟨qe,?_,(v9,some r9),λ_=>⟨ao rfl,?_,λq hq=>by cases hq;exact C7.2,?_⟩,λh=>absurd rfl h,λk hk=>?_⟩
  ·refine(l8.out.mono λk h=>?_).mod _ (.inr (.inl (.inl rfl)));exact .inl (.inr h)
  ·rw[Y2.out,pk];exact dz.fr how9.out (X:=λk=>k=c3) ((Fr.refl _).mod _ (.inr rfl)) λq hq h=>C7.1 (by cases hq;exact h.symm)
  ·have:=l8.out.nx;have:=n8'.out;show H5.nx<=H9.nx;omega
  rcases hk with h|h
  ·exact .inl (.inl h)
  cases h
  rcases hr9.out with e|e
  ·exact .inl (.inr e)
  have:=n8'.out;exact .inr aa
 ·rintro⟨v,r⟩ H6 ⟨a1,a2,a3,a4⟩ n6 hd6 hf6 M6;have g6:Gr H H6:=gg.then hf6 λk hk=>.inl (by
   rcases hk with rfl|hk
   ·exact hc3H
   cases hk)
  have m3:c3<H6.nx:=aa;rw[pn]at a2;refine k1 _ _ ?_;refine R1.lp (λA7=>slot A7.tm 7=.one (.o (.ptr c3 0 0 1))/\A7.nt=31/\A7.dfr=[H5.nx]) ⟨t7,A0,by show H5.nx::A.dfr=_;rw[B0]⟩ ?_;clear t7 t22 A0 B0 r3 hzs hzsl zs;rintro A7 ⟨t7,A0,B0⟩;have hv6:=a2.lt;have L0:∀q,r=some q->q≠c3/\q≠H5.nx/\H.nx<=q:=λq hq=>by have:=a3 q hq;have:=gg.nx;exact⟨aa,aa,aa⟩
  have hsort:=Rh H6 v S r a2 hSok aa;replace hS:=ah hS;replace hd6:=ah hd6;replace L0:=ah L0;replace hsort:=ah hsort;clear a2 a3 hf6 M6;refine zG (qA tyS Sr) λK hK=>?_;refine WE.con hsort.out λw H7 g7⟨hw,out,V7,hpe,hle,hpw⟩=>?_;subst hw;clear hsort;have d7:H7.get c3=some (.arr [v] 59 0 0):=(g7.get _ m3 λh=>(L0.out _ h).1 rfl).trans a1;have m7:c3<H7.nx:=ay m3 g7.nx;have hv7:=V7.lt;have q7:H7.get H5.nx=some (.oth (.dfr true)):=(g7.get _ aa λh=>(L0.out _ h).2.1 rfl).trans hd6.out;have gf:Gr H H7:=g6.then g7 λk hk=>.inl (L0.out k hk).2.2;replace hpe:=ah hpe;replace hpw:=ah hpw;replace V7:=ah V7;replace q7:=ah q7;replace hle:=ah hle;refine zK tyS ?_;refine⟨_,H7.mod H5.nx (.oth (.dfr false)),BR v (.i .i64 0) (.inr rfl) ?_ qp qp,gf.mod _ (.inl gg.nx),λlg'=>⟨v,out,by rw[he.out],?_,λh=>absurd he.out h,λ_=>⟨N0.out,C5,E4,?_,hpw.out,by have:=hle.out;omega⟩⟩⟩
  ·simp only[aS,B0];exact fg q7.out
  ·obtain⟨e1,e2⟩:=V7.out;refine⟨e1,e2.imp id ?_⟩;rintro⟨id,g,off,e3,e4,e5⟩;refine⟨id,g,off,e3,e4,e5.dV ?_⟩;show(H7.mod H5.nx _).get id=H7.get id;by_cases hid:id=H5.nx
   ·subst hid;obtain⟨cells,e6,_⟩:=e5;rw[q7.out]at e6;cases e6
   exact az hid
  exact hpe.out
 rintro e s' H6 I1 h;exact h.elim
def Hq:aq prog 13=true:=ae
def pS(n m:Int):Int:=if m<1 then 0 else if n.tmod m<0 then n.tmod m+m else n.tmod m
def HE{n m:Int}(h:1<=m):0<=pS n m/\pS n m<m:=by
 unfold pS;have h1:=za n (b:=m) aa;have h2:-m<n.tmod m:=by
  rcases Int.le_total 0 n with h0|h0
  ·have:=Int.tmod_nonneg m h0;omega
  have e:n.tmod m=-((-n).tmod m):=by rw[Int.neg_tmod,Int.neg_neg]
  have:=za (-n) (b:=m) aa;omega
 rw[ab aa];split<;>omega
def Cw(H:Hp)(n m:Int)(hm:m<=4611686018427387904):
  Con E2 13 [.one (.i .i64 n),.one (.i .i64 m)] H (λ_=>False) λr _=>r=.one (.i .i64 (pS n m)):=by
 refine Con.nO λH=>?_;refine C1.fK 16 [.tmp 4] Tryz.func13 λtm h0 h1=>?_;generalize E0:pS n m=r0;unfold pS at E0;replace E0:=hd E0;refine zW tyF ?_;refine zI tyF (λhc=>?_) (λhc=>?_)
 ·have e:r0=0:=by rw[<-E0.out,ad hc]
  subst e;refine zW tyF ?_;exact⟨_,_,au (.i .i64 0) (.inr rfl) qe qp,Fr.refl _,λ_=>rfl⟩
 have hm0:m≠0:=aa;have h1:=za n (b:=m) aa;have hw:IntKind.i64.wrap (n.tmod m+m)=n.tmod m+m\/¬n.tmod m<0:=by
  by_cases h0:n.tmod m<0
  ·have h2:-m<n.tmod m:=by
    rcases Int.le_total 0 n with h0|h0
    ·have:=Int.tmod_nonneg m h0;omega
    have e:n.tmod m=-((-n).tmod m):=by rw[Int.neg_tmod,Int.neg_neg]
    have:=za (-n) (b:=m) aa;omega
   exact .inl (aI aa aa)
  exact .inr h0
 replace E0:=E0.out;rw[ab hc]at E0;replace E0:=hd E0;generalize hx:n.tmod m=x at E0 hw;clear h1;refine zW (zDe tyF arQ (aa5 hm0) hx) ?_;refine zI tyF (λo8=>?_) (λo8=>?_)
 ·have w:=hw.resolve_right (λh=>h o8);have e:r0=x+m:=by rw[<-E0.out,ad o8]
  subst e;replace hw:=hd hw;refine zW tyF ?_;exact⟨_,_,au (.i .i64 (x+m)) (.inr rfl) qe qp,Fr.refl _,λ_=>rfl⟩
 have e:r0=x:=by rw[<-E0.out,ab o8]
 subst e;refine zW tyF ?_;exact⟨_,_,au (.i .i64 r0) (.inr rfl) qe qp,Fr.refl _,λ_=>rfl⟩
def pR(v w:List Int):List Fx:=(List.range v.length).filterMap λi=>if v.getD i 0=w.getD i 0 then none else some ((i:Int),v.getD i 0,w.getD i 0,1)
def Fb(v w:List Int):Nat:=((List.range v.length).filter λi=>v.getD i 0 != w.getD i 0).length
def kP{v w:List Int}{x:Fx}(h:x∈pR v w):∃i,i<v.length/\v.getD i 0≠w.getD i 0/\x=((i:Int),v.getD i 0,w.getD i 0,1):=by
 unfold pR at h;obtain⟨i,hi,hx⟩:=List.mem_filterMap.1 h;by_cases c:v.getD i 0=w.getD i 0
 ·rw[ad c]at hx;cases hx
 rw[ab c]at hx;exact⟨i,List.mem_range.1 hi,c,(dX hx).symm⟩
def Cp(v w:List Int):oh (pR v w):=by
 unfold pR oh;rw[List.pairwise_filterMap];refine List.Pairwise.imp (λ{a b}A6 x hx y hy=>?_) List.pairwise_lt_range;by_cases c:v.getD a 0=w.getD a 0
 ·rw[ad c]at hx;cases hx
 by_cases d:v.getD b 0=w.getD b 0
 ·rw[ad d]at hy;cases hy
 rw[ab c]at hx;rw[ab d]at hy;cases hx
 cases hy
 show(a:Int)<(b:Int);omega
def Ps(v w:List Int):(pR v w).length=Fb v w:=by
 unfold pR Fb;generalize List.range v.length=l;induction l with
 |nil=>rfl
 |cons a l ih=>
  rw[List.filterMap_cons,List.filter_cons];by_cases c:v.getD a 0=w.getD a 0
  ·rw[ad c,ab (by rw[c];simp)];exact ih
  rw[ab c,ad (by simpa using c)];show _+1=_+1;rw[ih]
def JW:∀(l:List Fx)(v:List Int)(j:Nat),(∀x∈l,x.1.toNat≠j)->(bm v l).getD j 0=v.getD j 0
 |[],_,_,_=>rfl
 |x::l,v,j,h=>by show(bm (v.set x.1.toNat x.2.2.1) l).getD j 0=_;rw[JW l _ j λy hy=>h y (aU _ hy)];have:=h x (bh ..);rw[bt,sJ this,<-bt]
def QZ{v w:List Int}(hl:v.length=w.length):bm v (pR v w)=w:=by
 have hp:List.Pairwise (λx y:Fx=>x.1.toNat≠y.1.toNat) (pR v w):=wc (λ{x y}hx hy hxy e=>by obtain⟨i,_,_,rfl⟩:=kP hx;obtain⟨j,_,_,rfl⟩:=kP hy;have hxy:(i:Int)<(j:Int):=hxy;have e:(i:Int).toNat=(j:Int).toNat:=e;omega) (Cp v w)
 refine ZA ((dF _ _).trans hl) λj hj=>?_;rw[dF]at hj;by_cases c:v.getD j 0=w.getD j 0
 ·rw[JW _ _ _ λx hx e=>?_,c];obtain⟨i,hi,I1,rfl⟩:=kP hx;have e:(i:Int).toNat=j:=e;have:i=j:=aa;subst this;exact I1 c
 have hm:((j:Int),v.getD j 0,w.getD j 0,(1:Int))∈pR v w:=by unfold pR;exact List.mem_filterMap.2 ⟨j,List.mem_range.2 hj,ab c⟩
 exact ic _ v hp _ hm (by show((j:Int)).toNat<_;omega)
def SV(v w:List Int){c:Nat}(x:Int)(hc:c<v.length):Fb (v.set c x) w<=Fb v w+1:=by
 unfold Fb;rw[fq];have key:∀n,((List.range n).filter λi=>(v.set c x).getD i 0 != w.getD i 0).length<=((List.range n).filter λi=>v.getD i 0 != w.getD i 0).length+(if c<n then 1 else 0):=λn=>by
  induction n with
  |zero=>exact Nat.zero_le _
  |succ n ih=>
   rw[List.range_succ,we,we,bA,bA];by_cases h:c=n
   ·subst h;rw[ab (Nat.lt_irrefl _)]at ih;rw[ad (aZ _)];have h1:([c].filter λi=>(v.set c x).getD i 0 != w.getD i 0).length<=1:=List.length_filter_le _ _;omega
   have e:(v.set c x).getD n 0=v.getD n 0:=by rw[bt,sJ h,<-bt]
   have e2:([n].filter λi=>(v.set c x).getD i 0 != w.getD i 0)=[n].filter λi=>v.getD i 0 != w.getD i 0:=by rw[List.filter_cons,List.filter_cons,e];rfl
   rw[e2];by_cases h2:c<n
   ·rw[ad h2]at ih;rw[ad aa];omega
   rw[ab h2]at ih;rw[ab aa];omega
 have:=key v.length;rw[ad hc]at this;exact this
def IK{m:Int}:∀{S:List Sp},(∀x∈S,x.1≠0)->(∃y∈S,y.2.2=m)->gI S m≠0
 |[],_,h=>by obtain⟨y,hy,_⟩:=h;exact absurd hy List.not_mem_nil
 |x::S,h,hy=>by
  rw[gI];by_cases c:x.2.2=m
  ·rw[ad c];exact h x (bh ..)
  rw[ab c];refine IK (λz hz=>h z (aU _ hz)) ?_;obtain⟨y,hy,e⟩:=hy;rcases List.mem_cons.1 hy with rfl|hy
  ·exact absurd e c
  exact⟨y,hy,e⟩
def Eo{α:Type}{w:α->Nat}:∀(l:List α),(∀x∈l,w x=1)->dQ w l=l.length
 |[],_=>rfl
 |x::l,h=>by rw[dQ,Eo l λy hy=>h y (aU _ hy),h x (bh ..),List.length_cons];omega
def Kd(ld:List Lad)(w:List Int)(j:Nat):List Sp:=dI (ld.getD j ([],[])).2 (aC (ld.getD j ([],[])).2 (w.getD j 0)) (dG (ld.getD j ([],[])).1 (ld.getD j ([],[])).2) (w.getD j 0)
def pM(ld:List Lad)(w v:List Int):Prop:=v.length=w.length/\∀j,j<w.length->v.getD j 0=w.getD j 0\/∃x∈Kd ld w j,x.2.2=v.getD j 0
def JY{ls:List Lad}{p:Pz}{w v:List Int}(h0:fO (some ls) p w=0)(N0:∀x∈ls,aR x.1 x.2=0)(hs:pM (ldC ls p.1) w v):fO (some ls) p v=0:=by
 have G0:=mA h0 N0;obtain⟨hC,hR,U1,hcp,_⟩:=ou h0;have L2:∀n∈v,1<=n/\n<=1099511627776:=λn hn=>by
  obtain⟨j,hj,e⟩:=Gw hn;have e1:v.getD j 0=n:=by rw[bt,aO hj,e];rfl
  have hj2:j<w.length:=hs.1▸hj;obtain⟨hc,hb⟩:=G0.lad (i:=(j:Int)) aa aa;have e2:((j:Int)).toNat=j:=aa;rw[e2]at hc hb;rcases hs.2 j hj2 with h|⟨x,hx,h⟩
  ·rw[<-e1,h];exact hb
  rw[<-e1,<-h];exact(sC hc hb.1 hx).2.2
 have hv:vS p.1 v=true:=by
  unfold vS;rw[aT];refine⟨by rw[hs.1,U1];exact fl _,?_⟩;cases hb:v.any ma with
  |false=>rfl
  |true=>obtain⟨n,hn,e⟩:=List.any_eq_true.1 hb;have:=L2 n hn;unfold ma at e;rw[eW,bB,bB]at e;omega
 unfold fO;rw[ab (λh=>h hcp),ab (by rw[hv];decide)]
def Io{ls:List Lad}{p:Pz}{w v:List Int}{m:Nat}{f:List Fx}{e:Int}(h0:fO (some ls) p w=0)(N0:∀x∈ls,aR x.1 x.2=0)(hw:(fk (some ls) p w).1=[])(hs:pM (ldC ls p.1) w v)(hm:Fb v w<=m)(hm3:m<=3)(hR:BM (some ls) p v 3 f e):
  e=0/\(ns (some ls) p v f).2=0/\(ns (some ls) p v f).1<=m:=by
 have h1:=JY h0 N0 hs;have G0:=mA h0 N0;have hokv:=mA h1 N0;rw[KJ h0]at hw;have hV:=((tX _ _ _ _).1 hw).2;have hk:∀x∈pR v w,kF (ldC ls p.1) v x.1 x.2.2.1≠0/\(1<=x.2.2.1/\x.2.2.1<=1099511627776):=λx hx=>by
  obtain⟨i,hi,I1,rfl⟩:=kP hx;have I2:i<w.length:=hs.1▸hi;obtain⟨hc,hb⟩:=G0.lad (i:=(i:Int)) aa aa;obtain⟨Y6,hbv⟩:=hokv.lad (i:=(i:Int)) aa aa;have e2:((i:Int)).toNat=i:=aa;rw[e2]at hc hb Y6 hbv;refine⟨?_,hb⟩;unfold kF;show gI (dI ((ldC ls p.1).getD ((i:Int)).toNat ([],[])).2 (aC ((ldC ls p.1).getD ((i:Int)).toNat ([],[])).2 (v.getD ((i:Int)).toNat 0)) (dG ((ldC ls p.1).getD ((i:Int)).toNat ([],[])).1 ((ldC ls p.1).getD ((i:Int)).toNat ([],[])).2) (v.getD ((i:Int)).toNat 0)) (w.getD i 0)≠0;rw[e2];rcases hs.2 i I2 with h|⟨x,hx,h⟩
  ·exact absurd h I1
  obtain⟨y,hy,hyn,_⟩:=Rb hc hb.1 hb.2 hx;rw[h]at hy;exact IK (λz hz=>by have:=(sC Y6 hbv.1 hz).1;omega) ⟨y,hy,hyn⟩
 obtain⟨c,g,hsol,Z2⟩:=Sol.Uz hokv.rp (Cp v w) (λx hx=>by
  obtain⟨h2,h3⟩:=hk x hx;refine⟨?_,?_,h3,.inl h2⟩
  ·obtain⟨i,hi,I1,rfl⟩:=kP hx;show(0:Int)<=(i:Int)/\(i:Int)<v.length;omega
  obtain⟨i,hi,I1,rfl⟩:=kP hx;show w.getD i 0≠v.getD ((i:Int)).toNat 0;have e2:((i:Int)).toNat=i:=aa;rw[e2];exactλe=>I1 e.symm) (by rw[QZ hs.1];exact hV)
 have o7:c<=m:=by
  refine aD Z2 ?_;rw[Eo _ λx hx=>?_,Ps]
  ·exact hm
  unfold wF;rw[ab (hk x hx).1]
 rcases hR with⟨h2,_⟩|⟨_,h2,_⟩|⟨_,_,ls',e1,h2⟩
 ·exact absurd h1 h2
 ·omega
 cases e1
 rcases h2 with⟨_,_,h3⟩|⟨he,cc,h3,h4,h5,_⟩
 ·exact absurd hsol (h3 c aa g)
 obtain⟨a1,_,_⟩:=Yh h1 N0 h4;rw[a1];refine⟨he,rfl,?_⟩;show(cc:Int)<=(m:Int);by_cases D0:c<cc
 ·exact absurd hsol (h5 c D0 g)
 omega
def qz{H:Hp}{id g off len sz cnt i:Nat}(h:i<cnt)(h2:i*sz+sz<=len):fh H cnt sz (.one (.o (.ptr id g off len))) (.one (.i .i64 (i:Int)))=.val (.one (.o (.ptr id g (off+i*sz) sz))) H:=by
 show aK (both (Nat.blt i cnt) (Nat.ble (Nat.add (Nat.mul i sz) sz) len)) _ _=_;have e:both (Nat.blt i cnt) (Nat.ble (Nat.add (Nat.mul i sz) sz) len)=true:=by have a:Nat.blt i cnt=true:=bG h;have b:Nat.ble (Nat.add (Nat.mul i sz) sz) len=true:=bG h2;rw[a,b];rfl
 rw[e];rfl
def Nw:bV prog 46=none:=ae
def Nb:Ho prog 46=some (3,2):=ae
def Ta:bV prog 45=none:=ae
def Sc:Ho prog 45=some (2,1):=ae
end Go.Proofs.YtgepceljhelekaaGreat
end
