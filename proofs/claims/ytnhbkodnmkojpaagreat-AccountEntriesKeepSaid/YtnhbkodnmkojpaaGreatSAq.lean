/- A part of the proof: BkSw9, BkEv, BkRd1, BkRd2, BkRd3, BkLt1, BkLt2, BkEn1, BkEn2, BkEn4, BkLc1. No conditions. -/
import Derived.Test.YtnhbkodnmkojpaaGreatSAp
import Derived.Sort.LotA
import Derived.Sort.LotB
import Derived.Sort.LotD3
set_option maxRecDepth 100000
set_option maxHeartbeats 64000000
set_option linter.unusedVariables false
set_option linter.unusedSimpArgs false
noncomputable section
namespace Go.Proofs.YtnhbkodnmkojpaaGreat
open Go Go.Eng
theorem BV:al Tryz.prog 86=true:=by kernel_rfl
theorem tyH:type_of% (qA tyF (qA arQ (JE (show (8:Int)≠0 by decide)))):=qA tyF (qA arQ (JE (show (8:Int)≠0 by decide)))
section
variable {α:Type} [Inhabited α] {c:α→List AC} {cf:α→α→Int} {cl N:Nat}
theorem VS (hm:Cmp c cf cl N) (hsw:Go.Sort.SWO (ltF cf)) (id gen n:Nat) (hn:n≤65536):∀ (m:Nat) (H:Hp) (d:Array α) (a b lim:Nat),b - a≤m→Srt c H id gen n d→N≤H.nx→a≤b→b≤n→lim≤64→Go.Sort.Below (ltF cf) a b d →
  Con E2 86 [.one (.o (.sl id gen 0 n 2)),.one (.i .i64 a),.one (.i .i64 b),.one (.i .i64 lim),.one (.o (.clo cl []))] H (fun k=>k=id) fun r H'=>r=.tup []∧∃ d',Srt c H' id gen n d'∧Go.Sort.PermIn a b d d'∧Go.Sort.SortedIn (ltF cf) a b d':=by
 have X6:=hm.bd;intro m;induction m using Nat.strongRecOn with
 | ind m ih=>
 intro H d a0 b0 lim hm0 hs hN hab0 i' C4 hBl0;refine Con.of rfl fun lg=>?_;have hs:Srt c ⟨H.t,H.nx,lg⟩ id gen n d:=hs;have hN:N≤(⟨H.t,H.nx,lg⟩:Hp).nx:=hN;generalize (⟨H.t,H.nx,lg⟩:Hp)=H at hs hN ⊢;refine C1.body (E:=E2) (nt:=148) (res:=[]) Tryz.func86 rfl rfl rfl rfl rfl fun tm A0=>?_;have h0:=A0 0 _ rfl;have h1:=A0 1 _ rfl;have h2:=A0 2 _ rfl;have h3:=A0 3 _ rfl;have h4:=A0 4 _ rfl;clear A0;have fin:∀ (e:ax) (A:ab) (H3:Hp) (dc:Array α),(e=.normal∨e=.ret)→A.dfr=[]→Fr (fun k=>k=id) H H3→Srt c H3 id gen n dc→Go.Sort.PermIn a0 b0 d dc∧Go.Sort.SortedIn (ltF cf) a0 b0 dc→∃ w H4,aC E2 [] (e,A,H3)=.ok [(w,H4)]∧Fr (fun k=>k=id) H H4∧∀ lg':List Nat,w=.tup []∧∃ d',Srt c ⟨H4.t,H4.nx,lg'⟩ id gen n d'∧Go.Sort.PermIn a0 b0 d d'∧Go.Sort.SortedIn (ltF cf) a0 b0 d':=fun e A H3 dc he h1 h2 h3 h4=>⟨_,H3,cu he h1,h2,fun _=>⟨rfl,dc,h3,h4⟩⟩;replace hBl0:Hd _:=hBl0;replace ih:Hd _:=ih;refine zW tyF ?_;refine R1.dM fun K k1 k2 k3 k4=>?_;refine R1.loop (fun z A H3=>∃ (a b lim:Nat) (wb wp:Bool) (dc:Array α),z=b - a∧a0≤a∧a≤b∧b≤b0∧lim≤64∧Fr (fun k=>k=id) H H3∧Srt c H3 id gen n dc∧Hd (Go.Sort.Below (ltF cf) a b dc)∧Hd (∀ R,Go.Sort.PermIn a b dc R→Go.Sort.SortedIn (ltF cf) a b R→Go.Sort.PermIn a0 b0 d R∧Go.Sort.SortedIn (ltF cf) a0 b0 R) ∧
   slot A.tm 0=.one ((.o (.sl id gen 0 n 2)))∧slot A.tm 1=.one (.i .i64 (a:Int))∧slot A.tm 2=.one (.i .i64 (b:Int))∧slot A.tm 3=.one (.i .i64 (lim:Int))∧slot A.tm 4=.one ((.o (.clo cl [])))∧slot A.tm 10=.one (.b wb)∧slot A.tm 11=.one (.b wp)∧A.nt=148∧A.dfr=[]) ?_ (b0 - a0)
  ⟨a0,b0,lim,true,true,d,rfl,zA1 _,hab0,zA1 _,C4,Fr.refl _,hs,hBl0,fun R h1 h2=>⟨h1,h2⟩,zL⟩
 clear h0 h1 h2 h3 h4 tm hs hBl0 k3;rintro z A H3 ⟨a,b,lim,wb,wp,dc,rfl,haa,F4,hbb0,C4,f3,hs,hBl,hct,t0,t1,t2,t3,t4,t10,t11,B0,C0⟩;have hid:=hs.lt;have y_:=zA2 hN f3.nx;obtain ⟨L,hL⟩:∃ L,L=b - a:=⟨_,rfl⟩;have hwL:IntKind.i64.wrap ((b:Int) - (a:Int))=(L:Int):=by rw[au (by omega) (by omega)];omega
 refine R1.dM fun K2 q1 q2 q3 q4=>?_;by_cases h12:L≤12
 ·have h12i:(L:Int)≤12:=by omega
  replace hL:Hd _:=hL;refine zW tyF ?_;refine zG (qA tyF Ra) fun K5 q7=>?_;refine WE.con (Ve hm H3 id gen n dc a b hs y_ F4 (by omega) (by omega)) fun w' H4 g4 ⟨hw,I2⟩=>?_;subst hw;obtain ⟨x1,x2⟩:=Go.Sort.insertionSort_holds hsw dc a b F4 (by have:=hs.sz;omega);have S1:=hct.out _ x1 x2;replace x1:Hd _:=x1;replace x2:Hd _:=x2;replace I2:Hd _:=I2;replace S1:Hd _:=S1;refine zK tyF ?_;exact q4.out _ _ (k4.out _ _ (fin _ _ _ _ (.inr rfl) qe (f3.then g4 fun _ h=>.inr h) I2.out S1.out))
 have h12i:¬(L:Int)≤12:=by omega
 by_cases U7:lim=0
 ·have hl0b:((lim:Int)==0)=true:=by rw[U7];rfl
  replace hL:Hd _:=hL;replace U7:Hd _:=U7;refine zW tyF ?_;refine zG (qA tyF Ul) fun K5 q7=>?_;refine WE.con (Qy hm H3 id gen n dc a b hs y_ F4 (by omega) (by omega)) fun w' H4 g4 ⟨hw,I2⟩=>?_;subst hw;obtain ⟨x1,x2⟩:=Go.Sort.heapSort_holds hsw dc a b F4 (by have:=hs.sz;omega);have S1:=hct.out _ x1 x2;replace x1:Hd _:=x1;replace x2:Hd _:=x2;replace I2:Hd _:=I2;replace S1:Hd _:=S1;refine zK tyF ?_;exact q4.out _ _ (k4.out _ _ (fin _ _ _ _ (.inr rfl) qe (f3.then g4 fun _ h=>.inr h) I2.out S1.out))
 have hl0b:((lim:Int)==0)=false:=zB5 (by omega);have hwl:IntKind.i64.wrap ((lim:Int) - 1)=((lim - 1:Nat):Int):=by rw[au (by omega) (by omega)];omega
 have Z5:a<b:=by omega
 have hL12:12<b - a:=by omega
 replace hL:Hd _:=hL;replace U7:Hd _:=U7;refine zW tyF ?_;refine R1.gW (fun B H4=>∃ (l1:Nat) (d1:Array α),l1≤64∧Fr (fun k=>k=id) H H4∧Srt c H4 id gen n d1∧Hd (Go.Sort.PermIn a b dc d1)∧slot B.tm 0=.one ((.o (.sl id gen 0 n 2)))∧slot B.tm 1=.one (.i .i64 (a:Int))∧slot B.tm 2=.one (.i .i64 (b:Int))∧slot B.tm 3=.one (.i .i64 (l1:Int))∧slot B.tm 4=.one ((.o (.clo cl [])))∧slot B.tm 10=.one (.b wb)∧slot B.tm 11=.one (.b wp)∧slot B.tm 12=.one (.i .i64 (L:Int))∧B.nt=148∧B.dfr=[]) (fun K3 m1 m2 m3=>?_) ?_
 ·cases wb with
  | true=>
   refine zW tyF ?_;refine m1.out _ _ ?_;exact ⟨lim,dc,C4,f3,hs,Go.Sort.permIn_refl dc a b,zL⟩
  | false=>
   refine zW tyF ?_;refine zG (qA tyF Yj) fun K5 q7=>?_;refine WE.con (Uv hm H3 id gen n dc a b hs y_ Z5 (by omega) hn) fun w' H4 g4 ⟨hw,I2⟩=>?_;subst hw;have x1:=Go.Sort.breakPatterns_holds dc a b F4 (by have:=hs.sz;omega);replace x1:Hd _:=x1;replace I2:Hd _:=I2;refine zK tyF ?_;refine m1.out _ _ ?_;exact ⟨lim - 1,_,by omega,f3.then g4 (fun _ h=>.inr h),I2.out,x1,zL⟩
 have hdz0:dc.size=n:=hs.sz;clear t0 t1 t2 t3 t4 t10 t11 B0 C0 A hs f3 hid y_ H3 hwl C4 hl0b U7 lim;rintro A H3 ⟨lim,d1,C4,f3,hs,U5,t0,t1,t2,t3,t4,t10,t11,t12,B0,C0⟩;have hid:=hs.lt;have y_:=zA2 hN f3.nx;refine zG (qA tyF Vh) fun K5 q7=>?_;have hpv:=Go.Sort.choosePivot_holds (ltF cf) d1 a b Z5;refine WE.con (Pu hm H3 id gen n d1 a b hs y_ Z5 (by omega) (by omega)) fun w' H4 g4 hw=>?_;subst hw;have I2:=hs.fr g4 zB2;have S3:=I2.lt;have f4:Fr (fun k=>k=id) H H4:=f3.then g4 fun _ h=>h.elim;have hN4:=zA2 hN f4.nx;clear hs hid y_ g4 f3;generalize Go.Sort.choosePivot (ltF cf) d1 a b=pv at hpv ⊢;obtain ⟨p0,hh⟩:=pv;obtain ⟨v8,r8⟩:=hpv;replace v8:a≤p0:=v8;replace r8:p0<b:=r8;refine zS tyF ?_;refine q7.out _ _ ?_;clear q7 K5;refine R1.gen (fun A5 H5=>H4=H5∧slot A5.tm 0=.one ((.o (.sl id gen 0 n 2)))∧slot A5.tm 1=.one (.i .i64 (a:Int))∧slot A5.tm 2=.one (.i .i64 (b:Int))∧slot A5.tm 3=.one (.i .i64 (lim:Int))∧slot A5.tm 4=.one ((.o (.clo cl [])))∧slot A5.tm 10=.one (.b wb)∧slot A5.tm 11=.one (.b wp)∧slot A5.tm 12=.one (.i .i64 (L:Int))∧slot A5.tm 13=.one (.i .i64 (p0:Int))∧slot A5.tm 14=.one (.i .i64 ((wk hh):Int))∧A5.nt=148∧A5.dfr=[]) ⟨rfl,zL⟩ ?_;clear t0 t1 t2 t3 t4 t10 t11 t12 B0 C0 A;rintro A _ ⟨rfl,t0,t1,t2,t3,t4,t10,t11,t12,t13,t14,B0,C0⟩;have hdz1:d1.size=n:=I2.sz;have hct1:Hd (∀ R,Go.Sort.PermIn a b d1 R→Go.Sort.SortedIn (ltF cf) a b R→Go.Sort.PermIn a0 b0 d R∧Go.Sort.SortedIn (ltF cf) a0 b0 R):=fun R h1 h2=>hct.out R (Go.Sort.permIn_trans _ _ _ a b U5.out h1) h2;have hBl1:Hd (Go.Sort.Below (ltF cf) a b d1):=hBl.out.perm (by omega) U5.out;clear hct hBl U5 hdz0;refine zW tyF ?_
 refine R1.gW (fun B H5=>∃ (pv:Nat) (hi:Int) (d2:Array α),a≤pv∧pv<b∧Fr (fun k=>k=id) H H5∧Srt c H5 id gen n d2∧Hd (Go.Sort.PermIn a b d1 d2)∧slot B.tm 0=.one ((.o (.sl id gen 0 n 2)))∧slot B.tm 1=.one (.i .i64 (a:Int))∧slot B.tm 2=.one (.i .i64 (b:Int))∧slot B.tm 3=.one (.i .i64 (lim:Int))∧slot B.tm 4=.one ((.o (.clo cl [])))∧slot B.tm 10=.one (.b wb)∧slot B.tm 11=.one (.b wp)∧slot B.tm 12=.one (.i .i64 (L:Int))∧slot B.tm 13=.one (.i .i64 (pv:Int))∧slot B.tm 14=.one (.i .i64 (hi:Int))∧B.nt=148∧B.dfr=[]) (fun K3 m1 m2 m3=>?_) ?_
 ·by_cases hdd:hh=.decreasing
  ·have hdi:(wk hh==2)=true:=by rw[hdd];rfl
   have hwa:IntKind.i64.wrap ((b:Int) - 1)=((b - 1:Nat):Int):=by rw[au (by omega) (by omega)];omega
   have hwb:IntKind.i64.wrap ((p0:Int) - (a:Int))=((p0 - a:Nat):Int):=by rw[au (by omega) (by omega)];omega
   have hwc:IntKind.i64.wrap (((b - 1:Nat):Int) - ((p0 - a:Nat):Int))=((b - 1 - (p0 - a):Nat):Int):=by rw[au (by omega) (by omega)];omega
   have x1:=Go.Sort.reverseRange_holds d1 a b F4 (by omega);replace x1:Hd _:=x1;replace hdd:Hd _:=hdd;refine zW tyF ?_;refine zG (qA tyF XA) fun K5 q7=>?_;refine WE.con (Vg hm H4 id gen n d1 a b I2 hN4 Z5 (by omega) (by omega)) fun w' H5 g5 ⟨hw,X0⟩=>?_;subst hw;replace X0:Hd _:=X0;refine zK tyF ?_;refine m1.out _ _ ?_;exact ⟨b - 1 - (p0 - a),1,_,by omega,by omega,f4.then g5 (fun _ h=>.inr h),X0.out,x1,zL⟩
  have hdi:(wk hh==2)=false:=by cases hh <;> first|rfl|exact absurd rfl hdd
  replace hdd:Hd _:=hdd;refine zW tyF ?_;refine m1.out _ _ ?_;exact ⟨p0,wk hh,d1,v8,r8,f4,I2,Go.Sort.permIn_refl d1 a b,zL⟩
 clear t0 t1 t2 t3 t4 t10 t11 t12 t13 t14 B0 C0 A I2 f4 S3 hN4 hh v8 r8 p0;rintro A H4 ⟨pv,hi,d2,v8,r8,f4,I2,P4,t0,t1,t2,t3,t4,t10,t11,t12,t13,t14,B0,C0⟩;have S3:=I2.lt;have hN4:=zA2 hN f4.nx;have hdz2:d2.size=n:=I2.sz;have hct2:Hd (∀ R,Go.Sort.PermIn a b d2 R→Go.Sort.SortedIn (ltF cf) a b R→Go.Sort.PermIn a0 b0 d R∧Go.Sort.SortedIn (ltF cf) a0 b0 R):=fun R h1 h2=>hct1.out R (Go.Sort.permIn_trans _ _ _ a b P4.out h1) h2;have hBl2:Hd (Go.Sort.Below (ltF cf) a b d2):=hBl1.out.perm (by omega) P4.out;clear hct1 hBl1 P4 hdz1;repeat refine R1.aA ?_
 refine R1.s_h (by kernel_rfl) fun K4 hK4=>?_;have key:Hd (∀ (bb:Bool) (A:ab),slot A.tm 75=.one (.b bb)∧slot A.tm 0=.one ((.o (.sl id gen 0 n 2)))∧slot A.tm 1=.one (.i .i64 (a:Int))∧slot A.tm 2=.one (.i .i64 (b:Int))∧slot A.tm 3=.one (.i .i64 (lim:Int))∧slot A.tm 4=.one ((.o (.clo cl [])))∧slot A.tm 10=.one (.b wb)∧slot A.tm 11=.one (.b wp)∧slot A.tm 12=.one (.i .i64 (L:Int))∧slot A.tm 13=.one (.i .i64 (pv:Int))∧A.nt=148∧A.dfr=[]→K4 A H4):=by
  clear t0 t1 t2 t3 t4 t10 t11 t12 t13 t14 B0 C0 A;rintro bb A ⟨t75,t0,t1,t2,t3,t4,t10,t11,t12,t13,B0,C0⟩;refine hK4.out _ _ ?_;clear hK4 K4;refine R1.gW (fun B H5=>∃ (d3:Array α),Fr (fun k=>k=id) H H5∧Srt c H5 id gen n d3∧Hd (Go.Sort.PermIn a b d2 d3)∧slot B.tm 0=.one ((.o (.sl id gen 0 n 2)))∧slot B.tm 1=.one (.i .i64 (a:Int))∧slot B.tm 2=.one (.i .i64 (b:Int))∧slot B.tm 3=.one (.i .i64 (lim:Int))∧slot B.tm 4=.one ((.o (.clo cl [])))∧slot B.tm 10=.one (.b wb)∧slot B.tm 11=.one (.b wp)∧slot B.tm 12=.one (.i .i64 (L:Int))∧slot B.tm 13=.one (.i .i64 (pv:Int))∧B.nt=148∧B.dfr=[]) (fun K5 m1 m2 m3=>?_) ?_
  ·cases bb with
   | true=>
    refine zW tyF ?_;refine zG (qA tyF Vp) fun K6 hK6=>?_;have hx:=Go.Sort.partialInsertionSort_holds hsw d2 a b Z5 (by omega) hBl2.out;refine WE.con (QH hm H4 id gen n d2 a b I2 hN4 Z5 (by omega) hn) fun w' H5 g5 ⟨hw,X0⟩=>?_;subst hw;generalize Go.Sort.partialInsertionSort (ltF cf) d2 a b=Z at hx X0 ⊢;obtain ⟨d3,zb⟩:=Z;obtain ⟨x1,x2⟩:=hx;cases zb with
    | true=>
     have S1:=hct2.out _ x1 (x2 rfl);replace x1:Hd _:=x1;replace x2:Hd _:=x2;replace X0:Hd _:=X0;replace S1:Hd _:=S1;refine zK tyF ?_;exact m3.out _ _ (q4.out _ _ (k4.out _ _ (fin _ _ _ _ (.inr rfl) qe (f4.then g5 fun _ h=>.inr h) X0.out S1.out)))
    | false=>
     replace x1:Hd _:=x1;replace x2:Hd _:=x2;replace X0:Hd _:=X0;refine zK tyF ?_;refine m1.out _ _ ?_;exact ⟨d3,f4.then g5 (fun _ h=>.inr h),X0.out,x1,zL⟩
   | false=>
    refine zW tyF ?_;refine m1.out _ _ ?_;exact ⟨d2,f4,I2,Go.Sort.permIn_refl d2 a b,zL⟩
  clear t0 t1 t2 t3 t4 t10 t11 t12 t13 t75 B0 C0 A I2 f4 S3 hN4 bb;rintro A H5 ⟨d3,f5,X0,z9,t0,t1,t2,t3,t4,t10,t11,t12,t13,B0,C0⟩;have W_:d3.size=n:=X0.sz;have hct3:Hd (∀ R,Go.Sort.PermIn a b d3 R→Go.Sort.SortedIn (ltF cf) a b R→Go.Sort.PermIn a0 b0 d R∧Go.Sort.SortedIn (ltF cf) a0 b0 R):=fun R h1 h2=>hct2.out R (Go.Sort.permIn_trans _ _ _ a b z9.out h1) h2;have hBl3:Hd (Go.Sort.Below (ltF cf) a b d3):=hBl2.out.perm (by omega) z9.out;clear hct2 hBl2 z9 hdz2;repeat refine R1.aA ?_
  refine R1.s_h (by kernel_rfl) fun K6 hK6=>?_;have key2:Hd (∀ (bb:Bool) (A:ab) (H5:Hp),Fr (fun k=>k=id) H H5→Srt c H5 id gen n d3→(bb=true→0<a∧ltF cf d3[a - 1]! d3[pv]! = false)→slot A.tm 97=.one (.b bb)∧slot A.tm 0=.one ((.o (.sl id gen 0 n 2)))∧slot A.tm 1=.one (.i .i64 (a:Int))∧slot A.tm 2=.one (.i .i64 (b:Int))∧slot A.tm 3=.one (.i .i64 (lim:Int))∧slot A.tm 4=.one ((.o (.clo cl [])))∧slot A.tm 10=.one (.b wb)∧slot A.tm 11=.one (.b wp)∧slot A.tm 12=.one (.i .i64 (L:Int))∧slot A.tm 13=.one (.i .i64 (pv:Int))∧A.nt=148∧A.dfr=[]→K6 A H5):=by
   clear t0 t1 t2 t3 t4 t10 t11 t12 t13 B0 C0 A X0 f5 H5;rintro bb A H5 f5 X0 T8 ⟨t97,t0,t1,t2,t3,t4,t10,t11,t12,t13,B0,C0⟩;refine hK6.out _ _ ?_;clear hK6 K6;have O9:=X0.lt;have hN5:=zA2 hN f5.nx;cases bb with
   | true=>
    obtain ⟨ha0,hnl⟩:=T8 rfl;refine zW tyF ?_;refine zG (qA tyF XO) fun K7 hK7=>?_;have P6:=Vx hm H5 id gen n d3 a b pv X0 hN5 Z5 (by omega) (by omega) hn;generalize hx:Go.Sort.partitionEqual (ltF cf) d3 a b pv=Z at P6;obtain ⟨mid,d4⟩:=Z;obtain ⟨y1,y2,y3,y4,y5⟩:=Go.Sort.round_eq hsw (Go.Sort.partitionEqual_holds (ltF cf)) ha0 v8 r8 (by omega) hBl3.out hnl hx;refine WE.con P6 fun w' H6 g6 ⟨hw,S7⟩=>?_;subst hw;have Z':Hd (∀ R,Go.Sort.PermIn mid b d4 R→Go.Sort.SortedIn (ltF cf) mid b R→Go.Sort.PermIn a0 b0 d R∧Go.Sort.SortedIn (ltF cf) a0 b0 R):=fun R h1 h2=>hct3.out R (y5 R h1 h2).1 (y5 R h1 h2).2;clear P6 y5 hnl T8;replace hx:Hd _:=hx;replace y3:Hd _:=y3;replace y4:Hd _:=y4;replace S7:Hd (Srt c H6 id gen n d4):=S7;refine zK tyF ?_;refine q2.out _ _ ?_;exact ⟨b - mid,by omega,mid,b,lim,wb,wp,d4,rfl,by omega,y2,hbb0,C4,f5.then g6 (fun _ h=>.inr h),S7.out,y4,Z',zL⟩
   | false=>
    clear T8;refine zW tyF ?_;refine zG (qA tyF UB) fun K7 hK7=>?_;have P6:=QC hm H5 id gen n d3 a b pv X0 hN5 Z5 (by omega) (by omega) hn;generalize hx:Go.Sort.partition (ltF cf) d3 a b pv=Z at P6;obtain ⟨mid,ap,d4⟩:=Z;obtain ⟨y1,y2,y3,y4,y5,y6,y7⟩:=Go.Sort.round_part hsw (Go.Sort.partition_holds (ltF cf)) v8 r8 (by omega) hBl3.out hx;refine WE.con P6 fun w' H6 g6 ⟨hw,S7⟩=>?_;subst hw;replace S7:Srt c H6 id gen n d4:=S7;have N9:=S7.lt;have f6:Fr (fun k=>k=id) H H6:=f5.then g6 fun _ h=>.inr h;have hN6:=zA2 hN f6.nx;have hml:IntKind.i64.wrap ((mid:Int) - (a:Int))=((mid - a:Nat):Int):=by rw[au (by omega) (by omega)];omega
    have hmr:IntKind.i64.wrap ((b:Int) - (mid:Int))=((b - mid:Nat):Int):=by rw[au (by omega) (by omega)];omega
    have hm1:=zC0 mid (by omega);have hLe:=hL.out;have hq8:IntKind.i64.wrap ((L:Int).tdiv 8)=((L / 8:Nat):Int):=by rw[Int.tdiv_eq_ediv_of_nonneg (by omega),au (by omega) (by omega)];omega
    replace hLe:Hd _:=hLe;clear P6;replace hx:Hd _:=hx;replace y3:Hd _:=y3;replace y4:Hd _:=y4;replace y5:Hd _:=y5;replace y6:Hd _:=y6;replace y7:Hd _:=y7;by_cases hlr:mid - a<b - mid
    ·have hlri:((mid - a:Nat):Int)<((b - mid:Nat):Int):=by omega
     replace S7:Hd _:=S7;refine zK tyH ?_;refine zG (qA tyF BV) fun K8 hK8=>?_;refine WE.con (ih.out (mid - a) (by omega) H6 d4 a mid lim (zA1 _) S7.out hN6 (by omega) (by omega) C4 y4.out) fun w' H7 g7 ⟨hw,dL,hs7,pL,sL⟩=>?_;subst hw;obtain ⟨u1,u2⟩:=y6.out dL pL sL;have Z':Hd (∀ R,Go.Sort.PermIn (mid+1) b dL R→Go.Sort.SortedIn (ltF cf) (mid+1) b R→Go.Sort.PermIn a0 b0 d R∧Go.Sort.SortedIn (ltF cf) a0 b0 R):=fun R h1 h2=>hct3.out R (u2 R h1 h2).1 (u2 R h1 h2).2;clear u2;replace u1:Hd _:=u1;replace hs7:Hd _:=hs7;replace pL:Hd _:=pL;replace sL:Hd _:=sL;refine zK tyH ?_;refine q1.out _ _ ?_;exact ⟨b - (mid+1),by omega,mid+1,b,lim,_,ap,dL,rfl,by omega,by omega,hbb0,C4,f6.then g7 (fun _ h=>.inr h),hs7.out,u1,Z',zL⟩
    have hlri:¬((mid - a:Nat):Int)<((b - mid:Nat):Int):=by omega
    replace S7:Hd _:=S7;refine zK tyH ?_;refine zG (qA tyF BV) fun K8 hK8=>?_;refine WE.con (ih.out (b - (mid+1)) (by omega) H6 d4 (mid+1) b lim (zA1 _) S7.out hN6 (by omega) (by omega) C4 y5.out) fun w' H7 g7 ⟨hw,dL,hs7,pL,sL⟩=>?_;subst hw;obtain ⟨u1,u2⟩:=y7.out dL pL sL;have Z':Hd (∀ R,Go.Sort.PermIn a mid dL R→Go.Sort.SortedIn (ltF cf) a mid R→Go.Sort.PermIn a0 b0 d R∧Go.Sort.SortedIn (ltF cf) a0 b0 R):=fun R h1 h2=>hct3.out R (u2 R h1 h2).1 (u2 R h1 h2).2;clear u2;replace u1:Hd _:=u1;replace hs7:Hd _:=hs7;replace pL:Hd _:=pL;replace sL:Hd _:=sL;refine zK tyH ?_;refine q1.out _ _ ?_;exact ⟨mid - a,by omega,a,mid,lim,_,ap,dL,rfl,haa,y1,by omega,C4,f6.then g7 (fun _ h=>.inr h),hs7.out,u1,Z',zL⟩
  clear hK6;by_cases ha0:0<a
  ·have ha0i:(0:Int)<(a:Int):=by omega
   have hwa:IntKind.i64.wrap ((a:Int) - 1)=((a - 1:Nat):Int):=by rw[au (by omega) (by omega)];omega
   have O9:=X0.lt;have hN5:=zA2 hN f5.nx;obtain ⟨lo,B2,hg⟩:=X0.row;have lv:=hm.ltH hN5;have R0:=hm.len;have b1:a - 1<n:=by omega
   have b2:pv<n:=by omega
   have e1:a - 1<d3.size:=by omega
   have e2:pv<d3.size:=by omega
   replace W_:Hd _:=W_;replace e1:Hd _:=e1;replace e2:Hd _:=e2;refine zS (qA tyF (qA (ixC b1) (qA (ixC b2) (rdQ hm.len e1.out e2.out)))) ?_;refine WE.con (hm.con H5 d3[a - 1]! d3[pv]! hN5) fun w' H6 g6 hq=>?_;subst hq;have S7:=X0.fr g6 zB2;have f6:Fr (fun k=>k=id) H H6:=f5.then g6 fun _ h=>h.elim;by_cases B3:cf d3[a - 1]! d3[pv]!<0
   ·refine zS tyF ?_;exact key2.out false _ _ f6 S7 (fun h=>by cases h) zL
   refine zS tyF ?_;exact key2.out true _ _ f6 S7 (fun _=>⟨ha0,decide_eq_false B3⟩) zL
  have ha0i:¬(0:Int)<(a:Int):=by omega
  replace W_:Hd _:=W_;refine zS tyF ?_;exact key2.out false _ _ f5 X0 (fun h=>by cases h) zL
 clear hK4;cases wb with
 | false=>
  refine zS tyF ?_;exact key.out false _ zL
 | true=>
 cases wp with
 | false=>
  refine zS tyF ?_;exact key.out false _ zL
 | true=>
  refine zS tyF ?_;exact key.out (hi==1) _ zL
theorem OX (hm:Cmp c cf cl N) (hsw:Go.Sort.SWO (ltF cf)) (H:Hp) (id gen n:Nat) (d:Array α) (hs:Srt c H id gen n d) (hN:N≤H.nx) (hn:n≤65536):
  Con E2 38 [.one (.o (.sl id gen 0 n 2)),.one (.o (.clo cl []))] H (fun k=>k=id) fun r H'=>r=.tup []∧∃ d',Srt c H' id gen n d'∧d'.toList.Perm d.toList∧Go.Sort.SortedIn (ltF cf) 0 n d':=by
 have X6:=hm.bd;refine Con.of rfl fun lg=>?_;have hs:Srt c ⟨H.t,H.nx,lg⟩ id gen n d:=hs;have hN:N≤(⟨H.t,H.nx,lg⟩:Hp).nx:=hN;generalize (⟨H.t,H.nx,lg⟩:Hp)=H at hs hN ⊢;refine C1.body (E:=E2) (nt:=14) (res:=[]) Tryz.func38 rfl rfl rfl rfl rfl fun tm A0=>?_;have h0:=A0 0 _ rfl;have h1:=A0 1 _ rfl;clear A0;have hid:=hs.lt;have M0:=hs.sz;have e1:IntKind.u64.wrap (n:Int)=(n:Int):=wM (by omega);have hb:=lk hn;replace M0:Hd _:=M0;refine zW tyF ?_;refine zG (qA tyU (qA ixS (qA (cvQ iV Dm) ID))) fun K hK=>?_;refine WE.con (Bx H n hn) fun w' H1 g1 hw=>?_;subst hw;have V1:=hs.fr g1 zB2;have hid1:=V1.lt;refine zS (qA tyF BV) ?_;refine WE.con (VS hm hsw id gen n hn n H1 d 0 n (Go.Sort.bitsLen n) (zA1 _) V1 (zA2 hN g1.nx) (Nat.zero_le _) (zA1 _) (by omega) (.inl rfl)) fun w' H2 g2 ⟨hw,d',D3,hp,p9⟩=>?_;subst hw;replace D3:Hd _:=D3;replace hp:Hd _:=hp;replace p9:Hd _:=p9;refine zK tyF ?_;refine ⟨_,_,cu (.inl rfl) qe,((Fr.refl (X:=fun k=>k=id) H).then g1 fun _ h=>h.elim).then g2 fun _ h=>.inr h,fun _=>⟨rfl,d',D3.out,?_,p9.out⟩⟩;have h3:=hp.out.2.2;have e2:n=d.size:=M0.out.symm;have e3:n=d'.size:=D3.out.1.symm;rw[show d'.extract 0 n=d' from by rw[e3];exact Array.extract_size,show d.extract 0 n=d from by rw[e2];exact Array.extract_size] at h3;exact h3
end
def DigB (us:List Pr) (ds:List Int):Prop:=ds.length=us.length∧∀ i,i<us.length→0≤ds.getD i 0∧(i+1<us.length→ds.getD i 0<(us.getD (i+1) ([],0)).2)
theorem OL (n:List UInt8) (us:List Pr) (b:Bool) (s t:Int) (x:Gp) (l:List Gp):ee n us b s t (x::l)=if (hU n us x.2.1).2≠0 then (0,0,(hU n us x.2.1).2) else if b=true∧t≤(hU n us x.2.1).1 then (0,0,22) else
  ee n us true (IntKind.i64.wrap (s+IntKind.i64.wrap (x.1*(hU n us x.2.1).1))) (hU n us x.2.1).1 l:=by rw[ee]
theorem Wg (v:Int) (u:Pr) (us:List Pr):yv v (u::us)=if u.2<1∨60<u.2∨1099511627776<v*u.2 then [] else (u,v*u.2)::yv (v*u.2) us:=by rw[yv]
theorem QS {a b:Int} (ha:1≤a) (hb:1≤b):1≤a*b:=by
 have:=Int.mul_pos (show 0<a by omega) (show 0<b by omega);omega
theorem TV:∀ (v:Int) (us:List Pr),1≤v→∀ y∈yv v us,1≤y.2
 | _,[],_=>fun _ h=>absurd h List.not_mem_nil
 | v,u::us,hv=>fun y hy=>by
  unfold yv at hy;by_cases hb:u.2<1∨60<u.2∨1099511627776<v*u.2
  ·rw[zB0 hb] at hy;cases hy
  rw[zB1 hb] at hy;have h1:=QS hv (show 1≤u.2 by omega);rcases List.mem_cons.1 hy with rfl|hy
  ·exact h1
  exact TV _ us h1 y hy
theorem wc {α:Type} (l:List α) (x:α):(l++[x]).getLast?=some x:=List.getLast?_concat
theorem Gh:∀ (acc l:List Cs),goT acc l=0→∀ c∈l,eV c=true∧ga c.ws=0
 | _,[],_=>fun _ h=>absurd h List.not_mem_nil
 | acc,x::l,h=>fun c hc=>by
  rw[goT] at h;by_cases hn:eW acc x≠0
  ·rw[zB0 hn] at h;exact absurd h hn
  rw[zB1 hn] at h;rcases List.mem_cons.1 hc with rfl|hc
  ·have hn:eW acc c=0:=Classical.byContradiction hn;unfold eW at hn;by_cases h1:eV c=false
   ·rw[zB0 h1] at hn;cases hn
   rw[zB1 h1] at hn;by_cases h2:ga c.ws≠0
   ·rw[zB0 h2] at hn;cases hn
   exact ⟨by simpa using h1,Classical.byContradiction h2⟩
  exact Gh (acc++[x]) l h c hc
theorem lU {t:Tb} (h:gM t=0):nmB t.1=true∧t.2.length≤256∧goT [] t.2=0:=by
 unfold gM at h;by_cases h1:nmB t.1=false
 ·rw[zB0 h1] at h;cases h
 rw[zB1 h1] at h;by_cases h2:(256:Int)<t.2.length
 ·rw[zB0 h2] at h;cases h
 rw[zB1 h2] at h;exact ⟨by simpa using h1,by omega,h⟩
theorem NN {c:Cs} (h:eV c=true) (hk:c.kind≠4):fl c.num=0∧(c.good≠[]→nmB c.good=true):=by
 unfold eV at h;by_cases h1:c.face<1∨6<c.face∨c.col<1∨12<c.col∨c.line<1∨99<c.line
 ·rw[zB0 h1] at h;cases h
 rw[zB1 h1,zB1 hk] at h;by_cases h2:c.kind=1∨c.kind=2∨c.kind=3
 ·rw[zB0 h2,Bool.and_eq_true,decide_eq_true_eq,Bool.or_eq_true,cM,beq_iff_eq] at h;exact ⟨h.1,fun hg=>h.2.resolve_left hg⟩
 rw[zB1 h2] at h;cases h
def Alt (c' c:Cs):Prop:=∃ y,c'=c.amt y∧(y=c.num∨c.kind≠4∧fl y=0∧tT y.1=false)
def InCs (cs:List Cs) (x:Cl):Prop:=∃ (j:Nat) (c:Cs),x.1=(j:Int)∧cs[j]?=some c∧c.kind≠4∧x.2.2.2=c.num
theorem Yl {cs:List Cs} {i j:Nat} {y:Nm} (h:i≠j):(sW cs i y)[j]?=cs[j]?:=by
 unfold sW;split
 ·rw[List.getElem?_set_ne h]
 rfl
abbrev Lot:=List UInt8×Int
def dh (x:Lot):List AC:=[.o (.str x.1),.i .i64 x.2]
theorem kK (x:Lot):(dh x).length=2:=rfl
def SlL (H:Hp) (v:AC) (l:List Lot):Prop:=SlC H v 2 l.length (l.flatMap dh)
theorem SlL.gr {H H':Hp} {v:AC} {l:List Lot} (h:SlL H v l) (hg:Gr H H'):SlL H' v l:=SlC.gr h hg
theorem SlL.len {H:Hp} {v:AC} {l:List Lot} (h:SlL H v l):cG H 1 (.one v)=.val (.one (.i .i64 (l.length:Int))) H:=SlC.len h
theorem SlL.lt {H:Hp} {v:AC} {l:List Lot} (h:SlL H v l):ltV (.one v) H.nx:=lC h
structure TC (cells:List AC) (o:Nat) (x:Lot):Prop where
 all:(cells.drop o).take 2=dh x
 le:o+2≤cells.length
 le1:o+1≤cells.length
 le2:o+1+1≤cells.length
 fst:(cells.drop o).headD (.b false)=.o (.str x.1)
 snd:(cells.drop (o+1)).headD (.b false)=.i .i64 x.2
theorem Pw {cells:List AC} {o:Nat} {x:Lot} (h:(cells.drop o).take 2=dh x) (hl:o+2≤cells.length):TC cells o x:=by
 refine ⟨h,hl,by omega,by omega,?_,?_⟩
 ·cases hd:cells.drop o with
  | nil=>have:=congrArg List.length hd;simp at this;omega
  | cons a r=>
   rw[hd] at h;cases r with
   | nil=>cases h
   | cons b r=>cases h;rfl
 rw[←List.drop_drop];cases hd:cells.drop o with
 | nil=>have:=congrArg List.length hd;simp at this;omega
 | cons a r=>
  rw[hd] at h;cases r with
  | nil=>cases h
  | cons b r=>cases h;rfl
theorem SlL.open {H:Hp} {v:AC} {l:List Lot} (h:SlL H v l) (hn:0<l.length):∃ id g off cells,v=.o (.sl id g off l.length 2)∧id<H.nx∧rowOf (H.get id) g=some cells∧∀ (i:Nat) (x:Lot),l[i]?=some x→TC cells (off+i*2) x:=by
 obtain ⟨id,g,off,h1,h2,hr⟩:=SlC.pos h hn;have Y2:=hr;obtain ⟨cells,h3,h6,h7⟩:=hr;refine ⟨id,g,off,cells,h1,h2,h3,fun i x hx=>?_⟩;obtain ⟨cells',k3,k6,k7⟩:=Rd.at (c:=dh) kK Y2 hx;rw[h3] at k3;cases k3
 exact Pw k7 k6
theorem SlL.QY {H:Hp} {v:AC} {x:Lot} {l:List Lot} (h:SlL H v (x::l)):∃ id g off cells,v=.o (.sl id g off (l.length+1) 2)∧id<H.nx∧rowOf (H.get id) g=some cells∧TC cells off x:=by
 obtain ⟨id,g,off,cells,h1,h2,h3,h6⟩:=h.open (by simp);have:=h6 0 x rfl;rw[Nat.zero_mul,Nat.add_zero] at this;exact ⟨id,g,off,cells,h1,h2,h3,this⟩
theorem SlL.tail {H:Hp} {id g off n:Nat} {x:Lot} {l:List Lot} (h:SlL H (.o (.sl id g off n 2)) (x::l)):n=l.length+1∧SlL H (.o (.sl id g (off+1*2) (n - 1) 2)) l:=by
 obtain ⟨id',g',off',h1,h2,hr⟩:=SlC.pos h (by simp);cases h1
 refine ⟨by simp,?_,.inr ⟨id,g,off+1*2,by simp,h2,?_⟩⟩
 ·exact ji kK l
 have:=hr.part 2 (l.length*2) (by simp only[List.length_cons];omega);have e:(((x::l).flatMap dh).drop 2).take (l.length*2)=l.flatMap dh:=by
  rw[List.flatMap_cons,show dh x=[.o (.str x.1),.i .i64 x.2] from rfl];show (l.flatMap dh).take (l.length*2)=_;rw[List.take_of_length_le (by rw[ji kK];exact zA1 _)]
 rw[e] at this;exact this
theorem SlL.Ad {H:Hp} {id g off:Nat} {x:Lot} {l:List Lot} (h:SlL H (.o (.sl id g off (l.length+1) 2)) (x::l)):SlL H (.o (.sl id g (off+2) l.length 2)) l:=h.tail.2
theorem Ah (x:List UInt8):aW x []=false:=by cases x <;> rfl
theorem wm (a b:UInt8) (x y:List UInt8):aW (a::x) (b::y)=(decide (a.toNat<b.toNat)||(decide (a.toNat=b.toNat)&&aW x y)):=by
 show ifE (Nat.blt a.toNat b.toNat) true (both (Nat.beq a.toNat b.toNat) (aW x y))=_;rw[ck];by_cases h:a.toNat<b.toNat
 ·have:Nat.blt a.toNat b.toNat=true:=zA5 h;rw[this,decide_eq_true h];rfl
 have h1:Nat.blt a.toNat b.toNat=false:=by
  cases hb:Nat.blt a.toNat b.toNat with
  | false=>rfl
  | true=>exact absurd (zA4 hb) h
 rw[h1,decide_eq_false h];show (Nat.beq a.toNat b.toNat&&aW x y)=_;rw[LJ];rfl
theorem sf:∀ x:List UInt8,aW x x=false
 | []=>rfl
 | a::x=>by rw[wm,sf x];simp
theorem fu:∀ {x y z:List UInt8},aW x y=true→aW y z=true→aW x z=true
 | x,y,[],_,h=>by rw[Ah] at h;cases h
 | x,[],c::z,h,_=>by rw[Ah] at h;cases h
 | [],b::y,c::z,_,_=>rfl
 | a::x,b::y,c::z,h,k=>by
  rw[wm] at h k ⊢;simp only[Bool.or_eq_true,decide_eq_true_eq,Bool.and_eq_true] at h k ⊢;rcases h with h|⟨h,h'⟩
  ·rcases k with k|⟨k,_⟩
   ·left;omega
   left;omega
  rcases k with k|⟨k,k'⟩
  ·left;omega
  right;exact ⟨by omega,fu h' k'⟩
theorem iQ:∀ {x y:List UInt8},aW x y=false→aW y x=false→x=y
 | [],[],_,_=>rfl
 | [],_::_,h,_=>by cases h
 | _::_,[],_,h=>by cases h
 | a::x,b::y,h,k=>by
  rw[wm] at h k;simp only[Bool.or_eq_false_iff,decide_eq_false_iff_not,Bool.and_eq_false_iff] at h k;have e:a.toNat=b.toNat:=by omega
  have hx:=iQ (h.2.resolve_left (fun hh=>hh e)) (k.2.resolve_left (fun hh=>hh e.symm));rw[hx,UInt8.toNat_inj.1 e]
theorem FZ {x y:List UInt8} (h:aW x y=true):x≠y:=fun e=>by subst e;rw[sf] at h;cases h
def mv:List Lot→Prop
 | []=>True
 | x::l=>(∀ y∈l,aW x.1 y.1=true)∧x.2≠0∧mv l
def amt:List Lot→List UInt8→Int
 | [],_=>0
 | x::l,s=>if x.1=s then x.2 else amt l s
theorem gR {s:List UInt8}:∀ {l:List Lot},(∀ y∈l,aW s y.1=true)→amt l s=0
 | [],_=>rfl
 | y::l,h=>by
  unfold amt;rw[zB1 fun e=>FZ (h y (List.mem_cons_self ..)) e.symm];exact gR fun z hz=>h z (List.mem_cons_of_mem _ hz)
theorem cW (x:Lot) (l:List Lot):amt (x::l) x.1=x.2:=zB0 rfl
theorem dU {x:Lot} {l:List Lot} {s:List UInt8} (h:x.1≠s):amt (x::l) s=amt l s:=zB1 h
theorem gz {x y:Lot} {b:List Lot} (h:aW x.1 y.1=true) (hb:mv (y::b)):∀ z∈y::b,aW x.1 z.1=true:=fun z hz=>by
 rcases List.mem_cons.1 hz with rfl|hz
 ·exact h
 exact fu h (hb.1 z hz)
theorem qk:∀ {a b:List Lot},mv a→mv b→(∀ s,amt a s=amt b s)→a=b
 | [],[],_,_,_=>rfl
 | [],y::b,_,hb,h=>by
  have:=h y.1;rw[cW] at this;exact absurd this.symm hb.2.1
 | x::a,[],ha,_,h=>by
  have:=h x.1;rw[cW] at this;exact absurd this ha.2.1
 | x::a,y::b,ha,hb,h=>by
  cases Z6:aW x.1 y.1 with
  | true=>
   have:=h x.1;rw[cW,gR (gz Z6 hb)] at this;exact absurd this ha.2.1
  | false=>
   cases z_:aW y.1 x.1 with
   | true=>
    have:=h y.1;rw[cW,gR (gz z_ ha)] at this;exact absurd this.symm hb.2.1
   | false=>
    have e1:=iQ Z6 z_;have e2:=h x.1;rw[cW,e1,cW] at e2;have e3:a=b:=qk ha.2.2 hb.2.2 fun s=>by
     by_cases e:x.1=s
     ·subst e;rw[gR ha.1,e1,gR hb.1]
     have:=h s;rwa [dU (x:=x) e,dU (x:=y) (by rw[←e1];exact e)] at this
    rw[e3,show x=y from Prod.ext e1 e2]
theorem VB:al Tryz.prog 39=true:=by kernel_rfl
def cfL (x y:Lot):Int:=if aW x.1 y.1=true then -1 else 1
theorem QD (H:Hp) (x y:Lot):Con E2 39 [.agg (dh x),.agg (dh y)] H (fun _=>False) fun r _=>r=.one (.i .i64 (cfL x y)):=by
 refine Con.of rfl fun lg=>?_;generalize (⟨H.t,H.nx,lg⟩:Hp)=H;obtain ⟨x1,x2⟩:=x;obtain ⟨y1,y2⟩:=y;show C1 E2 _ [.agg [.o (.str x1),.i .i64 x2],.agg [.o (.str y1),.i .i64 y2]] H fun v h'=>Fr _ H h'∧∀ _:List Nat,v=.one (.i .i64 (if aW x1 y1=true then -1 else 1));refine C1.body (E:=E2) (nt:=10) (res:=[.tmp 4]) Tryz.func39 rfl rfl rfl rfl rfl fun tm A0=>?_;have h0:=A0 0 _ rfl;have h1:=A0 1 _ rfl;clear A0;generalize E0:(if aW x1 y1=true then (-1:Int) else 1)=r0;have fin:∀ (b:Int) (A:ab) (H3:Hp),slot A.tm 4=.one (.i .i64 b)→A.dfr=[]→Gr H H3→b=r0→∃ w H4,aC E2 [.tmp 4] (.ret,A,H3)=.ok [(w,H4)]∧Gr H H4∧∀ _:List Nat,w=.one (.i .i64 r0):=fun b A H3 h1 hd hg hb=>
  ⟨_,H3,ai (.i .i64 b) (.inr rfl) hd h1,hg,fun _=>by rw[hb]⟩
 replace fin:Hd _:=fin;cases hb:aW x1 y1 with
 | true=>
  have e:(-1:Int)=r0:=by rw[←E0,zB0 hb]
  clear E0;replace e:Hd _:=e;refine zW tyF ?_;exact fin.out (-1) _ _ qp qe (((Fr.refl _).new _).new _) e.out
 | false=>
  have e:(1:Int)=r0:=by rw[←E0,zB1 (by rw[hb];exact zA8)]
  clear E0;replace e:Hd _:=e;refine zW tyF ?_;exact fin.out 1 _ _ qp qe (((Fr.refl _).new _).new _) e.out
theorem cmpL:Cmp dh cfL 39 0 where
 len:=fun x=>rfl
 lt:=fun x i hi=>by
  obtain ⟨x1,x2⟩:=x;have:i∈([]:List Nat):=hi;cases this
 bd:=VB
 con:=fun H x y _=>QD H x y
theorem Md (x y:Lot):ltF cfL x y=aW x.1 y.1:=by
 unfold ltF cfL;cases h:aW x.1 y.1 with
 | true=>rfl
 | false=>rfl
theorem swoL:Go.Sort.SWO (ltF cfL) where
 irrefl:=fun x=>by rw[Md];exact sf x.1
 trans:=fun x y z h1 h2=>by
  rw[Md] at *;exact fu h1 h2
 ntrans:=fun x y z h1 h2=>by
  rw[Md] at *;cases h:aW x.1 z.1 with
  | false=>rfl
  | true=>
   cases h3:aW y.1 x.1 with
   | true=>rw[fu h3 h] at h2;cases h2
   | false=>rw[iQ h1 h3,h2] at h;cases h
theorem UC (H:Hp) (cl:FuncId):Con E2 146 [.one (.o .nilS),.one (.i .i64 0),.one (.i .i64 0),.one (.o (.clo cl []))] H (fun _=>False) fun r _=>r=.tup []:=by
 refine Con.of rfl fun lg=>?_;generalize (⟨H.t,H.nx,lg⟩:Hp)=H;refine C1.body (E:=E2) (nt:=53) (res:=[]) Tryz.func146 rfl rfl rfl rfl rfl fun tm A0=>?_;have h0:=A0 0 _ rfl;have h1:=A0 1 _ rfl;have h2:=A0 2 _ rfl;have h3:=A0 3 _ rfl;clear A0;have hw:IntKind.i64.wrap (0+1)=1:=by decide
 refine zW tyF ?_;refine R1.dM fun K k1 k2 k3 k4=>?_;refine R1.loop (fun z A H1=>Gr H H1∧slot A.tm 2=.one (.i .i64 (0:Int))∧slot A.tm 8=.one (.i .i64 (1:Int))∧A.nt=53∧A.dfr=[]) ?_ 0 ⟨Fr.refl _,zL⟩;clear h0 h1 h2 h3 tm k3;rintro z A H1 ⟨g1,t2,t8,B0,C0⟩;have hc:¬(1:Int)<0:=by decide
 refine zW tyF ?_;refine k2.out _ _ ?_;exact ⟨_,_,cu (.inl rfl) qe,g1,fun _=>rfl⟩
theorem VU (H:Hp) (cl:FuncId):Con E2 86 [.one (.o .nilS),.one (.i .i64 0),.one (.i .i64 0),.one (.i .i64 0),.one (.o (.clo cl []))] H (fun _=>False) fun r _=>r=.tup []:=by
 refine Con.of rfl fun lg=>?_;generalize (⟨H.t,H.nx,lg⟩:Hp)=H;refine C1.body (E:=E2) (nt:=148) (res:=[]) Tryz.func86 rfl rfl rfl rfl rfl fun tm A0=>?_;have h0:=A0 0 _ rfl;have h1:=A0 1 _ rfl;have h2:=A0 2 _ rfl;have h3:=A0 3 _ rfl;have h4:=A0 4 _ rfl;clear A0;have hw:IntKind.i64.wrap (0 - 0)=0:=by decide
 refine zW tyF ?_;refine R1.dM fun K k1 k2 k3 k4=>?_;refine R1.loop (fun z A H1=>Gr H H1∧slot A.tm 0=.one ((.o .nilS))∧slot A.tm 1=.one (.i .i64 (0:Int))∧slot A.tm 2=.one (.i .i64 (0:Int))∧slot A.tm 4=.one ((.o (.clo cl [])))∧A.nt=148∧A.dfr=[]) ?_ 0 ⟨Fr.refl _,zL⟩;clear h0 h1 h2 h3 h4 tm k3;rintro z A H1 ⟨g1,t0,t1,t2,t4,B0,C0⟩;have hc:(0:Int)≤12:=by decide
 refine R1.dM fun K2 q1 q2 q3 q4=>?_;refine zW tyF ?_;refine zG (qA tyF Ra) fun K5 q7=>?_;refine WE.con (UC H1 cl) fun w' H2 g2 U1=>?_;subst U1;refine zK tyF ?_;exact q4.out _ _ (k4.out _ _ ⟨_,_,cu (.inr rfl) qe,g1.gr g2,fun _=>rfl⟩)
theorem OU (H:Hp) (cl:FuncId):Con E2 38 [.one (.o .nilS),.one (.o (.clo cl []))] H (fun _=>False) fun r _=>r=.tup []:=by
 refine Con.of rfl fun lg=>?_;generalize (⟨H.t,H.nx,lg⟩:Hp)=H;refine C1.body (E:=E2) (nt:=14) (res:=[]) Tryz.func38 rfl rfl rfl rfl rfl fun tm A0=>?_;have h0:=A0 0 _ rfl;have h1:=A0 1 _ rfl;clear A0;have e1:IntKind.u64.wrap 0=0:=wM (x:=0) (by decide);have hlen:=Bx H 0 (by decide);rw[show ((0:Nat):Int)=0 from rfl,show ((Go.Sort.bitsLen 0:Nat):Int)=0 from rfl] at hlen;replace hlen:Hd (Con E2 _ _ _ _ _):=hlen;refine zW tyF ?_;refine zG (qA tyU (qA ixS (qA (cvQ iV Dm) ID))) fun K hK=>?_;refine WE.con hlen.out fun w' H1 g1 hw=>?_;subst hw;clear hlen;refine zS (qA tyF BV) ?_;refine WE.con (VU H1 cl) fun w' H2 g2 hw=>?_;subst hw;refine zK tyF ?_;exact ⟨_,_,cu (.inl rfl) qe,g1.gr g2,fun _=>rfl⟩
theorem UE {l:List Lot} (hp:List.Pairwise (fun x y:Lot=>aW y.1 x.1=false) l) (hd:List.Pairwise (fun x y:Lot=>x.1≠y.1) l) (h0:∀ x∈l,x.2≠0):mv l:=by
 induction l with
 | nil=>trivial
 | cons x l ih=>
  obtain ⟨p1,p2⟩:=List.pairwise_cons.1 hp;obtain ⟨d1,d2⟩:=List.pairwise_cons.1 hd;refine ⟨fun y hy=>?_,h0 x (List.mem_cons_self ..),ih p2 d2 fun z hz=>h0 z (List.mem_cons_of_mem _ hz)⟩;cases h:aW x.1 y.1 with
  | true=>rfl
  | false=>exact absurd (iQ h (p1 y hy)) (d1 y hy)
theorem NC (H:Hp) (id gen lo:Nat) (l:List Lot) (hg:H.get id=some (.arr (l.flatMap dh) 92 lo gen)) (B2:lo≤gen) (hid:id<H.nx) (hn:l.length≤4096):
  Con E2 38 [.one (.o (.sl id gen 0 l.length 2)),.one (.o (.clo 39 []))] H (fun k=>k=id) fun q H'=>q=.tup []∧∃ out lo',lo'≤gen∧H'.get id=some (.arr (out.flatMap dh) 92 lo' gen)∧id<H'.nx∧out.Perm l∧List.Pairwise (fun x y:Lot=>aW y.1 x.1=false) out:=by
 have hd:Srt dh H id gen l.length l.toArray:=⟨by rw[List.size_toArray],⟨lo,B2,by rw[hg];unfold dW;rw[List.toList_toArray]⟩,hid⟩;intro lg;refine N1.mono (OX cmpL swoL H id gen l.length _ hd (Nat.zero_le _) (by omega) lg) fun w h' ⟨h1,h2⟩=>⟨h1,fun lg'=>?_⟩;obtain ⟨h3,d',h4,h5,h6⟩:=h2 lg';obtain ⟨lo',hlo',M1⟩:=h4.row;refine ⟨h3,d'.toList,lo',hlo',M1,h4.lt,?_,?_⟩
 ·rw[List.toList_toArray] at h5;exact h5
 rw[List.pairwise_iff_getElem];intro i j hi hj U3;rw[Array.length_toList,h4.sz] at hi hj;have h7:=h6 i j (Nat.zero_le _) U3 hj;have P8:i<d'.size:=by rw[h4.sz];exact hi
 have V6:j<d'.size:=by rw[h4.sz];exact hj
 rw[getElem!_pos d' i P8,getElem!_pos d' j V6,Md] at h7;rw[Array.getElem_toList,Array.getElem_toList];exact h7
theorem VC {nm:List UInt8} {us:List Pr} {s:List UInt8} (h:(hU nm us s).2=0):1≤(hU nm us s).1∧(hU nm us s).1≤1099511627776:=by
 unfold hU at h ⊢;by_cases w_:bN nm us≠0
 ·rw[zB0 w_] at h;exact absurd h w_
 rw[zB1 w_] at h ⊢;have key:∀ (l:List (Pr×Int)),(∀ y∈l,1≤y.2∧y.2≤1099511627776)→(CB l s).2=0→1≤(CB l s).1∧(CB l s).1≤1099511627776:=fun l=>by
  induction l with
  | nil=>intro _ h;cases h
  | cons y l ih=>
   intro hy h;rw[CB] at h ⊢;by_cases e:y.1.1=s
   ·rw[zB0 e];exact hy y (List.mem_cons_self ..)
   rw[zB1 e] at h ⊢;exact ih (fun z hz=>hy z (List.mem_cons_of_mem _ hz)) h
 refine key _ (fun y hy=>⟨TV 1 us (Int.le_refl _) y hy,?_⟩) h;have top:∀ (v:Int) (us:List Pr),∀ y∈yv v us,y.2≤1099511627776:=fun v us=>by
  induction us generalizing v with
  | nil=>intro y hy;cases hy
  | cons u us ih=>
   intro y hy;rw[Wg] at hy;by_cases hb:u.2<1∨60<u.2∨1099511627776<v*u.2
   ·rw[zB0 hb] at hy;cases hy
   rw[zB1 hb] at hy;rcases List.mem_cons.1 hy with rfl|hy
   ·show v*u.2≤_;omega
   exact ih _ y hy
 exact top 1 us y hy
theorem Cj (nm:List UInt8) (us:List Pr):∀ (l:List Gp) (b:Bool) (s t:Int),(∀ g∈l,1≤g.1∧g.1≤99)→0≤s→s+l.length*108851651149824≤4611686018427387904→(ee nm us b s t l).2.2=0 →
  s≤(ee nm us b s t l).1∧(l≠[]→1≤(ee nm us b s t l).2.1∧(ee nm us b s t l).2.1≤(ee nm us b s t l).1)
 | [],b,s,t,_,_,_,_=>⟨Int.le_refl _,fun h=>absurd rfl h⟩
 | x::l,b,s,t,hg,h0,hs,h=>by
  rw[OL] at h ⊢;by_cases h1:(hU nm us x.2.1).2≠0
  ·rw[zB0 h1] at h;exact absurd h h1
  rw[zB1 h1] at h ⊢;by_cases h2:b=true∧t≤(hU nm us x.2.1).1
  ·rw[zB0 h2] at h;cases h
  rw[zB1 h2] at h ⊢;obtain ⟨v1,v2⟩:=VC (Classical.byContradiction h1);obtain ⟨c1,c2⟩:=hg x (List.mem_cons_self ..);generalize (hU nm us x.2.1).1=v at h v1 v2 ⊢;have m1:1*v≤x.1*v:=Int.mul_le_mul_of_nonneg_right c1 (by omega);have m2:x.1*v≤99*v:=Int.mul_le_mul_of_nonneg_right c2 (by omega);have hl:((x::l).length:Int)=(l.length:Int)+1:=by rw[List.length_cons];omega
  rw[hl] at hs;have U7:(0:Int)≤(l.length:Int):=by omega
  have w1:IntKind.i64.wrap (x.1*v)=x.1*v:=au (by omega) (by omega);have w2:IntKind.i64.wrap (s+x.1*v)=s+x.1*v:=au (by omega) (by omega);rw[w1,w2] at h ⊢;obtain ⟨a1,a2⟩:=Cj nm us l true (s+x.1*v) v (fun g M1=>hg g (List.mem_cons_of_mem _ M1)) (by omega) (by omega) h;refine ⟨by omega,fun _=>?_⟩;by_cases hn:l=[]
  ·subst hn;show 1≤v∧v≤s+x.1*v;omega
  exact a2 hn
theorem nY (less:Bool):∀ (l acc:List Gp),eP less acc l=0→∀ x∈l,(1≤x.1∧x.1≤99)∨(tU x=true∧less=false)
 | [],_,_=>fun _ h=>absurd h List.not_mem_nil
 | y::l,acc,h=>fun x hx=>by
  rw[eP] at h;by_cases hg:tU y=true
  ·rw[zB0 hg] at h;by_cases hl:less=true
   ·rw[zB0 hl] at h;cases h
   rw[zB1 hl] at h;by_cases hp:Vd acc=true
   ·rw[zB0 hp] at h;cases h
   rw[zB1 hp] at h;rcases List.mem_cons.1 hx with rfl|hx
   ·exact .inr ⟨hg,by simpa using hl⟩
   exact nY less l _ h x hx
  rw[zB1 hg] at h;by_cases h1:nmB y.2.1=false
  ·rw[zB0 h1] at h;cases h
  rw[zB1 h1] at h;by_cases h2:y.1<1∨(99:Int)<y.1
  ·rw[zB0 h2] at h;cases h
  rw[zB1 h2] at h;by_cases h3:Sb acc y.2.1=true
  ·rw[zB0 h3] at h;cases h
  rw[zB1 h3] at h;by_cases h4:(less&&y.2.2)=true
  ·rw[zB0 h4] at h;cases h
  rw[zB1 h4] at h;rcases List.mem_cons.1 hx with rfl|hx
  ·exact .inl (by omega)
  exact nY less l _ h x hx
theorem Dw {x:Nm} (h:fl x=0):x.1.length≤24∧x.2.length≤24∧x.1≠[]∧eP false [] x.1=0∧eP true [] x.2=0:=by
 obtain ⟨l1,l2⟩:=Ac h;unfold fl at h;rw[zB1 (by omega)] at h;by_cases h1:x.1.length=0
 ·rw[zB0 h1] at h;cases h
 rw[zB1 h1] at h;by_cases h2:eP false [] x.1≠0
 ·rw[zB0 h2] at h;exact absurd h h2
 rw[zB1 h2] at h;by_cases h3:eP true [] x.2≠0
 ·rw[zB0 h3] at h;exact absurd h h3
 exact ⟨l1,l2,fun e=>h1 (by rw[e];rfl),Classical.byContradiction h2,Classical.byContradiction h3⟩
theorem Tn {nm:List UInt8} {us:List Pr} {x:Nm} (h:(iz nm us x).2=0):1≤(iz nm us x).1∧(iz nm us x).1≤1099511627776:=by
 unfold iz at h ⊢;by_cases h1:bN nm us≠0
 ·rw[zB0 h1] at h;exact absurd h h1
 rw[zB1 h1] at h ⊢;by_cases h2:fl x≠0
 ·rw[zB0 h2] at h;exact absurd h h2
 rw[zB1 h2] at h ⊢;by_cases h3:tT x.1=true
 ·rw[zB0 h3] at h;cases h
 rw[zB1 h3] at h ⊢;by_cases h4:(ee nm us false 0 0 x.1).2.2≠0
 ·rw[zB0 h4] at h;exact absurd h h4
 rw[zB1 h4] at h ⊢;by_cases h5:(1099511627776:Int)<(ee nm us false 0 0 x.1).1
 ·rw[zB0 h5] at h;cases h
 rw[zB1 h5] at h ⊢;by_cases h6:(ee nm us false 0 0 x.2).2.2≠0
 ·rw[zB0 h6] at h;exact absurd h h6
 rw[zB1 h6] at h ⊢;by_cases h7:(ee nm us false 0 0 x.1).2.1≤(ee nm us false 0 0 x.2).1
 ·rw[zB0 h7] at h;cases h
 rw[zB1 h7];obtain ⟨l1,l2,n1,g1,g2⟩:=Dw (Classical.byContradiction h2);have c1:∀ g∈x.1,1≤g.1∧g.1≤99:=fun g hg=>by
  rcases nY false x.1 [] g1 g hg with h|⟨h,_⟩
  ·exact h
  exact absurd (List.any_eq_true.2 ⟨g,hg,by rw[h];rfl⟩) h3
 have c2:∀ g∈x.2,1≤g.1∧g.1≤99:=fun g hg=>by
  rcases nY true x.2 [] g2 g hg with h|⟨_,h⟩
  ·exact h
  cases h
 obtain ⟨a1,a2⟩:=Cj nm us x.1 false 0 0 c1 (Int.le_refl _) (by omega) (Classical.byContradiction h4);obtain ⟨b1,_⟩:=Cj nm us x.2 false 0 0 c2 (Int.le_refl _) (by omega) (Classical.byContradiction h6);obtain ⟨a3,a4⟩:=a2 n1;show 1≤IntKind.i64.wrap _∧IntKind.i64.wrap _≤_;rw[au (by omega) (by omega)];omega
theorem wz {o:Option (List Lad)} {x:Cl} (h:(cX o x).2=0):1≤(cX o x).1∧(cX o x).1≤1099511627776:=by
 unfold cX at h ⊢;by_cases h1:kf o x.2.2.1≠0
 ·rw[zB0 h1] at h;exact absurd h h1
 rw[zB1 h1] at h ⊢;exact Tn h
def kZ:List Lot→List UInt8→Int→List Lot
 | [],s,n=>[(s,n)]
 | p::l,s,n=>if p.1=s then (p.1,p.2+n)::l else p::kZ l s n
theorem Fk (s:List UInt8) (n:Int) (t:List UInt8):∀ l:List Lot,amt (kZ l s n) t=amt l t+(if s=t then n else 0)
 | []=>by
  show (if s=t then n else 0)=0+_;omega
 | p::l=>by
  rw[kZ];by_cases h:p.1=s
  ·rw[zB0 h];show (if p.1=t then p.2+n else amt l t)=(if p.1=t then p.2 else amt l t)+_;rw[h];by_cases ht:s=t
   ·rw[zB0 ht,zB0 ht,zB0 ht]
   rw[zB1 ht,zB1 ht,zB1 ht];omega
  rw[zB1 h];show (if p.1=t then p.2 else amt (kZ l s n) t)=(if p.1=t then p.2 else amt l t)+_;rw[Fk s n t l];by_cases ht:p.1=t
  ·rw[zB0 ht,zB0 ht,zB1 (fun e=>h (ht.trans e.symm))];omega
  rw[zB1 ht,zB1 ht]
theorem vH (s:List UInt8) (n:Int):∀ (l:List Lot) (p:Lot),p∈kZ l s n→p∈l∨p=(s,amt l s+n)
 | [],p,h=>by rw[List.mem_singleton.1 h];right;show (s,n)=(s,0+n);rw[Int.zero_add]
 | q::l,p,h=>by
  rw[kZ] at h;by_cases hq:q.1=s
  ·rw[zB0 hq] at h;rcases List.mem_cons.1 h with rfl|h
   ·right;show (q.1,q.2+n)=(s,(if q.1=s then q.2 else amt l s)+n);rw[zB0 hq,hq]
   exact .inl (List.mem_cons_of_mem _ h)
  rw[zB1 hq] at h;rcases List.mem_cons.1 h with rfl|h
  ·exact .inl (List.mem_cons_self ..)
  rcases vH s n l p h with h|h
  ·exact .inl (List.mem_cons_of_mem _ h)
  right;rw[h];show (s,amt l s+n)=(s,(if q.1=s then q.2 else amt l s)+n);rw[zB1 hq]
theorem Ft (s:List UInt8) (n:Int):∀ (l:List Lot) (p:Lot),p∈kZ l s n→p.1=s∨∃ q∈l,q.1=p.1:=fun l p h=>by
 rcases vH s n l p h with h|h
 ·exact .inr ⟨p,h,rfl⟩
 exact .inl (by rw[h])
theorem LO (s:List UInt8) (n:Int):∀ (l:List Lot),List.Pairwise (fun x y:Lot=>x.1≠y.1) l→List.Pairwise (fun x y:Lot=>x.1≠y.1) (kZ l s n)
 | [],_=>List.pairwise_singleton _ _
 | q::l,h=>by
  obtain ⟨h1,h2⟩:=List.pairwise_cons.1 h;rw[kZ];by_cases hq:q.1=s
  ·rw[zB0 hq];exact List.pairwise_cons.2 ⟨fun y hy=>h1 y hy,h2⟩
  rw[zB1 hq];refine List.pairwise_cons.2 ⟨fun y hy=>?_,LO s n l h2⟩;rcases Ft s n l y hy with h|⟨z,hz,e⟩
  ·rw[h];exact hq
  rw[←e];exact h1 z hz
theorem HA (s:List UInt8) (n:Int):∀ (l:List Lot),(kZ l s n).length≤l.length+1
 | []=>zA1 _
 | q::l=>by
  rw[kZ];split
  ·rw[List.length_cons,List.length_cons];omega
  have:=HA s n l;rw[List.length_cons,List.length_cons];omega
def gj (o:Option (List Lad)):List Cl→List Lot→List Lot×Int
 | [],acc=>(acc,0)
 | x::l,acc=>if (cX o x).2≠0 then ([],(cX o x).2) else gj o l (kZ acc x.2.1 (cX o x).1)
def kN (o:Option (List Lad)):List Cl→List UInt8→Int
 | [],_=>0
 | x::l,s=>(if x.2.1=s then (cX o x).1 else 0)+kN o l s
theorem rq (o:Option (List Lad)) (s:List UInt8):∀ (l:List Cl) (acc:List Lot),(gj o l acc).2=0→amt (gj o l acc).1 s=amt acc s+kN o l s
 | [],acc,_=>by show amt acc s=amt acc s+0;omega
 | x::l,acc,h=>by
  rw[gj] at h ⊢;by_cases he:(cX o x).2≠0
  ·rw[zB0 he] at h;exact absurd h he
  rw[zB1 he] at h ⊢;rw[rq o s l _ h,Fk,kN];omega
structure jE (l:List Lot) (j:Nat):Prop where
 pw:List.Pairwise (fun x y:Lot=>x.1≠y.1) l
 bd:∀ p∈l,1≤p.2∧p.2≤j*1099511627776
 len:l.length≤j
theorem jE.nil:jE [] 0:=⟨List.Pairwise.nil,fun _ h=>absurd h List.not_mem_nil,zA1 _⟩
theorem TL {l:List Lot} {j:Nat} (h:∀ p∈l,1≤p.2∧p.2≤j*1099511627776) (s:List UInt8):0≤amt l s∧amt l s≤j*1099511627776:=by
 induction l with
 | nil=>exact ⟨Int.le_refl _,by show (0:Int)≤_;omega⟩
 | cons p l ih=>
  rw[amt];split
  ·have:=h p (List.mem_cons_self ..);omega
  exact ih fun q hq=>h q (List.mem_cons_of_mem _ hq)
theorem jE.add {l:List Lot} {j:Nat} (h:jE l j) (s:List UInt8) {n:Int} (h1:1≤n) (h2:n≤1099511627776):jE (kZ l s n) (j+1):=by
 refine ⟨LO s n l h.pw,fun p hp=>?_,by have:=HA s n l;have:=h.len;omega⟩;rcases vH s n l p hp with hp|rfl
 ·have:=h.bd p hp;omega
 have:=TL h.bd s;show 1≤amt l s+n∧amt l s+n≤_;omega
theorem CD (o:Option (List Lad)):∀ (l:List Cl) (acc:List Lot) (j:Nat),jE acc j→(gj o l acc).2=0→jE (gj o l acc).1 (j+l.length)
 | [],acc,j,h,_=>h
 | x::l,acc,j,h,he=>by
  rw[gj] at he ⊢;by_cases h1:(cX o x).2≠0
  ·rw[zB0 h1] at he;exact absurd he h1
  rw[zB1 h1] at he ⊢;obtain ⟨b1,b2⟩:=wz (Classical.byContradiction h1);have:=CD o l _ (j+1) (h.add x.2.1 b1 b2) he;rw[List.length_cons];have e:j+1+l.length=j+(l.length+1):=by omega
  rwa [e] at this
def kz (l:List Lot):Bool:=l.any fun p=>decide (1099511627776<p.2)
def eR (K:List (Cl×Int)):List Cl:=(K.filter fun x=>decide (x.2=1)).map Prod.fst
def fU (o:Option (List Lad)) (gs:List Gd) (t:Tb):List Lot×Int:=
 if jl o gs t≠0 then ([],jl o gs t) else if (gj o (eR (ig o gs t)) []).2≠0 then ([],(gj o (eR (ig o gs t)) []).2) else
 if kz (gj o (eR (ig o gs t)) []).1=true then ([],6) else ((gj o (eR (ig o gs t)) []).1,0)
def tW (e:List Lot×Int) (out:List Lot):Prop:=(e.2≠0→out=[])∧(e.2=0→mv out∧∀ s,amt out s=amt e.1 s)∧out.length≤1000000
theorem tW.one {e:List Lot×Int} {a b:List Lot} (ha:tW e a) (hb:tW e b):a=b:=by
 by_cases h:e.2=0
 ·obtain ⟨a1,a2⟩:=ha.2.1 h;obtain ⟨b1,b2⟩:=hb.2.1 h;exact qk a1 b1 fun s=>(a2 s).trans (b2 s).symm
 rw[ha.1 h,hb.1 h]
theorem pQ {l:List Lot} (h:List.Pairwise (fun x y:Lot=>x.1≠y.1) l) {p:Lot} (hp:p∈l):amt l p.1=p.2:=by
 induction l with
 | nil=>cases hp
 | cons q l ih=>
  obtain ⟨h1,h2⟩:=List.pairwise_cons.1 h;rcases List.mem_cons.1 hp with rfl|hp
  ·exact zB0 rfl
  rw[amt,zB1 (h1 p hp)];exact ih h2 hp
theorem Bg {l:List Lot} {s:List UInt8} (h:∀ p∈l,p.1≠s):amt l s=0:=by
 induction l with
 | nil=>rfl
 | cons q l ih=>
  rw[amt,zB1 (h q (List.mem_cons_self ..))];exact ih fun p hp=>h p (List.mem_cons_of_mem _ hp)
theorem Qn {l k:List Lot} (hp:k.Perm l) (h:List.Pairwise (fun x y:Lot=>x.1≠y.1) l) (s:List UInt8):amt k s=amt l s:=by
 have hk:List.Pairwise (fun x y:Lot=>x.1≠y.1) k:=(hp.pairwise_iff fun {x y} h=>fun e=>h e.symm).2 h;by_cases hm:∃ p∈l,p.1=s
 ·obtain ⟨p,U5,rfl⟩:=hm;rw[pQ h U5,pQ hk (hp.mem_iff.2 U5)]
 rw[Bg fun p T6 e=>hm ⟨p,T6,e⟩,Bg fun p hpk e=>hm ⟨p,hp.mem_iff.1 hpk,e⟩]
theorem Gz:al Tryz.prog 38=true:=by kernel_rfl
theorem lB:al Tryz.prog 12=true:=by kernel_rfl
theorem SlL.nil {H:Hp}:SlL H (.o .nilS) []:=⟨by simp,.inl ⟨rfl,rfl⟩⟩
abbrev kvS:List UInt8→AV:=fun s=>.one (.o (.str s))
theorem WG:Sf Tryz.prog 9 kvS:=Vf vV
def jv (l:List Lot):List (List UInt8×AC):=l.map fun p=>(p.1,.i .i64 p.2)
theorem EL (l:List Lot):(jv l).length=l.length:=List.length_map ..
theorem Qo (H:Hp) (s:List UInt8):∀ l:List Lot,(match atG (jv l) s with|some v=>bC H false (.one v) true|none=>bC H false (.one (.i .i64 0)) false)=.val (.one (.i .i64 (amt l s))) H
 | []=>rfl
 | p::l=>by
  have ih:=Qo H s l;have e:atG (jv (p::l)) s=if p.1=s then some (.i .i64 p.2) else atG (jv l) s:=rfl;rw[e,amt];by_cases h:p.1=s
  ·rw[zB0 h,zB0 h];rfl
  rw[zB1 h,zB1 h];exact ih
theorem Kl (s:List UInt8) (n:Int):∀ l:List Lot,hG (jv l) s (.i .i64 (amt l s+n))=jv (kZ l s n)
 | []=>by show [(s,AC.i .i64 (0+n))]=[(s,AC.i .i64 n)];rw[Int.zero_add]
 | p::l=>by
  have ih:=Kl s n l;have e:hG (jv (p::l)) s (.i .i64 (amt (p::l) s+n))=if p.1=s then (s,.i .i64 (amt (p::l) s+n))::jv l else (p.1,.i .i64 p.2)::hG (jv l) s (.i .i64 (amt (p::l) s+n)):=rfl;rw[e,kZ,amt];by_cases h:p.1=s
  ·rw[zB0 h,zB0 h,zB0 h,←h];rfl
  rw[zB1 h,zB1 h,zB1 h,ih];rfl
def cellAt (lc:List Cl) (i:Int):Cl:=(lc[i.toNat]?).getD (0,[],[],[],[])
theorem Nn (lc:List Cl):∀ (k:Nat) (l:List (Cl×Int)),lc.drop k=l.map Prod.fst→(bt k l).map (cellAt lc)=eR l
 | _,[],_=>rfl
 | k,x::l,h=>by
  have h0:lc[k]?=some x.1:=by
   have:(lc.drop k)[0]?=some x.1:=by rw[h];rfl
   rw[List.getElem?_drop] at this;exact this
  have h1:lc.drop (k+1)=l.map Prod.fst:=by rw[←List.drop_drop,h];rfl
  have ih:=Nn lc (k+1) l h1;have hc:cellAt lc ((k:Nat):Int)=x.1:=by unfold cellAt;rw[Int.toNat_natCast,h0];rfl
  have e:eR (x::l)=if x.2=1 then x.1::eR l else eR l:=by
   unfold eR;rw[List.filter_cons];by_cases hx:x.2=1
   ·rw[zB0 (decide_eq_true hx),zB0 hx];rfl
   rw[zB1 (by simpa using hx),zB1 hx]
  rw[e,bt];by_cases hx:x.2=1
  ·rw[zB0 hx,zB0 hx,List.map_cons,hc,ih]
  rw[zB1 hx,zB1 hx,ih]
def uM:List Lot→Lot→List Lot
 | [],x=>[x]
 | y::l,x=>if aW y.1 x.1=true then y::uM l x else x::y::l
theorem wH (x:Lot):∀ (l:List Lot) (z:Lot),z∈uM l x↔z=x∨z∈l
 | [],z=>by simp[uM]
 | y::l,z=>by
  rw[uM];split
  ·rw[List.mem_cons,wH x l z,List.mem_cons];exact ⟨fun h=>h.elim (fun h=>.inr (.inl h)) fun h=>h.elim .inl fun h=>.inr (.inr h),fun h=>h.elim (fun h=>.inr (.inl h)) fun h=>h.elim .inl fun h=>.inr (.inr h)⟩
  rw[List.mem_cons]
theorem Fo (x:Lot) (hx:x.2≠0):∀ (l:List Lot),mv l→(∀ y∈l,y.1≠x.1)→mv (uM l x)
 | [],_,_=>⟨fun _ h=>absurd h List.not_mem_nil,hx,trivial⟩
 | y::l,h,hn=>by
  rw[uM];split
  ·rename_i hl
   refine ⟨fun z hz=>?_,h.2.1,Fo x hx l h.2.2 fun z hz=>hn z (List.mem_cons_of_mem _ hz)⟩;rcases (wH x l z).1 hz with rfl|hz
   ·exact hl
   exact h.1 z hz
  rename_i hl
  have Z6:aW x.1 y.1=true:=by
   cases hh:aW x.1 y.1 with
   | true=>rfl
   | false=>exact absurd (iQ (by simpa using hl) hh) (hn y (List.mem_cons_self ..))
  refine ⟨fun z hz=>?_,hx,h⟩;rcases List.mem_cons.1 hz with rfl|hz
  ·exact Z6
  exact fu Z6 (h.1 z hz)
theorem Ge (x:Lot) (s:List UInt8):∀ (l:List Lot),mv l→(∀ y∈l,y.1≠x.1)→amt (uM l x) s=if x.1=s then x.2 else amt l s
 | [],_,_=>rfl
 | y::l,h,hn=>by
  rw[uM];split
  ·rw[amt,Ge x s l h.2.2 fun z hz=>hn z (List.mem_cons_of_mem _ hz),amt];by_cases h1:y.1=s
   ·rw[zB0 h1,zB0 h1,zB1 (fun e=>hn y (List.mem_cons_self ..) (h1.trans e.symm))]
   rw[zB1 h1,zB1 h1]
  rw[amt]
theorem EY (x:Lot):∀ (l:List Lot),(uM l x).length=l.length+1
 | []=>rfl
 | y::l=>by
  rw[uM];split
  ·rw[List.length_cons,EY x l,List.length_cons]
  rfl
theorem Is:∀ (l:List Lot),List.Pairwise (fun x y:Lot=>x.1≠y.1) l→(∀ x∈l,x.2≠0)→∃ out,mv out∧(∀ x,x∈out↔x∈l)∧(∀ s,amt out s=amt l s)∧out.length=l.length
 | [],_,_=>⟨[],trivial,fun _=>Iff.rfl,fun _=>rfl,rfl⟩
 | x::l,h,h0=>by
  obtain ⟨h1,h2⟩:=List.pairwise_cons.1 h;obtain ⟨out,a,b,c,d⟩:=Is l h2 fun y hy=>h0 y (List.mem_cons_of_mem _ hy);have hn:∀ y∈out,y.1≠x.1:=fun y hy e=>h1 y ((b y).1 hy) e.symm;refine ⟨uM out x,Fo x (h0 x (List.mem_cons_self ..)) out a hn,fun z=>?_,fun s=>?_,by rw[EY,d,List.length_cons]⟩
  ·rw[wH,b,List.mem_cons]
  rw[Ge x s out a hn,c,amt]
theorem jC (H:Hp) (k gv v:AC) (o:Option (List Lad)) (gs:List Gd) (nm:List UInt8) (cs:List Cs) (hk:cQ H k o) (N3:∀ ls,o=some ls→∀ x∈ls,x.2.length≤1000000) (hg:SlG H gv gs) (hv:dg H v cs) (hB:TbB cs) (hO:∀ x∈gs,x.2.2.length≤4611686018427387904):
  Con E2 12 [.one k,.one gv,.agg [.o (.str nm),v]] H (fun _=>False) fun r H'=>∃ c out,r=.tup [(false,[c]),(false,[.i .i64 (fU o gs (nm,cs)).2])]∧SlL H' c out∧tW (fU o gs (nm,cs)) out:=by
 refine Con.of rfl fun lg=>?_;have hk:cQ ⟨H.t,H.nx,lg⟩ k o:=cQ.same (H:=H) rfl rfl hk;have hg:SlG ⟨H.t,H.nx,lg⟩ gv gs:=hg;have hv:dg ⟨H.t,H.nx,lg⟩ v cs:=hv;generalize (⟨H.t,H.nx,lg⟩:Hp)=H at hk hg hv ⊢;refine SJ.body (E:=E2) (nt:=79) (res:=[.tmp 6,.tmp 7]) Tryz.func12 rfl rfl rfl rfl rfl fun tm A0=>?_;have h0:=A0 0 _ rfl;have h1:=A0 1 _ rfl;have h2:=A0 2 _ rfl;clear A0;generalize T2:fU o gs (nm,cs)=e0;have fin:∀ (c:AC) (out:List Lot) (er:Int) (A:ab) (H9:Hp),slot A.tm 6=.one c→slot A.tm 7=.one (.i .i64 er)→A.dfr=[]→Gr H H9→er=e0.2→SlL H9 c out→tW e0 out →
   ∃ w H4,aC E2 [.tmp 6,.tmp 7] (.ret,A,H9)=.ok [(w,H4)]∧Gr H H4∧∀ lg:List Nat,∃ c out,w=.tup [(false,[c]),(false,[.i .i64 e0.2])]∧SlL ⟨H4.t,H4.nx,lg⟩ c out∧tW e0 out:=fun c out er A H9 h6 h7 hd T0 hr hs he=>
  ⟨_,H9,aM c (.i .i64 er) (.inr rfl) hd h6 h7,T0,fun lg=>⟨c,out,by rw[hr],hs,he⟩⟩
 have lv:=hv.lt;replace fin:Hd _:=fin;replace T2:Hd _:=T2;refine SJ.rG fun K1 S5=>?_;refine zW tyF ?_;refine S5.out _ _ ?_;refine SJ.gen (fun A1 H1=>Gr H H1∧H.nx<H1.nx∧H1.get H.nx=some (.arr [.o (.str nm),v] 26 0 0)∧slot A1.tm 0=.one (k)∧slot A1.tm 1=.one (gv)∧slot A1.tm 5=.one ((.o (.ptr H.nx 0 0 2)))∧slot A1.tm 6=.one ((.o .nilS))∧slot A1.tm 7=.one (.i .i64 (0:Int))∧A1.nt=79∧A1.dfr=[])
  ⟨(Fr.refl _).new _,zA6 _,aG rfl,zL⟩ ?_
 clear h0 h1 h2 tm lv S5 K1;rintro A1 H1 ⟨g1,n1,r0,t0,t1,t5,t6,t7,B0,C0⟩;obtain ⟨N,hN⟩:∃ N,N=H.nx:=⟨_,rfl⟩;rw[←hN] at n1 r0 t5;have hNl:H.nx≤N:=Nat.le_of_eq hN.symm;clear hN;have E4:=hk.gr g1;have C5:=hg.gr g1;have D2:=hv.gr g1;clear hg hv hk;refine SJ.rG fun K1 S5=>?_;refine zG (qA tyF Px) fun K hK=>?_;refine WE.con (OB H1 k gv v o gs nm cs E4 N3 C5 D2 hB hO) fun w2 H2 g2 ⟨a,b,ev,P2,R5⟩=>?_;subst P2;have W4:=E4.gr g2;have g2:=g1.gr g2;have hca:=R5.c;have hea:=R5.e;have la:=hca.lt;have lb:=R5.r.lt;have le:=hea.lt;clear R5 E4 C5 D2;refine zE tyF ?_;refine S5.out _ _ ?_;refine SJ.gen (fun A3 H3=>Gr H H3∧Gr H2 H3∧H2.nx<H3.nx∧H3.get H2.nx=some (.arr [a,b] 37 0 0)∧slot A3.tm 0=.one (k)∧slot A3.tm 6=.one ((.o .nilS))∧slot A3.tm 7=.one (.i .i64 (0:Int))∧slot A3.tm 8=.one ((.o (.ptr H2.nx 0 0 2)))∧slot A3.tm 9=.one (ev)∧slot A3.tm 10=.one ((.i .i64 (jl o gs (nm,cs))))∧A3.nt=79∧A3.dfr=[])
  ⟨(g2.new _).mod _ (.inl g2.nx),((Fr.refl _).new _).mod _ (.inl (zA1 _)),zA6 _,aj rfl,zL⟩ ?_
 clear t0 t1 t5 t6 t7 B0 C0 A1 la lb le hK K S5 K1;rintro A3 H3 ⟨g3,g23,n3,rP,t0,t6,t7,t8,t9,t10,B0,C0⟩;obtain ⟨P,hP⟩:∃ P,P=H2.nx:=⟨_,rfl⟩;rw[←hP] at n3 rP t8;clear hP;have hk3:=W4.gr g23;have N_:=hca.gr g23;have S8:=hea.gr g23;clear W4 hca hea g2 g23;by_cases D7:jl o gs (nm,cs)=0
 case neg=>
  have hr:=T2.out;unfold fU at hr;rw[zB0 D7] at hr;have e1:jl o gs (nm,cs)=e0.2:=by rw[←hr]
  have e2:tW e0 []:=by rw[←hr];exact ⟨fun _=>rfl,fun h=>absurd h D7,Nat.zero_le _⟩
  have B6:(jl o gs (nm,cs)==0)=false:=zB5 D7;generalize jl o gs (nm,cs)=eb at t10 e1 B6;clear hr D7;replace e1:Hd _:=e1;refine SJ.Yx ?_;refine zW tyF ?_;exact fin.out (.o .nilS) [] eb _ _ qp qp qe g3 e1.out SlL.nil e2
 have B6:((0:Int)==0)=true:=rfl;rw[D7] at t10;have hKl:=(Ob D7).2;have R0:(Nw o gs (nm,cs)).1=(ig o gs (nm,cs)).map Prod.fst:=rfl;rw[R0] at N_;have hr:=T2.out;unfold fU at hr;rw[zB1 (fun h=>h D7)] at hr;have K_:=Nn ((ig o gs (nm,cs)).map Prod.fst) 0 (ig o gs (nm,cs)) rfl;rw[←K_] at hr;have E':=sQ 0 (ig o gs (nm,cs));have k8:=sZ 0 (ig o gs (nm,cs));clear K_ R0 D7 T2 hg;generalize ig o gs (nm,cs)=kl at N_ S8 hKl hr E' k8;generalize hE:bt 0 kl=E at S8 hr E' k8;replace E':∀ i∈E,∃ (m:Nat) (x:Cl),i=(m:Int)∧(kl.map Prod.fst)[m]?=some x:=fun i hi=>by
  obtain ⟨m,x,e1,e2⟩:=E' i hi;exact ⟨m,x.1,by rw[e1,Nat.zero_add],by rw[List.getElem?_map,e2];rfl⟩
 have hlcl:(kl.map Prod.fst).length≤64:=by rw[List.length_map];exact hKl
 generalize kl.map Prod.fst=lc at N_ hr E' hlcl;replace k8:E.length≤64:=zA2 k8 hKl;clear hE hKl kl;generalize htot:gj o (E.map (cellAt lc)) []=tot at hr;refine SJ.rG fun K1 S5=>?_;refine zW tyF ?_;refine S5.out _ _ ?_;clear S5 K1;refine SJ.rG fun K1 S5=>?_;refine zW tyF ?_;refine S5.out _ _ ?_;refine SJ.gen (fun A4 H4=>Gr H H4∧Gr H3 H4∧H3.nx<H4.nx∧H4.get H3.nx=some (hS kvS (jv []))∧slot A4.tm 0=.one (k)∧slot A4.tm 6=.one ((.o .nilS))∧slot A4.tm 7=.one (.i .i64 (0:Int))∧slot A4.tm 8=.one ((.o (.ptr P 0 0 2)))∧slot A4.tm 9=.one (ev)∧slot A4.tm 11=.one ((.o (.mp H3.nx)))∧A4.nt=79∧A4.dfr=[])
  ⟨g3.new _,(Fr.refl _).new _,zA6 _,aG rfl,zL⟩ ?_
 clear t0 t6 t7 t8 t9 t10 B0 C0 A3 S5 K1 B6;rintro A4 H4 ⟨g4,g34,n4,rM,t0,t6,t7,t8,t9,t11,B0,C0⟩;have g3H:=g3.nx;have hH3:H.nx≤H3.nx:=g3H;have he4:=S8.gr g34;have l4:=he4.lt;have ln4:=he4.len;refine SJ.rG fun K1 S5=>?_;refine zW tyF ?_;refine R1.dM fun K k1 k2 k3 k4=>?_;refine R1.loop (fun z A H5=>∃ (j:Nat) (acc:List Lot),z=E.length - j∧j≤E.length∧Hd (gj o ((E.drop j).map (cellAt lc)) acc=tot)∧jE acc j∧Gr H H5∧Gr H3 H5∧H3.nx<H5.nx∧H5.get H3.nx=some (hS kvS (jv acc))∧slot A.tm 0=.one (k)∧slot A.tm 8=.one ((.o (.ptr P 0 0 2)))∧slot A.tm 11=.one ((.o (.mp H3.nx)))∧slot A.tm 31=.one (ev)∧slot A.tm 32=.one (.i .i64 (E.length:Int))∧slot A.tm 33=.one (.i .i64 (j:Int))∧A.nt=79∧A.dfr=[]) ?_ E.length ⟨0,[],rfl,Nat.zero_le _,htot,jE.nil,g4,g34,n4,rM,zL⟩;clear t0 t6 t7 t8 t9 t11 B0 C0 A4 rM g4 g34 n4 H4 k3 he4 l4 ln4 htot;rintro z A H5 ⟨j,acc,rfl,hj,hac,p9,g5,g35,n5,rM,t0,t8,t11,t31,t32,t33,B0,C0⟩;have he5:=S8.gr g35;have hlE:E.length≤64:=k8;refine zW tyF ?_;refine zI tyF (fun hc=>?_) (fun hc=>?_)
 ·have b8:j<E.length:=by omega
  obtain ⟨m,x,hm1,hm2⟩:=E' E[j] (List.getElem_mem b8);have ei:E[j]?=some ((m:Nat):Int):=by rw[zB4 b8,hm1]
  have Z0:E.drop j=((m:Nat):Int)::E.drop (j+1):=by rw[List.drop_eq_getElem_cons b8,hm1]
  have hlm:m<lc.length:=(List.getElem?_eq_some_iff.1 hm2).1;have hcx:cellAt lc ((m:Nat):Int)=x:=by unfold cellAt;rw[Int.toNat_natCast,hm2];rfl
  have G7:=hac.out;rw[Z0,List.map_cons,hcx,gj] at G7;replace G7:Hd _:=G7;clear hac hcx Z0 hm1;have hc5:=N_.gr g35;have hk5:=hk3.gr g35;have rP5:=(g35.get _ n3 zB2).trans rP;have n35:=zA0 n3 g35.nx;obtain ⟨ide,ge,offe,cellse,rfl,hide,hgre,hate⟩:=he5.open (by omega);obtain ⟨y1,y2⟩:=hate j _ ei;obtain ⟨idc,gc,offc,cellsc,rfl,hidc,hgrc,hatc⟩:=hc5.open (by omega);obtain ⟨p,q,hx⟩:=hatc m x hm2;have z1:=hx.all;have z2:=hx.le;have z3:=hx.f2;have z4:=hx.le2;have hp:=hx.of1;have hq:=hx.of2;clear hate hatc hx ei;have J1:=zC0 j (by omega);refine zW tyF ?_;refine R1.dS fun K2 q1 q2 q3 q4=>?_;refine zW (qA tyF (ixC b8)) ?_;refine zG (qA tyF (qA (ixC hlm) We)) fun K3 Y4=>?_;refine WE.con (Tq H5 k p q o x hk5 N3 hp hq) fun w6 H6 g6 hq6=>?_;have X6:=@wz o x;obtain ⟨rd,hrd⟩:∃ r,r=cX o x:=⟨_,rfl⟩;rw[←hrd] at hq6 X6;have F7:=G7.out;rw[←hrd] at F7;clear G7 hrd;obtain ⟨rv,re⟩:=rd;subst hq6;have g56:=g5.gr g6;have g36:=g35.gr g6;have hidc6:=zA0 hidc g6.nx;have hgrc6:rowOf (H6.get idc) gc=some cellsc:=by rw[g6.get _ hidc zB2];exact hgrc
  have rM:=(g6.get _ n5 zB2).trans rM;have n5:=zA0 n5 g6.nx;have rP5:=(g6.get _ n35 zB2).trans rP5;have n35:=zA0 n35 g6.nx;clear hgrc hidc hgre hide y1 y2 z1 z2 hp hq hk5 hc5 he5 g6 g5 g35;by_cases S4:re=0
  case neg=>
   have e1:gj o (E.map (cellAt lc)) []=([],re)→True:=fun _=>trivial;rw[zB0 S4] at F7;rw[←F7] at hr;have Y0:(([],re):List Lot×Int).2≠0:=S4;rw[zB0 Y0] at hr;have e1:re=e0.2:=by rw[←hr]
   have e2:tW e0 []:=by rw[←hr];exact ⟨fun _=>rfl,fun h=>absurd h S4,Nat.zero_le _⟩
   have B6:(re==0)=false:=zB5 S4;clear hr F7 S4 Y0 X6;replace e1:Hd _:=e1;refine zK tyF ?_;refine q4.out _ _ (k4.out _ _ ?_);exact fin.out (.o .nilS) [] re _ _ qp qp qe g56 e1.out SlL.nil e2
  subst S4;rw[zB1 (fun h=>h rfl)] at F7;have X6:=X6 rfl;replace X6:1≤rv∧rv≤1099511627776:=X6;have hso2:=p9.add x.2.1 X6.1 X6.2;have F4:=TL p9.bd x.2.1;have hjj:(j:Int)≤64:=by omega
  have Q7:IntKind.i64.wrap (amt acc x.2.1+rv)=amt acc x.2.1+rv:=au (by omega) (by omega);have W5:bk Tryz.prog H6 9 (.one (.i .i64 0)) (.one (.o (.mp H3.nx))) (.one (.o (.str x.2.1))) false=.val (.one (.i .i64 (amt acc x.2.1))) H6:=(Ig WG (z:=.one (.i .i64 0)) (k:=x.2.1) (ok:=false) rM).trans (Qo H6 x.2.1 acc);have hup:aT Tryz.prog H6 9 (.one (.o (.mp H3.nx))) (.one (.o (.str x.2.1))) (.one (.i .i64 (amt acc x.2.1+rv)))=.val aF (H6.mod H3.nx (hS kvS (jv (kZ acc x.2.1 rv)))):=by rw[EG WG (k:=x.2.1) (x:=.i .i64 (amt acc x.2.1+rv)) rM,Kl]
  have B6:((0:Int)==0)=true:=rfl;clear F4 hjj X6;replace F7:Hd _:=F7;replace rM:Hd _:=rM;replace hso2:Hd _:=hso2;have gm:Gr H (H6.mod H3.nx (hS kvS (jv (kZ acc x.2.1 rv)))):=g56.mod _ (.inl hH3);have gm3:Gr H3 (H6.mod H3.nx (hS kvS (jv (kZ acc x.2.1 rv)))):=g36.mod _ (.inl (zA1 _));replace gm:Hd _:=gm;replace gm3:Hd _:=gm3;refine zK tyF ?_;refine zW (qA tyF (qA (ixC hlm) (qA W5 (qA hup Bk)))) ?_;refine q1.out _ _ ?_;refine zW tyF ?_;exact ⟨E.length - (j+1),by omega,j+1,kZ acc x.2.1 rv,rfl,b8,F7,hso2.out,gm.out,gm3.out,n5,aj rfl,zL⟩
 have hje:j=E.length:=by omega
 have hj64:j≤64:=by omega
 have G7:=hac.out;rw[hje,List.drop_length,List.map_nil,gj] at G7;subst G7;rw[zB1 (fun h=>h rfl)] at hr;replace hr:Hd _:=hr;clear hac hje E' N_ S8 he5 rP n3 hk3 hc hj;refine zW tyF ?_;refine k2.out _ _ ?_;refine S5.out _ _ ?_;clear S5 K1 k1 k2 k4 K;refine SJ.rG fun K1 S5=>?_;refine zW tyF ?_;refine S5.out _ _ ?_;refine SJ.gen (fun A6 H6=>Gr H H6∧H3.nx<H6.nx∧H6.get H3.nx=some (hS kvS (jv acc))∧slot A6.tm 11=.one ((.o (.mp H3.nx)))∧slot A6.tm 16=.one ((.o .nilS))∧A6.nt=79∧A6.dfr=[]) ⟨g5,n5,rM,zL⟩ ?_;clear t0 t8 t11 t31 t32 t33 B0 C0 A S5 K1 g5 g35 n5 rM H5;rintro A6 H6 ⟨g6,n6,rM,t11,t16,B0,C0⟩;obtain ⟨out0,s1,s2,s3,s4⟩:=Is acc p9.pw fun x hx=>by have:=(p9.bd x hx).1;omega
 have hlen:=p9.len;have g6n:=g6.nx;have J0:=hr.out;refine SJ.Yq (if kz acc=true then .tup [(false,[.o .nilS]),(false,[.i .i64 6])] else .tup [(false,[if acc=[] then .o .nilS else .o (.sl (H6.nx+2) (acc.length - 1) 0 acc.length 2)]),(false,[.i .i64 0])])
  (fun H2=>Gr H H2∧(kz acc=false→acc≠[]→H6.nx+2<H2.nx∧∃ lo,lo≤acc.length - 1∧H2.get (H6.nx+2)=some (.arr (out0.flatMap dh) 92 lo (acc.length - 1)))) (fun id hid=>⟨H.get id,fun H2 h2=>h2.1.get id hid zB2⟩) ?_ fun H' jn=>⟨wA.gr (fun _ h=>h.1) jn,fun lg=>?_⟩
 rotate_left
 ·
  cases hb:kz acc with
  | true=>
   rw[hb,zB0 rfl] at J0;rw[zB0 rfl];exact ⟨.o .nilS,[],by rw[←J0],SlL.nil,by rw[←J0];exact ⟨fun _=>rfl,fun h=>(by cases h),Nat.zero_le _⟩⟩
  | false=>
   rw[hb,zB1 zA8] at J0;rw[zB1 zA8];refine ⟨_,out0,by rw[←J0],?_,by rw[←J0];exact ⟨fun h=>absurd rfl h,fun _=>⟨s1,s3⟩,by omega⟩⟩;by_cases F5:acc=[]
   ·rw[zB0 F5];have:out0=[]:=List.eq_nil_of_length_eq_zero (by rw[s4,F5];rfl);rw[this];exact SlL.nil
   rw[zB1 F5];obtain ⟨j1,lo,j2,j3⟩:=jn.get (H6.nx+2) _ _ _ (by omega) fun H2 h2=>h2.2 hb F5;refine ⟨ji kK _,.inr ⟨H6.nx+2,acc.length - 1,0,by rw[s4],j1,out0.flatMap dh,?_,?_,?_⟩⟩
   ·show rowOf (H'.get (H6.nx+2)) _=_;rw[j3];exact cy j2 (zA1 _)
   ·rw[ji kK];omega
   rw[List.drop_zero,List.take_of_length_le (by rw[ji kK];exact zA1 _)]
 have finB:Hd (∀ (A:ab) (H9:Hp),slot A.tm 6=.one (.o .nilS)→slot A.tm 7=.one (.i .i64 6)→A.dfr=[]→Gr H H9→kz acc=true →
   ∃ H2,aC E2 [.tmp 6,.tmp 7] (.ret,A,H9)=.ok [(if kz acc=true then .tup [(false,[.o .nilS]),(false,[.i .i64 6])] else .tup [(false,[if acc=[] then .o .nilS else .o (.sl (H6.nx+2) (acc.length - 1) 0 acc.length 2)]),(false,[.i .i64 0])],H2)]∧Gr H H2∧(kz acc=false→acc≠[]→H6.nx+2<H2.nx∧∃ lo,lo≤acc.length - 1∧H2.get (H6.nx+2)=some (.arr (out0.flatMap dh) 92 lo (acc.length - 1)))):=fun A H9 h6 h7 hd T0 hb=>
  ⟨H9,by rw[zB0 hb];exact aM (.o .nilS) (.i .i64 6) (.inr rfl) hd h6 h7,T0,fun h=>by rw[hb] at h;cases h⟩
 have finG:Hd (∀ (c:AC) (A:ab) (H9:Hp),slot A.tm 6=.one c→slot A.tm 7=.one (.i .i64 0)→A.dfr=[]→Gr H H9→kz acc=false→c=(if acc=[] then .o .nilS else .o (.sl (H6.nx+2) (acc.length - 1) 0 acc.length 2))→(acc≠[]→H6.nx+2<H9.nx∧∃ lo,lo≤acc.length - 1∧H9.get (H6.nx+2)=some (.arr (out0.flatMap dh) 92 lo (acc.length - 1))) →
   ∃ H2,aC E2 [.tmp 6,.tmp 7] (.ret,A,H9)=.ok [(if kz acc=true then .tup [(false,[.o .nilS]),(false,[.i .i64 6])] else .tup [(false,[if acc=[] then .o .nilS else .o (.sl (H6.nx+2) (acc.length - 1) 0 acc.length 2)]),(false,[.i .i64 0])],H2)]∧Gr H H2∧(kz acc=false→acc≠[]→H6.nx+2<H2.nx∧∃ lo,lo≤acc.length - 1∧H2.get (H6.nx+2)=some (.arr (out0.flatMap dh) 92 lo (acc.length - 1)))):=fun c A H9 h6 h7 hd T0 hb hc B1=>
  ⟨H9,by rw[zB1 (by rw[hb];exact zA8),←hc];exact aM c (.i .i64 0) (.inr rfl) hd h6 h7,T0,fun _=>B1⟩
 have hrg:iH H6 (.one (.o (.mp H3.nx)))=.val (.one (.o (.it H6.nx))) (H6.new (nw H3.nx (jv acc).length [])):=Wj rM;have rM0:Hd _:=rM;clear hr J0 rM;refine RA.YJ fun K hK=>?_;replace hK:Hd _:=hK;refine RA.rG fun K1 S5=>?_;replace S5:Hd _:=S5;replace s1:Hd _:=s1;replace s3:Hd _:=s3;replace s4:Hd _:=s4;refine zW (qA tyF (qA (@Sh) hrg)) ?_;refine S5.out _ _ ?_;refine RA.block ?_;refine RA.loop (fun z A H8=>∃ (seen:List Nat) (done:List Lot) (v':AC),z=acc.length - seen.length∧seen.Nodup∧(∀ i∈seen,i<acc.length)∧done.length=seen.length∧List.Pairwise (fun x y:Lot=>x.1≠y.1) done∧(∀ p,p∈done↔∃ i∈seen,acc[i]?=some p)∧(∀ p∈done,p.2≤1099511627776)∧Gr H H8∧Gr H6 H8∧H6.nx<H8.nx∧H8.get H6.nx=some (nw H3.nx (jv acc).length seen)∧PD 92 2 (H6.nx+2) H8 v' done.length (done.flatMap dh)∧(done.length=0→H8.nx=H6.nx+1)∧slot A.tm 11=.one ((.o (.mp H3.nx)))∧slot A.tm 16=.one (v')∧slot A.tm 62=.one ((.o (.it H6.nx)))∧A.nt=79∧A.dfr=[]) ?_ acc.length
  ⟨[],[],.o .nilS,rfl,List.nodup_nil,fun _ h=>absurd h List.not_mem_nil,rfl,List.Pairwise.nil,fun p=>⟨fun h=>absurd h List.not_mem_nil,fun ⟨i,hi,_⟩=>absurd hi List.not_mem_nil⟩,fun _ h=>absurd h List.not_mem_nil,g6.new _,(Fr.refl _).new _,zA6 _,aG rfl,.inl ⟨rfl,rfl,rfl⟩,fun _=>rfl,zL⟩
 clear t11 t16 B0 C0 A6 S5 K1 hrg;rintro z A H8 ⟨seen,done,v',rfl,T4,hbn,L_,hpw,hdm,hsm,g8,g68,n8,Z2,C',L6,t11,t16,t62,B0,C0⟩;have rM8:H8.get H3.nx=some (hS kvS (jv acc)):=(g68.get _ n6 zB2).trans rM0.out;refine RA.seq ?_;by_cases F1:∀ i,i<acc.length→i∈seen
 ·have D_:gF H8 (.one (.o (.it H6.nx)))=.val xg H8:=Oa Z2 rM8 fun i hi=>F1 i (by rwa [EL] at hi);have Y9:=Ec acc.length seen F1;have hle:=ow acc.length seen T4 hbn;refine RA.region ?_;refine OA.val (v:=xg) (H':=H8) (fun _ _=>rfl) (by rw[B0];rfl) (by show gF H8 (slot A.tm 62)=_;rw[t62];exact D_) ?_;refine OA.val (v:=.one (.b false)) (H':=H8) (fun _ _=>rfl) (by rw[aE,B0];rfl) (by show cd H8 (slot (bq A (some 63) xg).tm 63) 0=_;simp only[aa,reduceIte];rfl) ?_;refine OA.nil ?_;refine RA.seq ?_;refine RA.cond (b:=false) (by show slot (bq (bq A (some 63) xg) (some 64) (.one (.b false))).tm 64=_;simp only[aa,reduceIte]) ?_;refine RA.exit ?_;refine hK.out _ _ ?_;have L0:kz acc=false:=by
   unfold kz;rw[List.any_eq_false];intro p hp;obtain ⟨i,hi⟩:=List.mem_iff_getElem?.1 hp;have:=hsm p ((hdm p).2 ⟨i,F1 i (List.getElem?_eq_some_iff.1 hi).1,hi⟩);simp;omega
  have Q4:done.length=acc.length:=by omega
  have Y_:∀ s,amt done s=amt acc s:=fun s=>by
   by_cases hm:∃ p∈acc,p.1=s
   ·obtain ⟨p,hp,rfl⟩:=hm;obtain ⟨i,hi⟩:=List.mem_iff_getElem?.1 hp;rw[pQ hpw ((hdm p).2 ⟨i,F1 i (List.getElem?_eq_some_iff.1 hi).1,hi⟩),pQ p9.pw hp]
   rw[Bg fun p hp e=>hm ⟨p,by obtain ⟨i,_,hi⟩:=(hdm p).1 hp;exact List.mem_of_getElem? hi,e⟩,Bg fun p hp e=>hm ⟨p,hp,e⟩]
  have hnz:∀ p∈done,p.2≠0:=fun p hp=>by
   obtain ⟨i,_,hi⟩:=(hdm p).1 hp;have:=(p9.bd p (List.mem_of_getElem? hi)).1;omega
  refine RA.of ?_;refine R1.gen (fun A9 H9=>H9=H8∧slot A9.tm 16=.one (v')∧A9.nt=79∧A9.dfr=[]) ⟨rfl,zL⟩ ?_;clear t11 t16 t62 B0 C0 A D_ F1 T4 hbn hdm hsm Z2 rM8 hK K Y9 hle L_;rintro A H9 ⟨rfl,t16,B0,C0⟩;rcases C' with ⟨a1,rfl,a3⟩|⟨g,a1,rfl,a3,a4,a5⟩
  ·have F5:acc=[]:=List.eq_nil_of_length_eq_zero (by omega);clear a3 a1 L6 hpw Y_ hnz;replace L0:Hd _:=L0;replace F5:Hd _:=F5;refine zG (qA tyF Gz) fun K hK=>?_;refine WE.con (OU H9 39) fun w H10 g10 hw=>?_;subst hw;have g10:=g8.gr g10;refine zK tyF ?_;exact finG.out (.o .nilS) _ _ qp qp qe g10 L0.out (by rw[zB0 F5.out]) fun h=>absurd F5.out h
  have Y0:acc≠[]:=fun h=>by rw[h] at Q4;rw[Q4] at a1;cases a1
  replace L0:Hd _:=L0;replace Y0:Hd _:=Y0;replace Q4:Hd _:=Q4;replace a1:Hd _:=a1;replace Y_:Hd _:=Y_;replace L6:Hd _:=L6;have W8:=NC H9 (H6.nx+2) g 0 done a3 (Nat.zero_le _) a5 (by have:=Q4.out;omega);replace W8:Hd (Con E2 _ _ _ _ _):=W8;refine zG (qA tyF Gz) fun K hK=>?_;refine WE.con W8.out fun w H10 g10 ⟨hw,out,lo',b1,b2,b3,b4,b5⟩=>?_;subst hw;have W3:out=out0:=qk (UE b5 ((b4.pairwise_iff fun {x y} h=>fun e=>h e.symm).2 hpw) fun x hx=>hnz x (b4.mem_iff.1 hx)) s1.out fun s=>by rw[Qn b4 hpw s,Y_.out s,s3.out s]
  subst W3;have g10:Gr H H10:=g8.then g10 fun q hq=>.inl (by omega);clear W8 b4 b5 hpw hnz;replace b2:Hd _:=b2;refine zK tyF ?_;exact finG.out (.o (.sl (H6.nx+2) g 0 done.length 2)) _ _ qp qp qe g10 L0.out (by rw[zB1 Y0.out,←Q4.out,a1.out,Nat.add_sub_cancel]) fun _=>⟨b3,lo',by rw[←Q4.out,a1.out,Nat.add_sub_cancel];exact b1,by rw[←Q4.out,a1.out,Nat.add_sub_cancel];exact b2.out⟩
 obtain ⟨i0,T3,hi0s⟩:∃ i,i<acc.length∧i∉seen:=Classical.byContradiction fun hn=>F1 fun i hi=>Classical.byContradiction fun h=>hn ⟨i,hi,h⟩;obtain ⟨ws,hws,Y0,hall2⟩:=NL (kv:=kvS) Z2 rM8 ⟨i0,by rw[EL];exact T3,hi0s⟩;refine RA.region ?_;refine OA.ox (vs:=ws) (fun _ _=>rfl) (by rw[B0];rfl) (by show gF H8 (slot A.tm 62)=_;rw[t62];exact hws) Y0 fun x hx=>?_;obtain ⟨i,pe,hp,hni,rfl⟩:=hall2 x hx;obtain ⟨p,p6,rfl⟩:∃ p,acc[i]?=some p∧pe=(p.1,.i .i64 p.2):=by
  unfold jv at hp;rw[List.getElem?_map] at hp;cases h:acc[i]? with
  | none=>rw[h] at hp;cases hp
  | some p=>rw[h] at hp;exact ⟨p,rfl,(Option.some.inj hp).symm⟩
 refine OA.val (v:=.one (.b true)) (H':=H8.mod H6.nx (nw H3.nx (jv acc).length (seen++[i]))) (fun _ _=>rfl) (by rw[aE,B0];rfl) (by show cd _ (slot (bq A (some 63) _).tm 63) 0=_;simp only[aa,reduceIte];rfl) ?_;refine OA.nil ?_;refine RA.seq ?_;refine RA.cond (b:=true) (by show slot (bq (bq A (some 63) _) (some 64) (.one (.b true))).tm 64=_;simp only[aa,reduceIte]) ?_;refine RA.skip ?_;refine RA.of ?_;have hilt:i<acc.length:=(List.getElem?_eq_some_iff.1 p6).1;have hnd2:(seen++[i]).Nodup:=List.pairwise_append.2 ⟨T4,List.pairwise_singleton _ _,fun a ha b hb e=>hni (by rw[←List.mem_singleton.1 hb,←e];exact ha)⟩;have hbn2:∀ q∈seen++[i],q<acc.length:=fun q hq=>by
  rcases List.mem_append.1 hq with hq|hq
  ·exact hbn q hq
  rw[List.mem_singleton.1 hq];exact hilt
 have hle2:=ow acc.length _ hnd2 hbn2;rw[List.length_append,List.length_singleton] at hle2;have hpw2:List.Pairwise (fun x y:Lot=>x.1≠y.1) (done++[p]):=List.pairwise_append.2 ⟨hpw,List.pairwise_singleton _ _,fun a ha b hb=>by
  rw[List.mem_singleton.1 hb];obtain ⟨q,hq,hqa⟩:=(hdm a).1 ha;have C_:q≠i:=fun e=>hni (by rw[←e];exact hq);obtain ⟨l1,e1⟩:=List.getElem?_eq_some_iff.1 hqa;obtain ⟨l2,e2⟩:=List.getElem?_eq_some_iff.1 p6;have hpi:=List.pairwise_iff_getElem.1 p9.pw;rcases Nat.lt_or_ge q i with h|h
  ·have:=hpi q i l1 l2 h;rwa [e1,e2] at this
  have:=hpi i q l2 l1 (by omega);rw[e1,e2] at this;exact fun e=>this e.symm⟩
 have hdm2:∀ z,z∈done++[p]↔∃ q∈seen++[i],acc[q]?=some z:=fun z=>by
  rw[List.mem_append,hdm];constructor
  ·rintro (⟨q,hq,e⟩|hz)
   ·exact ⟨q,List.mem_append_left _ hq,e⟩
   rw[List.mem_singleton.1 hz];exact ⟨i,List.mem_append_right _ (List.mem_singleton.2 rfl),p6⟩
  rintro ⟨q,hq,e⟩;rcases List.mem_append.1 hq with hq|hq
  ·exact .inl ⟨q,hq,e⟩
  rw[List.mem_singleton.1 hq,p6] at e;exact .inr (List.mem_singleton.2 (Option.some.inj e).symm)
 have hdl2:(done++[p]).length=(seen++[i]).length:=by rw[List.length_append,List.length_append,L_];rfl
 have fm:Fr (fun q=>q=H6.nx) H8 (H8.mod H6.nx (nw H3.nx (jv acc).length (seen++[i]))):=(Fr.refl _).mod _ (.inr rfl);refine R1.gen (fun A9 H9=>Gr H H9∧Gr H6 H9∧H6.nx<H9.nx∧H9.get H6.nx=some (nw H3.nx (jv acc).length (seen++[i]))∧PD 92 2 (H6.nx+2) H9 v' done.length (done.flatMap dh)∧(done.length=0→H9.nx=H6.nx+1)∧slot A9.tm 11=.one ((.o (.mp H3.nx)))∧slot A9.tm 16=.one (v')∧slot A9.tm 62=.one ((.o (.it H6.nx)))∧A9.nt=79∧A9.dfr=[])
  ⟨g8.then fm fun q hq=>.inl (by omega),g68.then fm fun q hq=>.inl (by omega),n8,aj rfl,C'.fr fm (by omega),L6,zL⟩ ?_
 clear t11 t16 t62 B0 C0 A hws Y0 hall2 hx fm g8 g68 n8 Z2 C' L6 rM8 F1 T3 hi0s ws hpw hdm T4 hbn H8;rintro A H9 ⟨g9,g69,n9,Z2,C',L6,t11,t16,t62,B0,C0⟩;have rM9:H9.get H3.nx=some (hS kvS (jv acc)):=(g69.get _ n6 zB2).trans rM0.out;have hent:gJ H9 (.one (.o (.it H6.nx)))=.val (.tup [(false,[.o (.str p.1)]),(false,[.i .i64 p.2])]) H9:=Wf Z2 rM9 hp;have hpm:=List.mem_of_getElem? p6;have hbp:=p9.bd p hpm;have hnx9:=L6;replace L6:Hd _:=L6;replace Z2:Hd _:=Z2;replace rM9:Hd _:=rM9;replace L_:Hd _:=L_;replace p6:Hd _:=p6;replace hp:Hd _:=hp;replace hdl2:Hd _:=hdl2;replace hdm2:Hd _:=hdm2;refine R1.dM fun K3 q1 q2 q3 q4=>?_;by_cases hbp2:(1099511627776:Int)<p.2
 ·have L0:kz acc=true:=List.any_eq_true.2 ⟨p,hpm,decide_eq_true hbp2⟩;replace L0:Hd _:=L0;clear hnx9 hbp;refine zW (qA tyF (qA (@DQ) hent)) ?_;refine q4.out _ _ ?_;exact finB.out _ _ qp qp qe g9 L0.out
 obtain ⟨zz,hz,L1⟩:=Tx;obtain ⟨N6,v9,H10,Q1,hpd9,G'⟩:=PD.push dH QX hz L1 (by decide) C' (fun h=>by have:=hnx9 h;omega) [.o (.str p.1),.i .i64 p.2] rfl (by have:=L_.out;omega);have g10:Gr H H10:=g9.then G' fun q hq=>.inl (by omega);have g610:Gr H6 H10:=g69.then G' fun q hq=>.inl (by omega);have n10:=zA0 n9 G'.nx;have i_:=(G'.get _ n9 (by omega)).trans Z2.out;have c_:PD 92 2 (H6.nx+2) H10 v9 (done++[p]).length ((done++[p]).flatMap dh):=by
  rw[List.length_append,List.flatMap_append];exact hpd9
 have hsm2:∀ z∈done++[p],z.2≤1099511627776:=fun z hz=>by
  rcases List.mem_append.1 hz with hz|hz
  ·exact hsm z hz
  rw[List.mem_singleton.1 hz];omega
 clear hnx9 hbp hz L1 zz hpd9 G' C' g9 g69 n9;replace i_:Hd _:=i_;replace c_:Hd _:=c_;refine zW (qA tyF (qA (@DQ) hent)) ?_;refine zG (qA tyF (qA mV Q1)) fun K8 hK8=>?_;refine ⟨N6,?_⟩;refine zK tyF ?_;refine q1.out _ _ ?_;exact ⟨acc.length - (seen++[i]).length,by rw[List.length_append,List.length_singleton];omega,seen++[i],done++[p],v9,rfl,hnd2,hbn2,hdl2.out,hpw2,hdm2.out,hsm2,g10,g610,n10,i_.out,c_.out,fun h=>(by rw[List.length_append] at h;cases h),zL⟩
theorem jE.mono {l:List Lot} {i j:Nat} (h:jE l i) (U3:i≤j):jE l j:=⟨h.pw,fun p hp=>by have:=h.bd p hp;omega,by have:=h.len;omega⟩
structure RowOk (gs:List Gd) (acc:List Lot) (sums:List Int):Prop where
 len:sums.length=gs.length
 at_:∀ s,0≤dO 0 gs s→sums.getD (dO 0 gs s).toNat 0=amt acc s
 nm:∀ p∈acc,0≤dO 0 gs p.1
theorem fP (x:Lot):dh x=[.o (.str x.1),.i .i64 x.2]:=rfl
theorem pK:al Tryz.prog 160=true:=by kernel_rfl
def okI (l:List Lot) (i:Nat) (x:Lot):Bool:=
 nmB x.1&&(!(decide (0<(i:Int)))||aW (l.getD (i - 1) ([],0)).1 x.1)&&!(x.2==0)&&!(decide (1099511627776<x.2))&&!(decide (x.2 < -1099511627776))
def jH (l:List Lot):Bool:=(List.range l.length).all fun i=>okI l i (l.getD i ([],0))
theorem Sj {l:List Lot} {i:Nat} {x:Lot} (hx:l[i]?=some x) (h:okI l i x=false):jH l=false:=by
 have D0:i<l.length:=by
  rcases Nat.lt_or_ge i l.length with h|h
  ·exact h
  rw[List.getElem?_eq_none h] at hx;cases hx
 unfold jH;rw[List.all_eq_false];exact ⟨i,List.mem_range.2 D0,by rw[List.getD_eq_getElem?_getD,hx];simp[h]⟩
theorem yC {l:List Lot} (h:∀ j,j<l.length→okI l j (l.getD j ([],0))=true):jH l=true:=by
 unfold jH;rw[List.all_eq_true];exact fun j hj=>h j (List.mem_range.1 hj)
def bG (l:List Lot):Int:=if 64<l.length then 3 else if jH l=true then 0 else 51
theorem oE (H:Hp) (l:List Lot) (v:AC) (hl:SlL H v l):
  Con E2 160 [.one v] H (fun _=>False) fun r _=>r=.one (.i .i64 (bG l)):=by
 refine Con.of rfl fun lg=>?_;have hl:SlL ⟨H.t,H.nx,lg⟩ v l:=hl;generalize (⟨H.t,H.nx,lg⟩:Hp)=H at hl ⊢;refine C1.body (E:=E2) (nt:=50) (res:=[.tmp 2]) Tryz.func160 rfl rfl rfl rfl rfl fun tm A0=>?_;have h0:=A0 0 _ rfl;clear A0;refine qW (qA ae (qA h0 (qA eI (qA hl.len hl.lt)))) ?_;refine qE fun Kx Ky hx hy=>?_;refine di (fun hb=>?_) (fun hb=>?_)
 ·refine hx ?_;clear hx hy Kx Ky;refine qW (qA ae h0) ?_;refine ⟨_,_,ai (.i .i64 3) (.inr rfl) rfl (by simp only[aa,reduceIte]),Fr.refl H,fun _=>?_⟩;have:64<l.length:=by omega
  rw[bG,zB0 this]
 refine hy ?_;clear hx hy Kx Ky;refine qW (qA ae (qA h0 (qA eI (qA hl.len hl.lt)))) ?_;refine R1.aU fun K k1 k2 k3 k4=>?_;refine R1.loop (fun k A1 H1=>∃ i:Nat,k=l.length - i∧i≤l.length∧slot A1.tm 0=.one v∧slot A1.tm 8=.one v∧slot A1.tm 9=.one (.i .i64 (l.length:Int))∧slot A1.tm 10=.one (.i .i64 (i:Int))∧A1.nt=50∧A1.dfr=[]∧Gr H H1∧∀ j,j<i→okI l j (l.getD j ([],0))=true) ?_ l.length
  ⟨0,rfl,Nat.zero_le _,?_,?_,?_,?_,rfl,rfl,Fr.refl H,fun j hj=>absurd hj (Nat.not_lt_zero j)⟩
 ·clear h0 tm;rintro k A1 H1 ⟨i,rfl,hi,t0,t8,t9,t10,B0,C0,T0,F1⟩;have q6:=hl.gr T0;refine qW (qA t0 (qA t8 (qA t9 (qA t10 B0)))) ?_;refine qE fun Kx Ky hx hy=>?_;refine di (fun hc=>?_) (fun hc=>?_)
  ·refine hx ?_;clear hx hy Kx Ky;have D0:i<l.length:=by omega
   obtain ⟨id,g,off,cells,rfl,hid,hg,O0⟩:=q6.open (by omega);have hx:=zB4 D0;have hd:l.getD i ([],0)=l[i]:=by rw[List.getD_eq_getElem?_getD,hx];rfl
   generalize l[i]=x at hx hd;have V0:=O0 i x hx;refine R1.bg (R1.aU fun K2 q1 q2 q3 q4=>?_);refine qG (qA t0 (qA t8 (qA t9 (qA t10 (qA B0 (qA ae (qA dH (qA (ixC D0) (qA fM (qA oX (qA lD (qA hid (qA hg (qA V0.all (qA V0.le fP))))))))))))))) fun K hK=>?_;refine hK _ _ ?_;clear hK K;refine qG (qA t0 (qA t8 (qA t9 (qA t10 (qA B0 (qA ae (qA aQ (qA fG (qA eG hid))))))))) fun K hK=>?_;refine WE.fE (mI _) fun H3 g3 n3 e3=>?_;refine qS (qA t0 (qA t8 (qA t9 (qA t10 (qA B0 (qA ae n3)))))) ?_;have hw:0<(i:Int)→IntKind.i64.wrap ((i:Int) - 1)=((i - 1:Nat):Int):=fun h=>by rw[au (by omega) (by omega)];omega
   have J9:i - 1<l.length:=by omega
   have hy:=O0 (i - 1) (l.getD (i - 1) ([],0)) (by rw[List.getD_eq_getElem?_getD,zB4 J9];rfl);have Y1:okI l i x=(nmB x.1&&(!(decide (0<(i:Int)))||aW (l.getD (i - 1) ([],0)).1 x.1)&&!(x.2==0)&&!(decide (1099511627776<x.2))&&!(decide (x.2 < -1099511627776))):=rfl;generalize l.getD (i - 1) ([],0)=y at hy Y1;have J1:=zC0 i (by omega);have V':Gr H H3:=((T0.new _).mod _ (.inl T0.nx)).gr g3;repeat' (refine ub (fun hc=>?_) (fun hc=>?_) <;> (try simp only[Bool.not_eq_true,Bool.not_eq_false,Classical.not_not] at hc) <;> simp only[hc,qB,aq,Nat.reduceLT,Nat.reduceEqDiff,Nat.reduceLeDiff,reduceIte,Nat.reduceAdd,Nat.reduceSub,Nat.reduceMul,Int.reduceLT,Int.reduceLE,Int.reduceBEq,t0,t8,t9,t10,B0,ae,aQ,cD,fG,qx,dH,hid,n3,e3,hg,hw,eD J9,hy.le1,hy.fst])
   all_goals refine hK _ _ ?_
   all_goals clear hK K
   all_goals refine qE fun Kx Ky hx hy=>?_
   all_goals first|refine hx ?_|refine hy ?_|refine di (fun hc=>hx ?_) (fun hc=>hy ?_)
   all_goals clear hx hy Kx Ky
   all_goals refine qW (qA t10 B0) ?_
   all_goals first
    | (refine q4 _ _ (k4 _ _ ⟨_,_,ai (.i .i64 51) (.inr rfl) (qd C0) (by simp only[aa,reduceIte]),V',fun _=>?_⟩)
       have M8:okI l i x=false:=by
        simp only[*,decide_true,decide_false,decide_eq_true_eq,decide_eq_false_iff_not,Bool.not_true,Bool.not_false,Bool.and_true,Bool.true_and,Bool.and_false,Bool.false_and,Bool.or_true,Bool.true_or,Bool.or_false,Bool.false_or,not_true_eq_false,not_false_eq_true]
       rw[bG,zB1 (by omega),Sj hx M8];rfl)
    | (refine q1 _ _ ?_
       refine qW (qA t10 (qA B0 J1)) ?_;refine ⟨l.length - (i+1),by omega,i+1,rfl,D0,?_,?_,?_,?_,?_,?_,V',fun j hj=>?_⟩
       ·simp only[aa,Nat.reduceEqDiff,reduceIte,t0]
       ·simp only[aa,Nat.reduceEqDiff,reduceIte,t8]
       ·simp only[aa,Nat.reduceEqDiff,reduceIte,t9]
       ·simp only[aa,Nat.reduceEqDiff,reduceIte]
       ·simp only[aE,B0]
       ·simp only[ak,C0]
       ·rcases Nat.lt_or_ge j i with h|h
        ·exact F1 j h
        have:j=i:=by omega
        subst this;rw[hd];simp only[*,decide_true,decide_false,decide_eq_true_eq,decide_eq_false_iff_not,Bool.not_true,Bool.not_false,Bool.and_true,Bool.true_and,Bool.and_false,Bool.false_and,Bool.or_true,Bool.true_or,Bool.or_false,Bool.false_or,not_true_eq_false,not_false_eq_true]
       )
  refine hy ?_;clear hx hy Kx Ky;refine qW B0 ?_;refine k2 _ _ ?_;refine qW B0 ?_;refine ⟨_,_,ai (.i .i64 0) (.inr rfl) (qd C0) (by simp only[aa,reduceIte]),T0,fun _=>?_⟩;have:i=l.length:=by omega
  subst this;rw[bG,zB1 (by omega),yC F1];rfl
 all_goals simp only[aa,Nat.reduceEqDiff,reduceIte,h0]
 all_goals rfl
theorem yH:al Tryz.prog 98=true:=by kernel_rfl
theorem DT:al Tryz.prog 96=true:=by kernel_rfl
theorem QI:al Tryz.prog 97=true:=by kernel_rfl
theorem TY:al Tryz.prog 104=true:=by kernel_rfl
theorem Sl:al Tryz.prog 105=true:=by kernel_rfl
theorem Vz:al Tryz.prog 54=true:=by kernel_rfl
theorem vE (H:Hp) (a b:Lot):Con E2 98 [.agg (dh a),.agg (dh b)] H (fun _=>False) fun v _=>v=.one (.b (aW a.1 b.1)):=by
 refine Con.of rfl fun lg=>?_;generalize (⟨H.t,H.nx,lg⟩:Hp)=H;refine C1.body (E:=E2) (nt:=10) (res:=[.tmp 4]) Tryz.func98 rfl rfl rfl rfl rfl fun tm A0=>?_;have h0:=A0 0 _ rfl;have h1:=A0 1 _ rfl;clear A0;refine qW (qA ae (qA h0 (qA h1 (qA fP (qA fG aQ))))) ?_;refine ⟨_,_,ai (.b (aW a.1 b.1)) (.inr rfl) rfl (by simp only[aa,reduceIte]),((Fr.refl _).new _).new _,fun _=>rfl⟩
def eC (a b:Lot):List UInt8:=if a.1=[] then b.1 else a.1
theorem QZ (H:Hp) (a b:Lot):Con E2 105 [.agg (dh a),.agg (dh b)] H (fun _=>False) fun v _=>v=.one (.o (.str (eC a b))):=by
 refine Con.of rfl fun lg=>?_;generalize (⟨H.t,H.nx,lg⟩:Hp)=H;refine C1.body (E:=E2) (nt:=12) (res:=[.tmp 4]) Tryz.func105 rfl rfl rfl rfl rfl fun tm A0=>?_;have h0:=A0 0 _ rfl;have h1:=A0 1 _ rfl;clear A0;refine qW (qA ae (qA h0 (qA h1 (qA fP (qA fG (qA aQ cM)))))) ?_;refine qC cM fun Kx Ky hx hy=>?_;refine di (fun hc=>hx ?_) (fun hc=>hy ?_)
 ·refine qW (qA ae (qA h0 (qA h1 (qA fP (qA fG aQ))))) ?_;refine ⟨_,_,ai (.o (.str a.1)) (.inr rfl) rfl (by simp only[aa,reduceIte]),((Fr.refl _).new _).new _,fun _=>?_⟩;have:a.1≠[]:=by simpa using hc
  rw[eC,zB1 this]
 refine qW (qA ae (qA h0 (qA h1 (qA fP (qA fG aQ))))) ?_;refine ⟨_,_,ai (.o (.str b.1)) (.inr rfl) rfl (by simp only[aa,reduceIte]),((Fr.refl _).new _).new _,fun _=>?_⟩;have:a.1=[]:=by simpa using hc
 rw[eC,zB0 this]
def gH (a b:List Lot):Int:=if bG a=0 then bG b else bG a
theorem BN (H:Hp) (a b:List Lot) (va vb:AC) (ha:SlL H va a) (hb:SlL H vb b):Con E2 96 [.one va,.one vb] H (fun _=>False) fun r _=>r=.one (.i .i64 (gH a b)):=by
 refine Con.of rfl fun lg=>?_;have ha:SlL ⟨H.t,H.nx,lg⟩ va a:=ha;have hb:SlL ⟨H.t,H.nx,lg⟩ vb b:=hb;generalize (⟨H.t,H.nx,lg⟩:Hp)=H at ha hb ⊢;refine C1.body (E:=E2) (nt:=13) (res:=[.tmp 4]) Tryz.func96 rfl rfl rfl rfl rfl fun tm A0=>?_;have h0:=A0 0 _ rfl;have h1:=A0 1 _ rfl;clear A0;refine qW (qA ae (qA h0 h1)) ?_;refine qG (qA ae (qA h0 (qA h1 pK))) fun K hK=>?_;refine WE.con (oE _ a va ha) fun v2 H2 hf hv=>?_;subst hv;refine qT ?_;refine hK _ _ ?_;clear hK K;refine qW ae ?_;refine qE fun Kx Ky hx hy=>?_;refine di (fun hc=>hx ?_) (fun hc=>hy ?_)
 ·refine qW ae ?_;refine ⟨_,_,ai (.i .i64 (bG a)) (.inr rfl) rfl (by simp only[aa,reduceIte]),hf,fun _=>?_⟩;have:bG a≠0:=by simpa using hc
  rw[gH,zB1 this]
 refine qW ae ?_;refine qG (qA ae (qA h0 (qA h1 pK))) fun K hK=>?_;refine WE.con (oE _ b vb (hb.gr hf)) fun v3 H3 Z3 hv=>?_;subst hv;refine qT ?_;refine hK _ _ ?_;clear hK K;refine qW ae ?_;refine ⟨_,_,ai (.i .i64 (bG b)) (.inr rfl) rfl (by simp only[aa,reduceIte]),hf.gr Z3,fun _=>?_⟩;have:bG a=0:=by simpa using hc
 rw[gH,zB0 this]
end Go.Proofs.YtnhbkodnmkojpaaGreat
end
