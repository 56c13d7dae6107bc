/- A part of the proof: BkSw9, BkEv, BkRd1, BkRd2, BkRd3, BkLt1, BkLt2, BkEn1, BkEn2, BkEn3. No conditions. -/
import Derived.Test.YtnhbkodnmkojpaaGreatRAr
import Derived.Sort.LotA
import Derived.Sort.LotB
import Derived.Sort.LotD3
set_option maxRecDepth 100000
set_option maxHeartbeats 64000000
set_option linter.unusedVariables false
set_option linter.unusedSimpArgs false
noncomputable section
namespace Go.Proofs.YtnhbkodnmkojpaaGreat
open Go Go.Eng
theorem BD:ak Tryz.prog 86=true:=by kernel_rfl
theorem tyH:type_of% (qA tyF (qA arQ (JF (show (8:Int)≠0 by decide)))):=qA tyF (qA arQ (JF (show (8:Int)≠0 by decide)))
section
variable {α:Type} [Inhabited α] {c:α→List AC} {cf:α→α→Int} {cl N:Nat}
theorem Up (hm:Cmp c cf cl N) (hsw:Go.Sort.SWO (ltF cf)) (id gen n:Nat) (hn:n≤65536):∀ (m:Nat) (H:Hp) (d:Array α) (a b lim:Nat),b - a≤m→Srt c H id gen n d→N≤H.nx→a≤b→b≤n→lim≤64→Go.Sort.Below (ltF cf) a b d →
  Con E2 86 [.one (.o (.sl id gen 0 n 2)),.one (.i .i64 a),.one (.i .i64 b),.one (.i .i64 lim),.one (.o (.clo cl []))] H (fun k=>k=id) fun r H'=>r=.tup []∧∃ d',Srt c H' id gen n d'∧Go.Sort.PermIn a b d d'∧Go.Sort.SortedIn (ltF cf) a b d':=by
 have j5:=hm.bd;intro m;induction m using Nat.strongRecOn with
 | ind m ih=>
 intro H d a0 b0 lim hm0 hs hN hab0 hb0 C5 hBl0;refine Con.of rfl fun lg=>?_;have hs:Srt c ⟨H.t,H.nx,lg⟩ id gen n d:=hs;have hN:N≤(⟨H.t,H.nx,lg⟩:Hp).nx:=hN;generalize (⟨H.t,H.nx,lg⟩:Hp)=H at hs hN ⊢;refine C1.body (E:=E2) (nt:=148) (res:=[]) Tryz.func86 rfl rfl rfl rfl rfl fun tm A0=>?_;have h0:=A0 0 _ rfl;have h1:=A0 1 _ rfl;have h2:=A0 2 _ rfl;have h3:=A0 3 _ rfl;have h4:=A0 4 _ rfl;clear A0;have fin:∀ (e:aA) (A:ab) (H3:Hp) (dc:Array α),(e=.normal∨e=.ret)→A.dfr=[]→Fr (fun k=>k=id) H H3→Srt c H3 id gen n dc→Go.Sort.PermIn a0 b0 d dc∧Go.Sort.SortedIn (ltF cf) a0 b0 dc→∃ w H4,an E2 [] (e,A,H3)=.ok [(w,H4)]∧Fr (fun k=>k=id) H H4∧∀ lg':List Nat,w=.tup []∧∃ d',Srt c ⟨H4.t,H4.nx,lg'⟩ id gen n d'∧Go.Sort.PermIn a0 b0 d d'∧Go.Sort.SortedIn (ltF cf) a0 b0 d':=fun e A H3 dc he h1 h2 h3 h4=>⟨_,H3,cN he h1,h2,fun _=>⟨rfl,dc,h3,h4⟩⟩;replace hBl0:Hd _:=hBl0;replace ih:Hd _:=ih;refine zW tyF ?_;refine R1.dZ fun K k1 k2 k3 k4=>?_;refine R1.loop (fun z A H3=>∃ (a b lim:Nat) (wb wp:Bool) (dc:Array α),z=b - a∧a0≤a∧a≤b∧b≤b0∧lim≤64∧Fr (fun k=>k=id) H H3∧Srt c H3 id gen n dc∧Hd (Go.Sort.Below (ltF cf) a b dc)∧Hd (∀ R,Go.Sort.PermIn a b dc R→Go.Sort.SortedIn (ltF cf) a b R→Go.Sort.PermIn a0 b0 d R∧Go.Sort.SortedIn (ltF cf) a0 b0 R) ∧
   slot A.tm 0=.one ((.o (.sl id gen 0 n 2)))∧slot A.tm 1=.one (.i .i64 (a:Int))∧slot A.tm 2=.one (.i .i64 (b:Int))∧slot A.tm 3=.one (.i .i64 (lim:Int))∧slot A.tm 4=.one ((.o (.clo cl [])))∧slot A.tm 10=.one (.b wb)∧slot A.tm 11=.one (.b wp)∧A.nt=148∧A.dfr=[]) ?_ (b0 - a0)
  ⟨a0,b0,lim,true,true,d,rfl,zA1 _,hab0,zA1 _,C5,Fr.refl _,hs,hBl0,fun R h1 h2=>⟨h1,h2⟩,zL⟩
 clear h0 h1 h2 h3 h4 tm hs hBl0 k3;rintro z A H3 ⟨a,b,lim,wb,wp,dc,rfl,haa,Y5,hbb0,C5,f3,hs,hBl,hct,t0,t1,t2,t3,t4,t10,t11,B0,C0⟩;have hid:=hs.lt;have hN3:=zA2 hN f3.nx;obtain ⟨L,hL⟩:∃ L,L=b - a:=⟨_,rfl⟩;have hwL:IntKind.i64.wrap ((b:Int) - (a:Int))=(L:Int):=by rw[ao (by omega) (by omega)];omega
 refine R1.dZ fun K2 q1 q2 q3 q4=>?_;by_cases h12:L≤12
 ·have h12i:(L:Int)≤12:=by omega
  replace hL:Hd _:=hL;refine zW tyF ?_;refine zG (qA tyF QE) fun K5 x8=>?_;refine WE.con (UW hm H3 id gen n dc a b hs hN3 Y5 (by omega) (by omega)) fun w' H4 g4 ⟨hw,W3⟩=>?_;subst hw;obtain ⟨x1,x2⟩:=Go.Sort.insertionSort_holds hsw dc a b Y5 (by have:=hs.sz;omega);have F2:=hct.out _ x1 x2;replace x1:Hd _:=x1;replace x2:Hd _:=x2;replace W3:Hd _:=W3;replace F2:Hd _:=F2;refine zK tyF ?_;exact q4.out _ _ (k4.out _ _ (fin _ _ _ _ (.inr rfl) qe (f3.then g4 fun _ h=>.inr h) W3.out F2.out))
 have h12i:¬(L:Int)≤12:=by omega
 by_cases l9:lim=0
 ·have hl0b:((lim:Int)==0)=true:=by rw[l9];rfl
  replace hL:Hd _:=hL;replace l9:Hd _:=l9;refine zW tyF ?_;refine zG (qA tyF Wh) fun K5 x8=>?_;refine WE.con (QW hm H3 id gen n dc a b hs hN3 Y5 (by omega) (by omega)) fun w' H4 g4 ⟨hw,W3⟩=>?_;subst hw;obtain ⟨x1,x2⟩:=Go.Sort.heapSort_holds hsw dc a b Y5 (by have:=hs.sz;omega);have F2:=hct.out _ x1 x2;replace x1:Hd _:=x1;replace x2:Hd _:=x2;replace W3:Hd _:=W3;replace F2:Hd _:=F2;refine zK tyF ?_;exact q4.out _ _ (k4.out _ _ (fin _ _ _ _ (.inr rfl) qe (f3.then g4 fun _ h=>.inr h) W3.out F2.out))
 have hl0b:((lim:Int)==0)=false:=zB5 (by omega);have hwl:IntKind.i64.wrap ((lim:Int) - 1)=((lim - 1:Nat):Int):=by rw[ao (by omega) (by omega)];omega
 have l7:a<b:=by omega
 have hL12:12<b - a:=by omega
 replace hL:Hd _:=hL;replace l9:Hd _:=l9;refine zW tyF ?_;refine R1.gX (fun B H4=>∃ (l1:Nat) (d1:Array α),l1≤64∧Fr (fun k=>k=id) H H4∧Srt c H4 id gen n d1∧Hd (Go.Sort.PermIn a b dc d1)∧slot B.tm 0=.one ((.o (.sl id gen 0 n 2)))∧slot B.tm 1=.one (.i .i64 (a:Int))∧slot B.tm 2=.one (.i .i64 (b:Int))∧slot B.tm 3=.one (.i .i64 (l1:Int))∧slot B.tm 4=.one ((.o (.clo cl [])))∧slot B.tm 10=.one (.b wb)∧slot B.tm 11=.one (.b wp)∧slot B.tm 12=.one (.i .i64 (L:Int))∧B.nt=148∧B.dfr=[]) (fun K3 m1 m2 m3=>?_) ?_
 ·cases wb with
  | true=>
   refine zW tyF ?_;refine m1.out _ _ ?_;exact ⟨lim,dc,C5,f3,hs,Go.Sort.permIn_refl dc a b,zL⟩
  | false=>
   refine zW tyF ?_;refine zG (qA tyF XK) fun K5 x8=>?_;refine WE.con (Uv hm H3 id gen n dc a b hs hN3 l7 (by omega) hn) fun w' H4 g4 ⟨hw,W3⟩=>?_;subst hw;have x1:=Go.Sort.breakPatterns_holds dc a b Y5 (by have:=hs.sz;omega);replace x1:Hd _:=x1;replace W3:Hd _:=W3;refine zK tyF ?_;refine m1.out _ _ ?_;exact ⟨lim - 1,_,by omega,f3.then g4 (fun _ h=>.inr h),W3.out,x1,zL⟩
 have hdz0:dc.size=n:=hs.sz;clear t0 t1 t2 t3 t4 t10 t11 B0 C0 A hs f3 hid hN3 H3 hwl C5 hl0b l9 lim;rintro A H3 ⟨lim,d1,C5,f3,hs,J4,t0,t1,t2,t3,t4,t10,t11,t12,B0,C0⟩;have hid:=hs.lt;have hN3:=zA2 hN f3.nx;refine zG (qA tyF UM) fun K5 x8=>?_;have hpv:=Go.Sort.choosePivot_holds (ltF cf) d1 a b l7;refine WE.con (Tl hm H3 id gen n d1 a b hs hN3 l7 (by omega) (by omega)) fun w' H4 g4 hw=>?_;subst hw;have W3:=hs.fr g4 zB2;have O2:=W3.lt;have f4:Fr (fun k=>k=id) H H4:=f3.then g4 fun _ h=>h.elim;have hN4:=zA2 hN f4.nx;clear hs hid hN3 g4 f3;generalize Go.Sort.choosePivot (ltF cf) d1 a b=pv at hpv ⊢;obtain ⟨p0,hh⟩:=pv;obtain ⟨D9,C9⟩:=hpv;replace D9:a≤p0:=D9;replace C9:p0<b:=C9;refine zS tyF ?_;refine x8.out _ _ ?_;clear x8 K5;refine R1.gen (fun A5 H5=>H4=H5∧slot A5.tm 0=.one ((.o (.sl id gen 0 n 2)))∧slot A5.tm 1=.one (.i .i64 (a:Int))∧slot A5.tm 2=.one (.i .i64 (b:Int))∧slot A5.tm 3=.one (.i .i64 (lim:Int))∧slot A5.tm 4=.one ((.o (.clo cl [])))∧slot A5.tm 10=.one (.b wb)∧slot A5.tm 11=.one (.b wp)∧slot A5.tm 12=.one (.i .i64 (L:Int))∧slot A5.tm 13=.one (.i .i64 (p0:Int))∧slot A5.tm 14=.one (.i .i64 ((vX hh):Int))∧A5.nt=148∧A5.dfr=[]) ⟨rfl,zL⟩ ?_;clear t0 t1 t2 t3 t4 t10 t11 t12 B0 C0 A;rintro A _ ⟨rfl,t0,t1,t2,t3,t4,t10,t11,t12,t13,t14,B0,C0⟩;have hdz1:d1.size=n:=W3.sz;have hct1:Hd (∀ R,Go.Sort.PermIn a b d1 R→Go.Sort.SortedIn (ltF cf) a b R→Go.Sort.PermIn a0 b0 d R∧Go.Sort.SortedIn (ltF cf) a0 b0 R):=fun R h1 h2=>hct.out R (Go.Sort.permIn_trans _ _ _ a b J4.out h1) h2;have hBl1:Hd (Go.Sort.Below (ltF cf) a b d1):=hBl.out.perm (by omega) J4.out;clear hct hBl J4 hdz0;refine zW tyF ?_
 refine R1.gX (fun B H5=>∃ (pv:Nat) (hi:Int) (d2:Array α),a≤pv∧pv<b∧Fr (fun k=>k=id) H H5∧Srt c H5 id gen n d2∧Hd (Go.Sort.PermIn a b d1 d2)∧slot B.tm 0=.one ((.o (.sl id gen 0 n 2)))∧slot B.tm 1=.one (.i .i64 (a:Int))∧slot B.tm 2=.one (.i .i64 (b:Int))∧slot B.tm 3=.one (.i .i64 (lim:Int))∧slot B.tm 4=.one ((.o (.clo cl [])))∧slot B.tm 10=.one (.b wb)∧slot B.tm 11=.one (.b wp)∧slot B.tm 12=.one (.i .i64 (L:Int))∧slot B.tm 13=.one (.i .i64 (pv:Int))∧slot B.tm 14=.one (.i .i64 (hi:Int))∧B.nt=148∧B.dfr=[]) (fun K3 m1 m2 m3=>?_) ?_
 ·by_cases hdd:hh=.decreasing
  ·have hdi:(vX hh==2)=true:=by rw[hdd];rfl
   have hwa:IntKind.i64.wrap ((b:Int) - 1)=((b - 1:Nat):Int):=by rw[ao (by omega) (by omega)];omega
   have hwb:IntKind.i64.wrap ((p0:Int) - (a:Int))=((p0 - a:Nat):Int):=by rw[ao (by omega) (by omega)];omega
   have hwc:IntKind.i64.wrap (((b - 1:Nat):Int) - ((p0 - a:Nat):Int))=((b - 1 - (p0 - a):Nat):Int):=by rw[ao (by omega) (by omega)];omega
   have x1:=Go.Sort.reverseRange_holds d1 a b Y5 (by omega);replace x1:Hd _:=x1;replace hdd:Hd _:=hdd;refine zW tyF ?_;refine zG (qA tyF XA) fun K5 x8=>?_;refine WE.con (VG hm H4 id gen n d1 a b W3 hN4 l7 (by omega) (by omega)) fun w' H5 g5 ⟨hw,V1⟩=>?_;subst hw;replace V1:Hd _:=V1;refine zK tyF ?_;refine m1.out _ _ ?_;exact ⟨b - 1 - (p0 - a),1,_,by omega,by omega,f4.then g5 (fun _ h=>.inr h),V1.out,x1,zL⟩
  have hdi:(vX hh==2)=false:=by cases hh <;> first|rfl|exact absurd rfl hdd
  replace hdd:Hd _:=hdd;refine zW tyF ?_;refine m1.out _ _ ?_;exact ⟨p0,vX hh,d1,D9,C9,f4,W3,Go.Sort.permIn_refl d1 a b,zL⟩
 clear t0 t1 t2 t3 t4 t10 t11 t12 t13 t14 B0 C0 A W3 f4 O2 hN4 hh D9 C9 p0;rintro A H4 ⟨pv,hi,d2,D9,C9,f4,W3,E4,t0,t1,t2,t3,t4,t10,t11,t12,t13,t14,B0,C0⟩;have O2:=W3.lt;have hN4:=zA2 hN f4.nx;have hdz2:d2.size=n:=W3.sz;have hct2:Hd (∀ R,Go.Sort.PermIn a b d2 R→Go.Sort.SortedIn (ltF cf) a b R→Go.Sort.PermIn a0 b0 d R∧Go.Sort.SortedIn (ltF cf) a0 b0 R):=fun R h1 h2=>hct1.out R (Go.Sort.permIn_trans _ _ _ a b E4.out h1) h2;have hBl2:Hd (Go.Sort.Below (ltF cf) a b d2):=hBl1.out.perm (by omega) E4.out;clear hct1 hBl1 E4 hdz1;repeat refine R1.aE ?_
 refine R1.s_h (by kernel_rfl) fun K4 B'=>?_;have key:Hd (∀ (bb:Bool) (A:ab),slot A.tm 75=.one (.b bb)∧slot A.tm 0=.one ((.o (.sl id gen 0 n 2)))∧slot A.tm 1=.one (.i .i64 (a:Int))∧slot A.tm 2=.one (.i .i64 (b:Int))∧slot A.tm 3=.one (.i .i64 (lim:Int))∧slot A.tm 4=.one ((.o (.clo cl [])))∧slot A.tm 10=.one (.b wb)∧slot A.tm 11=.one (.b wp)∧slot A.tm 12=.one (.i .i64 (L:Int))∧slot A.tm 13=.one (.i .i64 (pv:Int))∧A.nt=148∧A.dfr=[]→K4 A H4):=by
  clear t0 t1 t2 t3 t4 t10 t11 t12 t13 t14 B0 C0 A;rintro bb A ⟨t75,t0,t1,t2,t3,t4,t10,t11,t12,t13,B0,C0⟩;refine B'.out _ _ ?_;clear B' K4;refine R1.gX (fun B H5=>∃ (d3:Array α),Fr (fun k=>k=id) H H5∧Srt c H5 id gen n d3∧Hd (Go.Sort.PermIn a b d2 d3)∧slot B.tm 0=.one ((.o (.sl id gen 0 n 2)))∧slot B.tm 1=.one (.i .i64 (a:Int))∧slot B.tm 2=.one (.i .i64 (b:Int))∧slot B.tm 3=.one (.i .i64 (lim:Int))∧slot B.tm 4=.one ((.o (.clo cl [])))∧slot B.tm 10=.one (.b wb)∧slot B.tm 11=.one (.b wp)∧slot B.tm 12=.one (.i .i64 (L:Int))∧slot B.tm 13=.one (.i .i64 (pv:Int))∧B.nt=148∧B.dfr=[]) (fun K5 m1 m2 m3=>?_) ?_
  ·cases bb with
   | true=>
    refine zW tyF ?_;refine zG (qA tyF Vi) fun K6 hK6=>?_;have hx:=Go.Sort.partialInsertionSort_holds hsw d2 a b l7 (by omega) hBl2.out;refine WE.con (Sp hm H4 id gen n d2 a b W3 hN4 l7 (by omega) hn) fun w' H5 g5 ⟨hw,V1⟩=>?_;subst hw;generalize Go.Sort.partialInsertionSort (ltF cf) d2 a b=Z at hx V1 ⊢;obtain ⟨d3,zb⟩:=Z;obtain ⟨x1,x2⟩:=hx;cases zb with
    | true=>
     have F2:=hct2.out _ x1 (x2 rfl);replace x1:Hd _:=x1;replace x2:Hd _:=x2;replace V1:Hd _:=V1;replace F2:Hd _:=F2;refine zK tyF ?_;exact m3.out _ _ (q4.out _ _ (k4.out _ _ (fin _ _ _ _ (.inr rfl) qe (f4.then g5 fun _ h=>.inr h) V1.out F2.out)))
    | false=>
     replace x1:Hd _:=x1;replace x2:Hd _:=x2;replace V1:Hd _:=V1;refine zK tyF ?_;refine m1.out _ _ ?_;exact ⟨d3,f4.then g5 (fun _ h=>.inr h),V1.out,x1,zL⟩
   | false=>
    refine zW tyF ?_;refine m1.out _ _ ?_;exact ⟨d2,f4,W3,Go.Sort.permIn_refl d2 a b,zL⟩
  clear t0 t1 t2 t3 t4 t10 t11 t12 t13 t75 B0 C0 A W3 f4 O2 hN4 bb;rintro A H5 ⟨d3,f5,V1,a9,t0,t1,t2,t3,t4,t10,t11,t12,t13,B0,C0⟩;have hdz3:d3.size=n:=V1.sz;have hct3:Hd (∀ R,Go.Sort.PermIn a b d3 R→Go.Sort.SortedIn (ltF cf) a b R→Go.Sort.PermIn a0 b0 d R∧Go.Sort.SortedIn (ltF cf) a0 b0 R):=fun R h1 h2=>hct2.out R (Go.Sort.permIn_trans _ _ _ a b a9.out h1) h2;have hBl3:Hd (Go.Sort.Below (ltF cf) a b d3):=hBl2.out.perm (by omega) a9.out;clear hct2 hBl2 a9 hdz2;repeat refine R1.aE ?_
  refine R1.s_h (by kernel_rfl) fun K6 hK6=>?_;have key2:Hd (∀ (bb:Bool) (A:ab) (H5:Hp),Fr (fun k=>k=id) H H5→Srt c H5 id gen n d3→(bb=true→0<a∧ltF cf d3[a - 1]! d3[pv]! = false)→slot A.tm 97=.one (.b bb)∧slot A.tm 0=.one ((.o (.sl id gen 0 n 2)))∧slot A.tm 1=.one (.i .i64 (a:Int))∧slot A.tm 2=.one (.i .i64 (b:Int))∧slot A.tm 3=.one (.i .i64 (lim:Int))∧slot A.tm 4=.one ((.o (.clo cl [])))∧slot A.tm 10=.one (.b wb)∧slot A.tm 11=.one (.b wp)∧slot A.tm 12=.one (.i .i64 (L:Int))∧slot A.tm 13=.one (.i .i64 (pv:Int))∧A.nt=148∧A.dfr=[]→K6 A H5):=by
   clear t0 t1 t2 t3 t4 t10 t11 t12 t13 B0 C0 A V1 f5 H5;rintro bb A H5 f5 V1 hbb ⟨t97,t0,t1,t2,t3,t4,t10,t11,t12,t13,B0,C0⟩;refine hK6.out _ _ ?_;clear hK6 K6;have M5:=V1.lt;have hN5:=zA2 hN f5.nx;cases bb with
   | true=>
    obtain ⟨ha0,hnl⟩:=hbb rfl;refine zW tyF ?_;refine zG (qA tyF Xd) fun K7 hK7=>?_;have O4:=UH hm H5 id gen n d3 a b pv V1 hN5 l7 (by omega) (by omega) hn;generalize hx:Go.Sort.partitionEqual (ltF cf) d3 a b pv=Z at O4;obtain ⟨mid,d4⟩:=Z;obtain ⟨y1,y2,y3,y4,y5⟩:=Go.Sort.round_eq hsw (Go.Sort.partitionEqual_holds (ltF cf)) ha0 D9 C9 (by omega) hBl3.out hnl hx;refine WE.con O4 fun w' H6 g6 ⟨hw,R8⟩=>?_;subst hw;have hct4:Hd (∀ R,Go.Sort.PermIn mid b d4 R→Go.Sort.SortedIn (ltF cf) mid b R→Go.Sort.PermIn a0 b0 d R∧Go.Sort.SortedIn (ltF cf) a0 b0 R):=fun R h1 h2=>hct3.out R (y5 R h1 h2).1 (y5 R h1 h2).2;clear O4 y5 hnl hbb;replace hx:Hd _:=hx;replace y3:Hd _:=y3;replace y4:Hd _:=y4;replace R8:Hd (Srt c H6 id gen n d4):=R8;refine zK tyF ?_;refine q2.out _ _ ?_;exact ⟨b - mid,by omega,mid,b,lim,wb,wp,d4,rfl,by omega,y2,hbb0,C5,f5.then g6 (fun _ h=>.inr h),R8.out,y4,hct4,zL⟩
   | false=>
    clear hbb;refine zW tyF ?_;refine zG (qA tyF Vg) fun K7 hK7=>?_;have O4:=Qw hm H5 id gen n d3 a b pv V1 hN5 l7 (by omega) (by omega) hn;generalize hx:Go.Sort.partition (ltF cf) d3 a b pv=Z at O4;obtain ⟨mid,ap,d4⟩:=Z;obtain ⟨y1,y2,y3,y4,y5,y6,y7⟩:=Go.Sort.round_part hsw (Go.Sort.partition_holds (ltF cf)) D9 C9 (by omega) hBl3.out hx;refine WE.con O4 fun w' H6 g6 ⟨hw,R8⟩=>?_;subst hw;replace R8:Srt c H6 id gen n d4:=R8;have i_:=R8.lt;have f6:Fr (fun k=>k=id) H H6:=f5.then g6 fun _ h=>.inr h;have hN6:=zA2 hN f6.nx;have hml:IntKind.i64.wrap ((mid:Int) - (a:Int))=((mid - a:Nat):Int):=by rw[ao (by omega) (by omega)];omega
    have hmr:IntKind.i64.wrap ((b:Int) - (mid:Int))=((b - mid:Nat):Int):=by rw[ao (by omega) (by omega)];omega
    have hm1:=zC0 mid (by omega);have hLe:=hL.out;have hq8:IntKind.i64.wrap ((L:Int).tdiv 8)=((L / 8:Nat):Int):=by rw[Int.tdiv_eq_ediv_of_nonneg (by omega),ao (by omega) (by omega)];omega
    replace hLe:Hd _:=hLe;clear O4;replace hx:Hd _:=hx;replace y3:Hd _:=y3;replace y4:Hd _:=y4;replace y5:Hd _:=y5;replace y6:Hd _:=y6;replace y7:Hd _:=y7;by_cases hlr:mid - a<b - mid
    ·have hlri:((mid - a:Nat):Int)<((b - mid:Nat):Int):=by omega
     replace R8:Hd _:=R8;refine zK tyH ?_;refine zG (qA tyF BD) fun K8 hK8=>?_;refine WE.con (ih.out (mid - a) (by omega) H6 d4 a mid lim (zA1 _) R8.out hN6 (by omega) (by omega) C5 y4.out) fun w' H7 g7 ⟨hw,dL,hs7,pL,sL⟩=>?_;subst hw;obtain ⟨u1,u2⟩:=y6.out dL pL sL;have hct4:Hd (∀ R,Go.Sort.PermIn (mid+1) b dL R→Go.Sort.SortedIn (ltF cf) (mid+1) b R→Go.Sort.PermIn a0 b0 d R∧Go.Sort.SortedIn (ltF cf) a0 b0 R):=fun R h1 h2=>hct3.out R (u2 R h1 h2).1 (u2 R h1 h2).2;clear u2;replace u1:Hd _:=u1;replace hs7:Hd _:=hs7;replace pL:Hd _:=pL;replace sL:Hd _:=sL;refine zK tyH ?_;refine q1.out _ _ ?_;exact ⟨b - (mid+1),by omega,mid+1,b,lim,_,ap,dL,rfl,by omega,by omega,hbb0,C5,f6.then g7 (fun _ h=>.inr h),hs7.out,u1,hct4,zL⟩
    have hlri:¬((mid - a:Nat):Int)<((b - mid:Nat):Int):=by omega
    replace R8:Hd _:=R8;refine zK tyH ?_;refine zG (qA tyF BD) fun K8 hK8=>?_;refine WE.con (ih.out (b - (mid+1)) (by omega) H6 d4 (mid+1) b lim (zA1 _) R8.out hN6 (by omega) (by omega) C5 y5.out) fun w' H7 g7 ⟨hw,dL,hs7,pL,sL⟩=>?_;subst hw;obtain ⟨u1,u2⟩:=y7.out dL pL sL;have hct4:Hd (∀ R,Go.Sort.PermIn a mid dL R→Go.Sort.SortedIn (ltF cf) a mid R→Go.Sort.PermIn a0 b0 d R∧Go.Sort.SortedIn (ltF cf) a0 b0 R):=fun R h1 h2=>hct3.out R (u2 R h1 h2).1 (u2 R h1 h2).2;clear u2;replace u1:Hd _:=u1;replace hs7:Hd _:=hs7;replace pL:Hd _:=pL;replace sL:Hd _:=sL;refine zK tyH ?_;refine q1.out _ _ ?_;exact ⟨mid - a,by omega,a,mid,lim,_,ap,dL,rfl,haa,y1,by omega,C5,f6.then g7 (fun _ h=>.inr h),hs7.out,u1,hct4,zL⟩
  clear hK6;by_cases ha0:0<a
  ·have ha0i:(0:Int)<(a:Int):=by omega
   have hwa:IntKind.i64.wrap ((a:Int) - 1)=((a - 1:Nat):Int):=by rw[ao (by omega) (by omega)];omega
   have M5:=V1.lt;have hN5:=zA2 hN f5.nx;obtain ⟨lo,P2,hg⟩:=V1.row;have lv:=hm.ltH hN5;have W0:=hm.len;have b1:a - 1<n:=by omega
   have b2:pv<n:=by omega
   have e1:a - 1<d3.size:=by omega
   have e2:pv<d3.size:=by omega
   replace hdz3:Hd _:=hdz3;replace e1:Hd _:=e1;replace e2:Hd _:=e2;refine zS (qA tyF (qA (ixC b1) (qA (ixC b2) (rdQ hm.len e1.out e2.out)))) ?_;refine WE.con (hm.con H5 d3[a - 1]! d3[pv]! hN5) fun w' H6 g6 hq=>?_;subst hq;have R8:=V1.fr g6 zB2;have f6:Fr (fun k=>k=id) H H6:=f5.then g6 fun _ h=>h.elim;by_cases T3:cf d3[a - 1]! d3[pv]!<0
   ·refine zS tyF ?_;exact key2.out false _ _ f6 R8 (fun h=>by cases h) zL
   refine zS tyF ?_;exact key2.out true _ _ f6 R8 (fun _=>⟨ha0,decide_eq_false T3⟩) zL
  have ha0i:¬(0:Int)<(a:Int):=by omega
  replace hdz3:Hd _:=hdz3;refine zS tyF ?_;exact key2.out false _ _ f5 V1 (fun h=>by cases h) zL
 clear B';cases wb with
 | false=>
  refine zS tyF ?_;exact key.out false _ zL
 | true=>
 cases wp with
 | false=>
  refine zS tyF ?_;exact key.out false _ zL
 | true=>
  refine zS tyF ?_;exact key.out (hi==1) _ zL
theorem OU (hm:Cmp c cf cl N) (hsw:Go.Sort.SWO (ltF cf)) (H:Hp) (id gen n:Nat) (d:Array α) (hs:Srt c H id gen n d) (hN:N≤H.nx) (hn:n≤65536):
  Con E2 38 [.one (.o (.sl id gen 0 n 2)),.one (.o (.clo cl []))] H (fun k=>k=id) fun r H'=>r=.tup []∧∃ d',Srt c H' id gen n d'∧d'.toList.Perm d.toList∧Go.Sort.SortedIn (ltF cf) 0 n d':=by
 have j5:=hm.bd;refine Con.of rfl fun lg=>?_;have hs:Srt c ⟨H.t,H.nx,lg⟩ id gen n d:=hs;have hN:N≤(⟨H.t,H.nx,lg⟩:Hp).nx:=hN;generalize (⟨H.t,H.nx,lg⟩:Hp)=H at hs hN ⊢;refine C1.body (E:=E2) (nt:=14) (res:=[]) Tryz.func38 rfl rfl rfl rfl rfl fun tm A0=>?_;have h0:=A0 0 _ rfl;have h1:=A0 1 _ rfl;clear A0;have hid:=hs.lt;have R0:=hs.sz;have e1:IntKind.u64.wrap (n:Int)=(n:Int):=uB (by omega);have hb:=ld hn;replace R0:Hd _:=R0;refine zW tyF ?_;refine zG (qA tyU (qA ixS (qA (cvQ jm BP) JA))) fun K hK=>?_;refine WE.con (BW H n hn) fun w' H1 g1 hw=>?_;subst hw;have D5:=hs.fr g1 zB2;have hid1:=D5.lt;refine zS (qA tyF BD) ?_;refine WE.con (Up hm hsw id gen n hn n H1 d 0 n (Go.Sort.bitsLen n) (zA1 _) D5 (zA2 hN g1.nx) (Nat.zero_le _) (zA1 _) (by omega) (.inl rfl)) fun w' H2 g2 ⟨hw,d',I4,hp,p7⟩=>?_;subst hw;replace I4:Hd _:=I4;replace hp:Hd _:=hp;replace p7:Hd _:=p7;refine zK tyF ?_;refine ⟨_,_,cN (.inl rfl) qe,((Fr.refl (X:=fun k=>k=id) H).then g1 fun _ h=>h.elim).then g2 fun _ h=>.inr h,fun _=>⟨rfl,d',I4.out,?_,p7.out⟩⟩;have h3:=hp.out.2.2;have e2:n=d.size:=R0.out.symm;have e3:n=d'.size:=I4.out.1.symm;rw[show d'.extract 0 n=d' from by rw[e3];exact Array.extract_size,show d.extract 0 n=d from by rw[e2];exact Array.extract_size] at h3;exact h3
end
def DigB (us:List Pr) (ds:List Int):Prop:=ds.length=us.length∧∀ i,i<us.length→0≤ds.getD i 0∧(i+1<us.length→ds.getD i 0<(us.getD (i+1) ([],0)).2)
theorem Ob (n:List UInt8) (us:List Pr) (b:Bool) (s t:Int) (x:Gp) (l:List Gp):da n us b s t (x::l)=if (fh n us x.2.1).2≠0 then (0,0,(fh n us x.2.1).2) else if b=true∧t≤(fh n us x.2.1).1 then (0,0,22) else
  da n us true (IntKind.i64.wrap (s+IntKind.i64.wrap (x.1*(fh n us x.2.1).1))) (fh n us x.2.1).1 l:=by rw[da]
theorem VQ (v:Int) (u:Pr) (us:List Pr):yv v (u::us)=if u.2<1∨60<u.2∨1099511627776<v*u.2 then [] else (u,v*u.2)::yv (v*u.2) us:=by rw[yv]
theorem SV {a b:Int} (ha:1≤a) (hb:1≤b):1≤a*b:=by
 have:=Int.mul_pos (show 0<a by omega) (show 0<b by omega);omega
theorem SD:∀ (v:Int) (us:List Pr),1≤v→∀ y∈yv v us,1≤y.2
 | _,[],_=>fun _ h=>absurd h List.not_mem_nil
 | v,u::us,hv=>fun y hy=>by
  unfold yv at hy;by_cases hb:u.2<1∨60<u.2∨1099511627776<v*u.2
  ·rw[zB0 hb] at hy;cases hy
  rw[zB1 hb] at hy;have h1:=SV hv (show 1≤u.2 by omega);rcases List.mem_cons.1 hy with rfl|hy
  ·exact h1
  exact SD _ us h1 y hy
theorem uX (gs:List Gd):∀ (l pre:List (Cl×Int)),(∀ r∈dn gs pre l,∃ (k:Nat) (x:Cl×Int) (fr:Nat),l[k]?=some x∧x.2≠1∧r.1=((pre.length+k:Nat):Int)∧r.2=bR (fP gs x.1.2.1) fr 0 (pre++l.take k))∧List.Pairwise (fun a b:Rl=>a.1<b.1) (dn gs pre l)
 | [],_=>⟨fun _ h=>absurd h List.not_mem_nil,List.Pairwise.nil⟩
 | x::l,pre=>by
  obtain ⟨h1,h2⟩:=uX gs l (pre++[x]);have D6:∀ r∈dn gs (pre++[x]) l,∃ (k:Nat) (z:Cl×Int) (fr:Nat),(x::l)[k+1]?=some z∧z.2≠1∧r.1=((pre.length+(k+1):Nat):Int)∧r.2=bR (fP gs z.1.2.1) fr 0 (pre++(x::l).take (k+1)):=fun r hr=>by
   obtain ⟨k,z,fr,a,b,c,d⟩:=h1 r hr;refine ⟨k,z,fr,by rw[List.getElem?_cons_succ];exact a,b,by rw[c,List.length_append,List.length_singleton];omega,?_⟩;rw[d,List.append_assoc];rfl
  rw[dn];unfold iA;split
  ·rw[List.nil_append];exact ⟨fun r hr=>by obtain ⟨k,z,fr,a⟩:=D6 r hr;exact ⟨k+1,z,fr,a⟩,h2⟩
  rename_i c
  refine ⟨fun r hr=>?_,List.pairwise_cons.2 ⟨fun r hr=>?_,h2⟩⟩
  ·rcases List.mem_cons.1 hr with rfl|hr
   ·exact ⟨0,x,_,rfl,c,rfl,by rw[List.take_zero,List.append_nil]⟩
   obtain ⟨k,z,fr,a⟩:=D6 r hr;exact ⟨k+1,z,fr,a⟩
  obtain ⟨k,z,fr,_,_,e,_⟩:=D6 r hr;show (pre.length:Int)<r.1;rw[e];omega
def Alt (c' c:Cs):Prop:=∃ y,c'=c.amt y∧(y=c.num∨c.kind≠4∧dt y=0∧kg y.1=false)
def InCs (cs:List Cs) (x:Cl):Prop:=∃ (j:Nat) (c:Cs),x.1=(j:Int)∧cs[j]?=some c∧c.kind≠4∧x.2.2.2=c.num
theorem XX {cs:List Cs} {i j:Nat} {y:Nm} (h:i≠j):(sg cs i y)[j]?=cs[j]?:=by
 unfold sg;split
 ·rw[List.getElem?_set_ne h]
 rfl
abbrev Lot:=List UInt8×Int
def bA (x:Lot):List AC:=[.o (.str x.1),.i .i64 x.2]
theorem cX (x:Lot):(bA x).length=2:=rfl
def SlL (H:Hp) (v:AC) (l:List Lot):Prop:=SlC H v 2 l.length (l.flatMap bA)
theorem SlL.gr {H H':Hp} {v:AC} {l:List Lot} (h:SlL H v l) (hg:Gr H H'):SlL H' v l:=SlC.gr h hg
theorem SlL.len {H:Hp} {v:AC} {l:List Lot} (h:SlL H v l):cQ H 1 (.one v)=.val (.one (.i .i64 (l.length:Int))) H:=SlC.len h
theorem SlL.lt {H:Hp} {v:AC} {l:List Lot} (h:SlL H v l):ltV (.one v) H.nx:=kY h
structure WJ (cells:List AC) (o:Nat) (x:Lot):Prop where
 all:(cells.drop o).take 2=bA x
 le:o+2≤cells.length
 le1:o+1≤cells.length
 le2:o+1+1≤cells.length
 fst:(cells.drop o).headD (.b false)=.o (.str x.1)
 snd:(cells.drop (o+1)).headD (.b false)=.i .i64 x.2
theorem EV {cells:List AC} {o:Nat} {x:Lot} (h:(cells.drop o).take 2=bA x) (hl:o+2≤cells.length):WJ cells o x:=by
 refine ⟨h,hl,by omega,by omega,?_,?_⟩
 ·cases hd:cells.drop o with
  | nil=>have:=congrArg List.length hd;simp at this;omega
  | cons a r=>
   rw[hd] at h;cases r with
   | nil=>cases h
   | cons b r=>cases h;rfl
 rw[←List.drop_drop];cases hd:cells.drop o with
 | nil=>have:=congrArg List.length hd;simp at this;omega
 | cons a r=>
  rw[hd] at h;cases r with
  | nil=>cases h
  | cons b r=>cases h;rfl
theorem SlL.open {H:Hp} {v:AC} {l:List Lot} (h:SlL H v l) (hn:0<l.length):∃ id g off cells,v=.o (.sl id g off l.length 2)∧id<H.nx∧rowOf (H.get id) g=some cells∧∀ (i:Nat) (x:Lot),l[i]?=some x→WJ cells (off+i*2) x:=by
 obtain ⟨id,g,off,h1,h2,hr⟩:=SlC.pos h hn;have E3:=hr;obtain ⟨cells,h3,h6,h7⟩:=hr;refine ⟨id,g,off,cells,h1,h2,h3,fun i x hx=>?_⟩;obtain ⟨cells',k3,k6,k7⟩:=Rd.at (c:=bA) cX E3 hx;rw[h3] at k3;cases k3
 exact EV k7 k6
theorem zm (x:List UInt8):bj x []=false:=by cases x <;> rfl
theorem wD (a b:UInt8) (x y:List UInt8):bj (a::x) (b::y)=(decide (a.toNat<b.toNat)||(decide (a.toNat=b.toNat)&&bj x y)):=by
 show ifE (Nat.blt a.toNat b.toNat) true (both (Nat.beq a.toNat b.toNat) (bj x y))=_;rw[cK];by_cases h:a.toNat<b.toNat
 ·have:Nat.blt a.toNat b.toNat=true:=zA5 h;rw[this,decide_eq_true h];rfl
 have h1:Nat.blt a.toNat b.toNat=false:=by
  cases hb:Nat.blt a.toNat b.toNat with
  | false=>rfl
  | true=>exact absurd (zA4 hb) h
 rw[h1,decide_eq_false h];show (Nat.beq a.toNat b.toNat&&bj x y)=_;rw[Nz];rfl
theorem sa:∀ x:List UInt8,bj x x=false
 | []=>rfl
 | a::x=>by rw[wD,sa x];simp
theorem gU:∀ {x y z:List UInt8},bj x y=true→bj y z=true→bj x z=true
 | x,y,[],_,h=>by rw[zm] at h;cases h
 | x,[],c::z,h,_=>by rw[zm] at h;cases h
 | [],b::y,c::z,_,_=>rfl
 | a::x,b::y,c::z,h,k=>by
  rw[wD] at h k ⊢;simp only[Bool.or_eq_true,decide_eq_true_eq,Bool.and_eq_true] at h k ⊢;rcases h with h|⟨h,h'⟩
  ·rcases k with k|⟨k,_⟩
   ·left;omega
   left;omega
  rcases k with k|⟨k,k'⟩
  ·left;omega
  right;exact ⟨by omega,gU h' k'⟩
theorem kK:∀ {x y:List UInt8},bj x y=false→bj y x=false→x=y
 | [],[],_,_=>rfl
 | [],_::_,h,_=>by cases h
 | _::_,[],_,h=>by cases h
 | a::x,b::y,h,k=>by
  rw[wD] at h k;simp only[Bool.or_eq_false_iff,decide_eq_false_iff_not,Bool.and_eq_false_iff] at h k;have e:a.toNat=b.toNat:=by omega
  have hx:=kK (h.2.resolve_left (fun hh=>hh e)) (k.2.resolve_left (fun hh=>hh e.symm));rw[hx,UInt8.toNat_inj.1 e]
theorem Ey {x y:List UInt8} (h:bj x y=true):x≠y:=fun e=>by subst e;rw[sa] at h;cases h
def qg:List Lot→Prop
 | []=>True
 | x::l=>(∀ y∈l,bj x.1 y.1=true)∧x.2≠0∧qg l
def amt:List Lot→List UInt8→Int
 | [],_=>0
 | x::l,s=>if x.1=s then x.2 else amt l s
theorem nh {s:List UInt8}:∀ {l:List Lot},(∀ y∈l,bj s y.1=true)→amt l s=0
 | [],_=>rfl
 | y::l,h=>by
  unfold amt;rw[zB1 fun e=>Ey (h y (List.mem_cons_self ..)) e.symm];exact nh fun z hz=>h z (List.mem_cons_of_mem _ hz)
theorem kA (x:Lot) (l:List Lot):amt (x::l) x.1=x.2:=zB0 rfl
theorem Br {x:Lot} {l:List Lot} {s:List UInt8} (h:x.1≠s):amt (x::l) s=amt l s:=zB1 h
theorem uC {x y:Lot} {b:List Lot} (h:bj x.1 y.1=true) (hb:qg (y::b)):∀ z∈y::b,bj x.1 z.1=true:=fun z hz=>by
 rcases List.mem_cons.1 hz with rfl|hz
 ·exact h
 exact gU h (hb.1 z hz)
theorem BH:∀ {a b:List Lot},qg a→qg b→(∀ s,amt a s=amt b s)→a=b
 | [],[],_,_,_=>rfl
 | [],y::b,_,hb,h=>by
  have:=h y.1;rw[kA] at this;exact absurd this.symm hb.2.1
 | x::a,[],ha,_,h=>by
  have:=h x.1;rw[kA] at this;exact absurd this ha.2.1
 | x::a,y::b,ha,hb,h=>by
  cases hxy:bj x.1 y.1 with
  | true=>
   have:=h x.1;rw[kA,nh (uC hxy hb)] at this;exact absurd this ha.2.1
  | false=>
   cases hyx:bj y.1 x.1 with
   | true=>
    have:=h y.1;rw[kA,nh (uC hyx ha)] at this;exact absurd this.symm hb.2.1
   | false=>
    have e1:=kK hxy hyx;have e2:=h x.1;rw[kA,e1,kA] at e2;have e3:a=b:=BH ha.2.2 hb.2.2 fun s=>by
     by_cases e:x.1=s
     ·subst e;rw[nh ha.1,e1,nh hb.1]
     have:=h s;rwa [Br (x:=x) e,Br (x:=y) (by rw[←e1];exact e)] at this
    rw[e3,show x=y from Prod.ext e1 e2]
theorem VN:ak Tryz.prog 39=true:=by kernel_rfl
def cfL (x y:Lot):Int:=if bj x.1 y.1=true then -1 else 1
theorem Ra (H:Hp) (x y:Lot):Con E2 39 [.agg (bA x),.agg (bA y)] H (fun _=>False) fun r _=>r=.one (.i .i64 (cfL x y)):=by
 refine Con.of rfl fun lg=>?_;generalize (⟨H.t,H.nx,lg⟩:Hp)=H;obtain ⟨x1,x2⟩:=x;obtain ⟨y1,y2⟩:=y;show C1 E2 _ [.agg [.o (.str x1),.i .i64 x2],.agg [.o (.str y1),.i .i64 y2]] H fun v h'=>Fr _ H h'∧∀ _:List Nat,v=.one (.i .i64 (if bj x1 y1=true then -1 else 1));refine C1.body (E:=E2) (nt:=10) (res:=[.tmp 4]) Tryz.func39 rfl rfl rfl rfl rfl fun tm A0=>?_;have h0:=A0 0 _ rfl;have h1:=A0 1 _ rfl;clear A0;generalize E0:(if bj x1 y1=true then (-1:Int) else 1)=r0;have fin:∀ (b:Int) (A:ab) (H3:Hp),slot A.tm 4=.one (.i .i64 b)→A.dfr=[]→Gr H H3→b=r0→∃ w H4,an E2 [.tmp 4] (.ret,A,H3)=.ok [(w,H4)]∧Gr H H4∧∀ _:List Nat,w=.one (.i .i64 r0):=fun b A H3 h1 hd hg hb=>
  ⟨_,H3,ah (.i .i64 b) (.inr rfl) hd h1,hg,fun _=>by rw[hb]⟩
 replace fin:Hd _:=fin;cases hb:bj x1 y1 with
 | true=>
  have e:(-1:Int)=r0:=by rw[←E0,zB0 hb]
  clear E0;replace e:Hd _:=e;refine zW tyF ?_;exact fin.out (-1) _ _ qp qe (((Fr.refl _).new _).new _) e.out
 | false=>
  have e:(1:Int)=r0:=by rw[←E0,zB1 (by rw[hb];exact zA8)]
  clear E0;replace e:Hd _:=e;refine zW tyF ?_;exact fin.out 1 _ _ qp qe (((Fr.refl _).new _).new _) e.out
theorem cmpL:Cmp bA cfL 39 0 where
 len:=fun x=>rfl
 lt:=fun x i hi=>by
  obtain ⟨x1,x2⟩:=x;have:i∈([]:List Nat):=hi;cases this
 bd:=VN
 con:=fun H x y _=>Ra H x y
theorem KV (x y:Lot):ltF cfL x y=bj x.1 y.1:=by
 unfold ltF cfL;cases h:bj x.1 y.1 with
 | true=>rfl
 | false=>rfl
theorem swoL:Go.Sort.SWO (ltF cfL) where
 irrefl:=fun x=>by rw[KV];exact sa x.1
 trans:=fun x y z h1 h2=>by
  rw[KV] at *;exact gU h1 h2
 ntrans:=fun x y z h1 h2=>by
  rw[KV] at *;cases h:bj x.1 z.1 with
  | false=>rfl
  | true=>
   cases h3:bj y.1 x.1 with
   | true=>rw[gU h3 h] at h2;cases h2
   | false=>rw[kK h1 h3,h2] at h;cases h
theorem Vu (H:Hp) (cl:FuncId):Con E2 146 [.one (.o .nilS),.one (.i .i64 0),.one (.i .i64 0),.one (.o (.clo cl []))] H (fun _=>False) fun r _=>r=.tup []:=by
 refine Con.of rfl fun lg=>?_;generalize (⟨H.t,H.nx,lg⟩:Hp)=H;refine C1.body (E:=E2) (nt:=53) (res:=[]) Tryz.func146 rfl rfl rfl rfl rfl fun tm A0=>?_;have h0:=A0 0 _ rfl;have h1:=A0 1 _ rfl;have h2:=A0 2 _ rfl;have h3:=A0 3 _ rfl;clear A0;have hw:IntKind.i64.wrap (0+1)=1:=by decide
 refine zW tyF ?_;refine R1.dZ fun K k1 k2 k3 k4=>?_;refine R1.loop (fun z A H1=>Gr H H1∧slot A.tm 2=.one (.i .i64 (0:Int))∧slot A.tm 8=.one (.i .i64 (1:Int))∧A.nt=53∧A.dfr=[]) ?_ 0 ⟨Fr.refl _,zL⟩;clear h0 h1 h2 h3 tm k3;rintro z A H1 ⟨g1,t2,t8,B0,C0⟩;have hc:¬(1:Int)<0:=by decide
 refine zW tyF ?_;refine k2.out _ _ ?_;exact ⟨_,_,cN (.inl rfl) qe,g1,fun _=>rfl⟩
theorem UQ (H:Hp) (cl:FuncId):Con E2 86 [.one (.o .nilS),.one (.i .i64 0),.one (.i .i64 0),.one (.i .i64 0),.one (.o (.clo cl []))] H (fun _=>False) fun r _=>r=.tup []:=by
 refine Con.of rfl fun lg=>?_;generalize (⟨H.t,H.nx,lg⟩:Hp)=H;refine C1.body (E:=E2) (nt:=148) (res:=[]) Tryz.func86 rfl rfl rfl rfl rfl fun tm A0=>?_;have h0:=A0 0 _ rfl;have h1:=A0 1 _ rfl;have h2:=A0 2 _ rfl;have h3:=A0 3 _ rfl;have h4:=A0 4 _ rfl;clear A0;have hw:IntKind.i64.wrap (0 - 0)=0:=by decide
 refine zW tyF ?_;refine R1.dZ fun K k1 k2 k3 k4=>?_;refine R1.loop (fun z A H1=>Gr H H1∧slot A.tm 0=.one ((.o .nilS))∧slot A.tm 1=.one (.i .i64 (0:Int))∧slot A.tm 2=.one (.i .i64 (0:Int))∧slot A.tm 4=.one ((.o (.clo cl [])))∧A.nt=148∧A.dfr=[]) ?_ 0 ⟨Fr.refl _,zL⟩;clear h0 h1 h2 h3 h4 tm k3;rintro z A H1 ⟨g1,t0,t1,t2,t4,B0,C0⟩;have hc:(0:Int)≤12:=by decide
 refine R1.dZ fun K2 q1 q2 q3 q4=>?_;refine zW tyF ?_;refine zG (qA tyF QE) fun K5 x8=>?_;refine WE.con (Vu H1 cl) fun w' H2 g2 S1=>?_;subst S1;refine zK tyF ?_;exact q4.out _ _ (k4.out _ _ ⟨_,_,cN (.inr rfl) qe,g1.gr g2,fun _=>rfl⟩)
theorem Pd (H:Hp) (cl:FuncId):Con E2 38 [.one (.o .nilS),.one (.o (.clo cl []))] H (fun _=>False) fun r _=>r=.tup []:=by
 refine Con.of rfl fun lg=>?_;generalize (⟨H.t,H.nx,lg⟩:Hp)=H;refine C1.body (E:=E2) (nt:=14) (res:=[]) Tryz.func38 rfl rfl rfl rfl rfl fun tm A0=>?_;have h0:=A0 0 _ rfl;have h1:=A0 1 _ rfl;clear A0;have e1:IntKind.u64.wrap 0=0:=uB (x:=0) (by decide);have hlen:=BW H 0 (by decide);rw[show ((0:Nat):Int)=0 from rfl,show ((Go.Sort.bitsLen 0:Nat):Int)=0 from rfl] at hlen;replace hlen:Hd (Con E2 _ _ _ _ _):=hlen;refine zW tyF ?_;refine zG (qA tyU (qA ixS (qA (cvQ jm BP) JA))) fun K hK=>?_;refine WE.con hlen.out fun w' H1 g1 hw=>?_;subst hw;clear hlen;refine zS (qA tyF BD) ?_;refine WE.con (UQ H1 cl) fun w' H2 g2 hw=>?_;subst hw;refine zK tyF ?_;exact ⟨_,_,cN (.inl rfl) qe,g1.gr g2,fun _=>rfl⟩
theorem Vp {l:List Lot} (hp:List.Pairwise (fun x y:Lot=>bj y.1 x.1=false) l) (hd:List.Pairwise (fun x y:Lot=>x.1≠y.1) l) (h0:∀ x∈l,x.2≠0):qg l:=by
 induction l with
 | nil=>trivial
 | cons x l ih=>
  obtain ⟨p1,p2⟩:=List.pairwise_cons.1 hp;obtain ⟨d1,d2⟩:=List.pairwise_cons.1 hd;refine ⟨fun y hy=>?_,h0 x (List.mem_cons_self ..),ih p2 d2 fun z hz=>h0 z (List.mem_cons_of_mem _ hz)⟩;cases h:bj x.1 y.1 with
  | true=>rfl
  | false=>exact absurd (kK h (p1 y hy)) (d1 y hy)
theorem Ol (H:Hp) (id gen lo:Nat) (l:List Lot) (hg:H.get id=some (.arr (l.flatMap bA) 92 lo gen)) (P2:lo≤gen) (hid:id<H.nx) (hn:l.length≤4096):
  Con E2 38 [.one (.o (.sl id gen 0 l.length 2)),.one (.o (.clo 39 []))] H (fun k=>k=id) fun q H'=>q=.tup []∧∃ out lo',lo'≤gen∧H'.get id=some (.arr (out.flatMap bA) 92 lo' gen)∧id<H'.nx∧out.Perm l∧List.Pairwise (fun x y:Lot=>bj y.1 x.1=false) out:=by
 have hd:Srt bA H id gen l.length l.toArray:=⟨by rw[List.size_toArray],⟨lo,P2,by rw[hg];unfold eI;rw[List.toList_toArray]⟩,hid⟩;intro lg;refine N1.mono (OU cmpL swoL H id gen l.length _ hd (Nat.zero_le _) (by omega) lg) fun w h' ⟨h1,h2⟩=>⟨h1,fun lg'=>?_⟩;obtain ⟨h3,d',h4,h5,h6⟩:=h2 lg';obtain ⟨lo',hlo',J2⟩:=h4.row;refine ⟨h3,d'.toList,lo',hlo',J2,h4.lt,?_,?_⟩
 ·rw[List.toList_toArray] at h5;exact h5
 rw[List.pairwise_iff_getElem];intro i j hi hj L4;rw[Array.length_toList,h4.sz] at hi hj;have h7:=h6 i j (Nat.zero_le _) L4 hj;have W9:i<d'.size:=by rw[h4.sz];exact hi
 have hj':j<d'.size:=by rw[h4.sz];exact hj
 rw[getElem!_pos d' i W9,getElem!_pos d' j hj',KV] at h7;rw[Array.getElem_toList,Array.getElem_toList];exact h7
theorem VU {nm:List UInt8} {us:List Pr} {s:List UInt8} (h:(fh nm us s).2=0):1≤(fh nm us s).1∧(fh nm us s).1≤1099511627776:=by
 unfold fh at h ⊢;by_cases q8:bE nm us≠0
 ·rw[zB0 q8] at h;exact absurd h q8
 rw[zB1 q8] at h ⊢;have key:∀ (l:List (Pr×Int)),(∀ y∈l,1≤y.2∧y.2≤1099511627776)→(tF l s).2=0→1≤(tF l s).1∧(tF l s).1≤1099511627776:=fun l=>by
  induction l with
  | nil=>intro _ h;cases h
  | cons y l ih=>
   intro hy h;rw[tF] at h ⊢;by_cases e:y.1.1=s
   ·rw[zB0 e];exact hy y (List.mem_cons_self ..)
   rw[zB1 e] at h ⊢;exact ih (fun z hz=>hy z (List.mem_cons_of_mem _ hz)) h
 refine key _ (fun y hy=>⟨SD 1 us (Int.le_refl _) y hy,?_⟩) h;have top:∀ (v:Int) (us:List Pr),∀ y∈yv v us,y.2≤1099511627776:=fun v us=>by
  induction us generalizing v with
  | nil=>intro y hy;cases hy
  | cons u us ih=>
   intro y hy;rw[VQ] at hy;by_cases hb:u.2<1∨60<u.2∨1099511627776<v*u.2
   ·rw[zB0 hb] at hy;cases hy
   rw[zB1 hb] at hy;rcases List.mem_cons.1 hy with rfl|hy
   ·show v*u.2≤_;omega
   exact ih _ y hy
 exact top 1 us y hy
theorem CD (nm:List UInt8) (us:List Pr):∀ (l:List Gp) (b:Bool) (s t:Int),(∀ g∈l,1≤g.1∧g.1≤99)→0≤s→s+l.length*108851651149824≤4611686018427387904→(da nm us b s t l).2.2=0 →
  s≤(da nm us b s t l).1∧(l≠[]→1≤(da nm us b s t l).2.1∧(da nm us b s t l).2.1≤(da nm us b s t l).1)
 | [],b,s,t,_,_,_,_=>⟨Int.le_refl _,fun h=>absurd rfl h⟩
 | x::l,b,s,t,hg,h0,hs,h=>by
  rw[Ob] at h ⊢;by_cases h1:(fh nm us x.2.1).2≠0
  ·rw[zB0 h1] at h;exact absurd h h1
  rw[zB1 h1] at h ⊢;by_cases h2:b=true∧t≤(fh nm us x.2.1).1
  ·rw[zB0 h2] at h;cases h
  rw[zB1 h2] at h ⊢;obtain ⟨v1,v2⟩:=VU (Classical.byContradiction h1);obtain ⟨c1,c2⟩:=hg x (List.mem_cons_self ..);generalize (fh nm us x.2.1).1=v at h v1 v2 ⊢;have m1:1*v≤x.1*v:=Int.mul_le_mul_of_nonneg_right c1 (by omega);have m2:x.1*v≤99*v:=Int.mul_le_mul_of_nonneg_right c2 (by omega);have hl:((x::l).length:Int)=(l.length:Int)+1:=by rw[List.length_cons];omega
  rw[hl] at hs;have l9:(0:Int)≤(l.length:Int):=by omega
  have w1:IntKind.i64.wrap (x.1*v)=x.1*v:=ao (by omega) (by omega);have w2:IntKind.i64.wrap (s+x.1*v)=s+x.1*v:=ao (by omega) (by omega);rw[w1,w2] at h ⊢;obtain ⟨a1,a2⟩:=CD nm us l true (s+x.1*v) v (fun g J2=>hg g (List.mem_cons_of_mem _ J2)) (by omega) (by omega) h;refine ⟨by omega,fun _=>?_⟩;by_cases hn:l=[]
  ·subst hn;show 1≤v∧v≤s+x.1*v;omega
  exact a2 hn
theorem og (less:Bool):∀ (l acc:List Gp),de less acc l=0→∀ x∈l,(1≤x.1∧x.1≤99)∨(lT x=true∧less=false)
 | [],_,_=>fun _ h=>absurd h List.not_mem_nil
 | y::l,acc,h=>fun x hx=>by
  rw[de] at h;by_cases hg:lT y=true
  ·rw[zB0 hg] at h;by_cases hl:less=true
   ·rw[zB0 hl] at h;cases h
   rw[zB1 hl] at h;by_cases hp:Wd acc=true
   ·rw[zB0 hp] at h;cases h
   rw[zB1 hp] at h;rcases List.mem_cons.1 hx with rfl|hx
   ·exact .inr ⟨hg,by simpa using hl⟩
   exact og less l _ h x hx
  rw[zB1 hg] at h;by_cases h1:nmB y.2.1=false
  ·rw[zB0 h1] at h;cases h
  rw[zB1 h1] at h;by_cases h2:y.1<1∨(99:Int)<y.1
  ·rw[zB0 h2] at h;cases h
  rw[zB1 h2] at h;by_cases h3:tH acc y.2.1=true
  ·rw[zB0 h3] at h;cases h
  rw[zB1 h3] at h;by_cases h4:(less&&y.2.2)=true
  ·rw[zB0 h4] at h;cases h
  rw[zB1 h4] at h;rcases List.mem_cons.1 hx with rfl|hx
  ·exact .inl (by omega)
  exact og less l _ h x hx
theorem Dx {x:Nm} (h:dt x=0):x.1.length≤24∧x.2.length≤24∧x.1≠[]∧de false [] x.1=0∧de true [] x.2=0:=by
 obtain ⟨l1,l2⟩:=rV h;unfold dt at h;rw[zB1 (by omega)] at h;by_cases h1:x.1.length=0
 ·rw[zB0 h1] at h;cases h
 rw[zB1 h1] at h;by_cases h2:de false [] x.1≠0
 ·rw[zB0 h2] at h;exact absurd h h2
 rw[zB1 h2] at h;by_cases h3:de true [] x.2≠0
 ·rw[zB0 h3] at h;exact absurd h h3
 exact ⟨l1,l2,fun e=>h1 (by rw[e];rfl),Classical.byContradiction h2,Classical.byContradiction h3⟩
theorem TZ {nm:List UInt8} {us:List Pr} {x:Nm} (h:(eu nm us x).2=0):1≤(eu nm us x).1∧(eu nm us x).1≤1099511627776:=by
 unfold eu at h ⊢;by_cases h1:bE nm us≠0
 ·rw[zB0 h1] at h;exact absurd h h1
 rw[zB1 h1] at h ⊢;by_cases h2:dt x≠0
 ·rw[zB0 h2] at h;exact absurd h h2
 rw[zB1 h2] at h ⊢;by_cases h3:kg x.1=true
 ·rw[zB0 h3] at h;cases h
 rw[zB1 h3] at h ⊢;by_cases h4:(da nm us false 0 0 x.1).2.2≠0
 ·rw[zB0 h4] at h;exact absurd h h4
 rw[zB1 h4] at h ⊢;by_cases h5:(1099511627776:Int)<(da nm us false 0 0 x.1).1
 ·rw[zB0 h5] at h;cases h
 rw[zB1 h5] at h ⊢;by_cases h6:(da nm us false 0 0 x.2).2.2≠0
 ·rw[zB0 h6] at h;exact absurd h h6
 rw[zB1 h6] at h ⊢;by_cases h7:(da nm us false 0 0 x.1).2.1≤(da nm us false 0 0 x.2).1
 ·rw[zB0 h7] at h;cases h
 rw[zB1 h7];obtain ⟨l1,l2,n1,g1,g2⟩:=Dx (Classical.byContradiction h2);have c1:∀ g∈x.1,1≤g.1∧g.1≤99:=fun g hg=>by
  rcases og false x.1 [] g1 g hg with h|⟨h,_⟩
  ·exact h
  exact absurd (List.any_eq_true.2 ⟨g,hg,by rw[h];rfl⟩) h3
 have c2:∀ g∈x.2,1≤g.1∧g.1≤99:=fun g hg=>by
  rcases og true x.2 [] g2 g hg with h|⟨_,h⟩
  ·exact h
  cases h
 obtain ⟨a1,a2⟩:=CD nm us x.1 false 0 0 c1 (Int.le_refl _) (by omega) (Classical.byContradiction h4);obtain ⟨b1,_⟩:=CD nm us x.2 false 0 0 c2 (Int.le_refl _) (by omega) (Classical.byContradiction h6);obtain ⟨a3,a4⟩:=a2 n1;show 1≤IntKind.i64.wrap _∧IntKind.i64.wrap _≤_;rw[ao (by omega) (by omega)];omega
theorem GN {o:Option (List Lad)} {x:Cl} (h:(iy o x).2=0):1≤(iy o x).1∧(iy o x).1≤1099511627776:=by
 unfold iy at h ⊢;by_cases h1:fT o x.2.2.1≠0
 ·rw[zB0 h1] at h;exact absurd h h1
 rw[zB1 h1] at h ⊢;exact TZ h
def jU:List Lot→List UInt8→Int→List Lot
 | [],s,n=>[(s,n)]
 | p::l,s,n=>if p.1=s then (p.1,p.2+n)::l else p::jU l s n
theorem HT (s:List UInt8) (n:Int) (t:List UInt8):∀ l:List Lot,amt (jU l s n) t=amt l t+(if s=t then n else 0)
 | []=>by
  show (if s=t then n else 0)=0+_;omega
 | p::l=>by
  rw[jU];by_cases h:p.1=s
  ·rw[zB0 h];show (if p.1=t then p.2+n else amt l t)=(if p.1=t then p.2 else amt l t)+_;rw[h];by_cases ht:s=t
   ·rw[zB0 ht,zB0 ht,zB0 ht]
   rw[zB1 ht,zB1 ht,zB1 ht];omega
  rw[zB1 h];show (if p.1=t then p.2 else amt (jU l s n) t)=(if p.1=t then p.2 else amt l t)+_;rw[HT s n t l];by_cases ht:p.1=t
  ·rw[zB0 ht,zB0 ht,zB1 (fun e=>h (ht.trans e.symm))];omega
  rw[zB1 ht,zB1 ht]
theorem vk (s:List UInt8) (n:Int):∀ (l:List Lot) (p:Lot),p∈jU l s n→p∈l∨p=(s,amt l s+n)
 | [],p,h=>by rw[List.mem_singleton.1 h];right;show (s,n)=(s,0+n);rw[Int.zero_add]
 | q::l,p,h=>by
  rw[jU] at h;by_cases hq:q.1=s
  ·rw[zB0 hq] at h;rcases List.mem_cons.1 h with rfl|h
   ·right;show (q.1,q.2+n)=(s,(if q.1=s then q.2 else amt l s)+n);rw[zB0 hq,hq]
   exact .inl (List.mem_cons_of_mem _ h)
  rw[zB1 hq] at h;rcases List.mem_cons.1 h with rfl|h
  ·exact .inl (List.mem_cons_self ..)
  rcases vk s n l p h with h|h
  ·exact .inl (List.mem_cons_of_mem _ h)
  right;rw[h];show (s,amt l s+n)=(s,(if q.1=s then q.2 else amt l s)+n);rw[zB1 hq]
theorem FC (s:List UInt8) (n:Int):∀ (l:List Lot) (p:Lot),p∈jU l s n→p.1=s∨∃ q∈l,q.1=p.1:=fun l p h=>by
 rcases vk s n l p h with h|h
 ·exact .inr ⟨p,h,rfl⟩
 exact .inl (by rw[h])
theorem Mn (s:List UInt8) (n:Int):∀ (l:List Lot),List.Pairwise (fun x y:Lot=>x.1≠y.1) l→List.Pairwise (fun x y:Lot=>x.1≠y.1) (jU l s n)
 | [],_=>List.pairwise_singleton _ _
 | q::l,h=>by
  obtain ⟨h1,h2⟩:=List.pairwise_cons.1 h;rw[jU];by_cases hq:q.1=s
  ·rw[zB0 hq];exact List.pairwise_cons.2 ⟨fun y hy=>h1 y hy,h2⟩
  rw[zB1 hq];refine List.pairwise_cons.2 ⟨fun y hy=>?_,Mn s n l h2⟩;rcases FC s n l y hy with h|⟨z,hz,e⟩
  ·rw[h];exact hq
  rw[←e];exact h1 z hz
theorem IA (s:List UInt8) (n:Int):∀ (l:List Lot),(jU l s n).length≤l.length+1
 | []=>zA1 _
 | q::l=>by
  rw[jU];split
  ·rw[List.length_cons,List.length_cons];omega
  have:=IA s n l;rw[List.length_cons,List.length_cons];omega
def qJ (o:Option (List Lad)):List Cl→List Lot→List Lot×Int
 | [],acc=>(acc,0)
 | x::l,acc=>if (iy o x).2≠0 then ([],(iy o x).2) else qJ o l (jU acc x.2.1 (iy o x).1)
structure lP (l:List Lot) (j:Nat):Prop where
 pw:List.Pairwise (fun x y:Lot=>x.1≠y.1) l
 bd:∀ p∈l,1≤p.2∧p.2≤j*1099511627776
 len:l.length≤j
theorem lP.nil:lP [] 0:=⟨List.Pairwise.nil,fun _ h=>absurd h List.not_mem_nil,zA1 _⟩
theorem CV {l:List Lot} {j:Nat} (h:∀ p∈l,1≤p.2∧p.2≤j*1099511627776) (s:List UInt8):0≤amt l s∧amt l s≤j*1099511627776:=by
 induction l with
 | nil=>exact ⟨Int.le_refl _,by show (0:Int)≤_;omega⟩
 | cons p l ih=>
  rw[amt];split
  ·have:=h p (List.mem_cons_self ..);omega
  exact ih fun q hq=>h q (List.mem_cons_of_mem _ hq)
theorem lP.add {l:List Lot} {j:Nat} (h:lP l j) (s:List UInt8) {n:Int} (h1:1≤n) (h2:n≤1099511627776):lP (jU l s n) (j+1):=by
 refine ⟨Mn s n l h.pw,fun p hp=>?_,by have:=IA s n l;have:=h.len;omega⟩;rcases vk s n l p hp with hp|rfl
 ·have:=h.bd p hp;omega
 have:=CV h.bd s;show 1≤amt l s+n∧amt l s+n≤_;omega
def mG (l:List Lot):Bool:=l.any fun p=>decide (1099511627776<p.2)
def mP (K:List (Cl×Int)):List Cl:=(K.filter fun x=>decide (x.2=1)).map Prod.fst
def tM (o:Option (List Lad)) (gs:List Gd) (t:Tb):List Lot×Int:=
 if eY o gs t≠0 then ([],eY o gs t) else if (qJ o (mP (fQ o gs t)) []).2≠0 then ([],(qJ o (mP (fQ o gs t)) []).2) else
 if mG (qJ o (mP (fQ o gs t)) []).1=true then ([],6) else ((qJ o (mP (fQ o gs t)) []).1,0)
def pB (e:List Lot×Int) (out:List Lot):Prop:=(e.2≠0→out=[])∧(e.2=0→qg out∧∀ s,amt out s=amt e.1 s)∧out.length≤1000000
theorem pB.one {e:List Lot×Int} {a b:List Lot} (ha:pB e a) (hb:pB e b):a=b:=by
 by_cases h:e.2=0
 ·obtain ⟨a1,a2⟩:=ha.2.1 h;obtain ⟨b1,b2⟩:=hb.2.1 h;exact BH a1 b1 fun s=>(a2 s).trans (b2 s).symm
 rw[ha.1 h,hb.1 h]
theorem lG {l:List Lot} (h:List.Pairwise (fun x y:Lot=>x.1≠y.1) l) {p:Lot} (hp:p∈l):amt l p.1=p.2:=by
 induction l with
 | nil=>cases hp
 | cons q l ih=>
  obtain ⟨h1,h2⟩:=List.pairwise_cons.1 h;rcases List.mem_cons.1 hp with rfl|hp
  ·exact zB0 rfl
  rw[amt,zB1 (h1 p hp)];exact ih h2 hp
theorem su {l:List Lot} {s:List UInt8} (h:∀ p∈l,p.1≠s):amt l s=0:=by
 induction l with
 | nil=>rfl
 | cons q l ih=>
  rw[amt,zB1 (h q (List.mem_cons_self ..))];exact ih fun p hp=>h p (List.mem_cons_of_mem _ hp)
theorem Uw {l:List Lot} {s:List UInt8} (h:amt l s≠0):∃ p∈l,p.1=s:=Classical.byContradiction fun hn=>h (su fun p hp e=>hn ⟨p,hp,e⟩)
theorem PO {l k:List Lot} (hp:k.Perm l) (h:List.Pairwise (fun x y:Lot=>x.1≠y.1) l) (s:List UInt8):amt k s=amt l s:=by
 have hk:List.Pairwise (fun x y:Lot=>x.1≠y.1) k:=(hp.pairwise_iff fun {x y} h=>fun e=>h e.symm).2 h;by_cases hm:∃ p∈l,p.1=s
 ·obtain ⟨p,J4,rfl⟩:=hm;rw[lG h J4,lG hk (hp.mem_iff.2 J4)]
 rw[su fun p B7 e=>hm ⟨p,B7,e⟩,su fun p hpk e=>hm ⟨p,hp.mem_iff.1 hpk,e⟩]
theorem Gx:ak Tryz.prog 38=true:=by kernel_rfl
theorem JU:ak Tryz.prog 12=true:=by kernel_rfl
theorem SlL.nil {H:Hp}:SlL H (.o .nilS) []:=⟨by simp,.inl ⟨rfl,rfl⟩⟩
abbrev kvS:List UInt8→AV:=fun s=>.one (.o (.str s))
theorem WQ:QJ Tryz.prog 9 kvS:=Ux wV
def iP (l:List Lot):List (List UInt8×AC):=l.map fun p=>(p.1,.i .i64 p.2)
theorem FB (l:List Lot):(iP l).length=l.length:=List.length_map ..
theorem Uh (H:Hp) (s:List UInt8):∀ l:List Lot,(match atG (iP l) s with|some v=>bG H false (.one v) true|none=>bG H false (.one (.i .i64 0)) false)=.val (.one (.i .i64 (amt l s))) H
 | []=>rfl
 | p::l=>by
  have ih:=Uh H s l;have e:atG (iP (p::l)) s=if p.1=s then some (.i .i64 p.2) else atG (iP l) s:=rfl;rw[e,amt];by_cases h:p.1=s
  ·rw[zB0 h,zB0 h];rfl
  rw[zB1 h,zB1 h];exact ih
theorem LP (s:List UInt8) (n:Int):∀ l:List Lot,hT (iP l) s (.i .i64 (amt l s+n))=iP (jU l s n)
 | []=>by show [(s,AC.i .i64 (0+n))]=[(s,AC.i .i64 n)];rw[Int.zero_add]
 | p::l=>by
  have ih:=LP s n l;have e:hT (iP (p::l)) s (.i .i64 (amt (p::l) s+n))=if p.1=s then (s,.i .i64 (amt (p::l) s+n))::iP l else (p.1,.i .i64 p.2)::hT (iP l) s (.i .i64 (amt (p::l) s+n)):=rfl;rw[e,jU,amt];by_cases h:p.1=s
  ·rw[zB0 h,zB0 h,zB0 h,←h];rfl
  rw[zB1 h,zB1 h,zB1 h,ih];rfl
def cellAt (lc:List Cl) (i:Int):Cl:=(lc[i.toNat]?).getD (0,[],[],[],[])
theorem Ly (lc:List Cl):∀ (k:Nat) (l:List (Cl×Int)),lc.drop k=l.map Prod.fst→(bu k l).map (cellAt lc)=mP l
 | _,[],_=>rfl
 | k,x::l,h=>by
  have h0:lc[k]?=some x.1:=by
   have:(lc.drop k)[0]?=some x.1:=by rw[h];rfl
   rw[List.getElem?_drop] at this;exact this
  have h1:lc.drop (k+1)=l.map Prod.fst:=by rw[←List.drop_drop,h];rfl
  have ih:=Ly lc (k+1) l h1;have hc:cellAt lc ((k:Nat):Int)=x.1:=by unfold cellAt;rw[Int.toNat_natCast,h0];rfl
  have e:mP (x::l)=if x.2=1 then x.1::mP l else mP l:=by
   unfold mP;rw[List.filter_cons];by_cases hx:x.2=1
   ·rw[zB0 (decide_eq_true hx),zB0 hx];rfl
   rw[zB1 (by simpa using hx),zB1 hx]
  rw[e,bu];by_cases hx:x.2=1
  ·rw[zB0 hx,zB0 hx,List.map_cons,hc,ih]
  rw[zB1 hx,zB1 hx,ih]
def mc:List Lot→Lot→List Lot
 | [],x=>[x]
 | y::l,x=>if bj y.1 x.1=true then y::mc l x else x::y::l
theorem vc (x:Lot):∀ (l:List Lot) (z:Lot),z∈mc l x↔z=x∨z∈l
 | [],z=>by simp[mc]
 | y::l,z=>by
  rw[mc];split
  ·rw[List.mem_cons,vc x l z,List.mem_cons];exact ⟨fun h=>h.elim (fun h=>.inr (.inl h)) fun h=>h.elim .inl fun h=>.inr (.inr h),fun h=>h.elim (fun h=>.inr (.inl h)) fun h=>h.elim .inl fun h=>.inr (.inr h)⟩
  rw[List.mem_cons]
theorem wu (x:Lot) (hx:x.2≠0):∀ (l:List Lot),qg l→(∀ y∈l,y.1≠x.1)→qg (mc l x)
 | [],_,_=>⟨fun _ h=>absurd h List.not_mem_nil,hx,trivial⟩
 | y::l,h,hn=>by
  rw[mc];split
  ·rename_i hl
   refine ⟨fun z hz=>?_,h.2.1,wu x hx l h.2.2 fun z hz=>hn z (List.mem_cons_of_mem _ hz)⟩;rcases (vc x l z).1 hz with rfl|hz
   ·exact hl
   exact h.1 z hz
  rename_i hl
  have hxy:bj x.1 y.1=true:=by
   cases hh:bj x.1 y.1 with
   | true=>rfl
   | false=>exact absurd (kK (by simpa using hl) hh) (hn y (List.mem_cons_self ..))
  refine ⟨fun z hz=>?_,hx,h⟩;rcases List.mem_cons.1 hz with rfl|hz
  ·exact hxy
  exact gU hxy (h.1 z hz)
theorem xh (x:Lot) (s:List UInt8):∀ (l:List Lot),qg l→(∀ y∈l,y.1≠x.1)→amt (mc l x) s=if x.1=s then x.2 else amt l s
 | [],_,_=>rfl
 | y::l,h,hn=>by
  rw[mc];split
  ·rw[amt,xh x s l h.2.2 fun z hz=>hn z (List.mem_cons_of_mem _ hz),amt];by_cases h1:y.1=s
   ·rw[zB0 h1,zB0 h1,zB1 (fun e=>hn y (List.mem_cons_self ..) (h1.trans e.symm))]
   rw[zB1 h1,zB1 h1]
  rw[amt]
theorem qP (x:Lot):∀ (l:List Lot),(mc l x).length=l.length+1
 | []=>rfl
 | y::l=>by
  rw[mc];split
  ·rw[List.length_cons,qP x l,List.length_cons]
  rfl
theorem Qk:∀ (l:List Lot),List.Pairwise (fun x y:Lot=>x.1≠y.1) l→(∀ x∈l,x.2≠0)→∃ out,qg out∧(∀ x,x∈out↔x∈l)∧(∀ s,amt out s=amt l s)∧out.length=l.length
 | [],_,_=>⟨[],trivial,fun _=>Iff.rfl,fun _=>rfl,rfl⟩
 | x::l,h,h0=>by
  obtain ⟨h1,h2⟩:=List.pairwise_cons.1 h;obtain ⟨out,a,b,c,d⟩:=Qk l h2 fun y hy=>h0 y (List.mem_cons_of_mem _ hy);have hn:∀ y∈out,y.1≠x.1:=fun y hy e=>h1 y ((b y).1 hy) e.symm;refine ⟨mc out x,wu x (h0 x (List.mem_cons_self ..)) out a hn,fun z=>?_,fun s=>?_,by rw[qP,d,List.length_cons]⟩
  ·rw[vc,b,List.mem_cons]
  rw[xh x s out a hn,c,amt]
theorem GH (H:Hp) (k gv v:AC) (o:Option (List Lad)) (gs:List Gd) (nm:List UInt8) (cs:List Cs) (hk:cU H k o) (G3:∀ ls,o=some ls→∀ x∈ls,x.2.length≤1000000) (hg:SlG H gv gs) (hv:dI H v cs) (hB:TbB cs) (hO:∀ x∈gs,x.2.2.length≤4611686018427387904):
  Con E2 12 [.one k,.one gv,.agg [.o (.str nm),v]] H (fun _=>False) fun r H'=>∃ c out,r=.tup [(false,[c]),(false,[.i .i64 (tM o gs (nm,cs)).2])]∧SlL H' c out∧pB (tM o gs (nm,cs)) out:=by
 refine Con.of rfl fun lg=>?_;have hk:cU ⟨H.t,H.nx,lg⟩ k o:=cU.same (H:=H) rfl rfl hk;have hg:SlG ⟨H.t,H.nx,lg⟩ gv gs:=hg;have hv:dI ⟨H.t,H.nx,lg⟩ v cs:=hv;generalize (⟨H.t,H.nx,lg⟩:Hp)=H at hk hg hv ⊢;refine SJ.body (E:=E2) (nt:=79) (res:=[.tmp 6,.tmp 7]) Tryz.func12 rfl rfl rfl rfl rfl fun tm A0=>?_;have h0:=A0 0 _ rfl;have h1:=A0 1 _ rfl;have h2:=A0 2 _ rfl;clear A0;generalize M1:tM o gs (nm,cs)=e0;have fin:∀ (c:AC) (out:List Lot) (er:Int) (A:ab) (H9:Hp),slot A.tm 6=.one c→slot A.tm 7=.one (.i .i64 er)→A.dfr=[]→Gr H H9→er=e0.2→SlL H9 c out→pB e0 out →
   ∃ w H4,an E2 [.tmp 6,.tmp 7] (.ret,A,H9)=.ok [(w,H4)]∧Gr H H4∧∀ lg:List Nat,∃ c out,w=.tup [(false,[c]),(false,[.i .i64 e0.2])]∧SlL ⟨H4.t,H4.nx,lg⟩ c out∧pB e0 out:=fun c out er A H9 h6 h7 hd P0 hr hs he=>
  ⟨_,H9,aQ c (.i .i64 er) (.inr rfl) hd h6 h7,P0,fun lg=>⟨c,out,by rw[hr],hs,he⟩⟩
 have lv:=hv.lt;replace fin:Hd _:=fin;replace M1:Hd _:=M1;refine SJ.qw fun K1 V6=>?_;refine zW tyF ?_;refine V6.out _ _ ?_;refine SJ.gen (fun A1 H1=>Gr H H1∧H.nx<H1.nx∧H1.get H.nx=some (.arr [.o (.str nm),v] 26 0 0)∧slot A1.tm 0=.one (k)∧slot A1.tm 1=.one (gv)∧slot A1.tm 5=.one ((.o (.ptr H.nx 0 0 2)))∧slot A1.tm 6=.one ((.o .nilS))∧slot A1.tm 7=.one (.i .i64 (0:Int))∧A1.nt=79∧A1.dfr=[])
  ⟨(Fr.refl _).new _,zA6 _,aB rfl,zL⟩ ?_
 clear h0 h1 h2 tm lv V6 K1;rintro A1 H1 ⟨g1,n1,r0,t0,t1,t5,t6,t7,B0,C0⟩;obtain ⟨N,hN⟩:∃ N,N=H.nx:=⟨_,rfl⟩;rw[←hN] at n1 r0 t5;have hNl:H.nx≤N:=Nat.le_of_eq hN.symm;clear hN;have Q3:=hk.gr g1;have M4:=hg.gr g1;have B2:=hv.gr g1;clear hg hv hk;refine SJ.qw fun K1 V6=>?_;refine zG (qA tyF Eu) fun K hK=>?_;refine WE.con (AL H1 k gv v o gs nm cs Q3 G3 M4 B2 hB hO) fun w2 H2 g2 ⟨a,b,ev,W1,Z4⟩=>?_;subst W1;have U4:=Q3.gr g2;have g2:=g1.gr g2;have hca:=Z4.c;have hea:=Z4.e;have la:=hca.lt;have lb:=Z4.r.lt;have le:=hea.lt;clear Z4 Q3 M4 B2;refine zE tyF ?_;refine V6.out _ _ ?_;refine SJ.gen (fun A3 H3=>Gr H H3∧Gr H2 H3∧H2.nx<H3.nx∧H3.get H2.nx=some (.arr [a,b] 37 0 0)∧slot A3.tm 0=.one (k)∧slot A3.tm 6=.one ((.o .nilS))∧slot A3.tm 7=.one (.i .i64 (0:Int))∧slot A3.tm 8=.one ((.o (.ptr H2.nx 0 0 2)))∧slot A3.tm 9=.one (ev)∧slot A3.tm 10=.one ((.i .i64 (eY o gs (nm,cs))))∧A3.nt=79∧A3.dfr=[])
  ⟨(g2.new _).mod _ (.inl g2.nx),((Fr.refl _).new _).mod _ (.inl (zA1 _)),zA6 _,al rfl,zL⟩ ?_
 clear t0 t1 t5 t6 t7 B0 C0 A1 la lb le hK K V6 K1;rintro A3 H3 ⟨g3,g23,n3,rP,t0,t6,t7,t8,t9,t10,B0,C0⟩;obtain ⟨P,hP⟩:∃ P,P=H2.nx:=⟨_,rfl⟩;rw[←hP] at n3 rP t8;clear hP;have B_:=U4.gr g23;have q9:=hca.gr g23;have i':=hea.gr g23;clear U4 hca hea g2 g23;by_cases J3:eY o gs (nm,cs)=0
 case neg=>
  have hr:=M1.out;unfold tM at hr;rw[zB0 J3] at hr;have e1:eY o gs (nm,cs)=e0.2:=by rw[←hr]
  have e2:pB e0 []:=by rw[←hr];exact ⟨fun _=>rfl,fun h=>absurd h J3,Nat.zero_le _⟩
  have X5:(eY o gs (nm,cs)==0)=false:=zB5 J3;generalize eY o gs (nm,cs)=eb at t10 e1 X5;clear hr J3;replace e1:Hd _:=e1;refine SJ.YN ?_;refine zW tyF ?_;exact fin.out (.o .nilS) [] eb _ _ qp qp qe g3 e1.out SlL.nil e2
 have X5:((0:Int)==0)=true:=rfl;rw[J3] at t10;have hKl:=(nZ J3).2;have W0:(js o gs (nm,cs)).1=(fQ o gs (nm,cs)).map Prod.fst:=rfl;rw[W0] at q9;have hr:=M1.out;unfold tM at hr;rw[zB1 (fun h=>h J3)] at hr;have hem:=Ly ((fQ o gs (nm,cs)).map Prod.fst) 0 (fQ o gs (nm,cs)) rfl;rw[←hem] at hr;have A_:=sj 0 (fQ o gs (nm,cs));have o9:=sw 0 (fQ o gs (nm,cs));clear hem W0 J3 M1 hg;generalize fQ o gs (nm,cs)=kl at q9 i' hKl hr A_ o9;generalize hE:bu 0 kl=E at i' hr A_ o9;replace A_:∀ i∈E,∃ (m:Nat) (x:Cl),i=(m:Int)∧(kl.map Prod.fst)[m]?=some x:=fun i hi=>by
  obtain ⟨m,x,e1,e2⟩:=A_ i hi;exact ⟨m,x.1,by rw[e1,Nat.zero_add],by rw[List.getElem?_map,e2];rfl⟩
 have hlcl:(kl.map Prod.fst).length≤64:=by rw[List.length_map];exact hKl
 generalize kl.map Prod.fst=lc at q9 hr A_ hlcl;replace o9:E.length≤64:=zA2 o9 hKl;clear hE hKl kl;generalize I_:qJ o (E.map (cellAt lc)) []=tot at hr;refine SJ.qw fun K1 V6=>?_;refine zW tyF ?_;refine V6.out _ _ ?_;clear V6 K1;refine SJ.qw fun K1 V6=>?_;refine zW tyF ?_;refine V6.out _ _ ?_;refine SJ.gen (fun A4 H4=>Gr H H4∧Gr H3 H4∧H3.nx<H4.nx∧H4.get H3.nx=some (hY kvS (iP []))∧slot A4.tm 0=.one (k)∧slot A4.tm 6=.one ((.o .nilS))∧slot A4.tm 7=.one (.i .i64 (0:Int))∧slot A4.tm 8=.one ((.o (.ptr P 0 0 2)))∧slot A4.tm 9=.one (ev)∧slot A4.tm 11=.one ((.o (.mp H3.nx)))∧A4.nt=79∧A4.dfr=[])
  ⟨g3.new _,(Fr.refl _).new _,zA6 _,aB rfl,zL⟩ ?_
 clear t0 t6 t7 t8 t9 t10 B0 C0 A3 V6 K1 X5;rintro A4 H4 ⟨g4,g34,n4,rM,t0,t6,t7,t8,t9,t11,B0,C0⟩;have g3H:=g3.nx;have hH3:H.nx≤H3.nx:=g3H;have he4:=i'.gr g34;have l4:=he4.lt;have ln4:=he4.len;refine SJ.qw fun K1 V6=>?_;refine zW tyF ?_;refine R1.dZ fun K k1 k2 k3 k4=>?_;refine R1.loop (fun z A H5=>∃ (j:Nat) (acc:List Lot),z=E.length - j∧j≤E.length∧Hd (qJ o ((E.drop j).map (cellAt lc)) acc=tot)∧lP acc j∧Gr H H5∧Gr H3 H5∧H3.nx<H5.nx∧H5.get H3.nx=some (hY kvS (iP acc))∧slot A.tm 0=.one (k)∧slot A.tm 8=.one ((.o (.ptr P 0 0 2)))∧slot A.tm 11=.one ((.o (.mp H3.nx)))∧slot A.tm 31=.one (ev)∧slot A.tm 32=.one (.i .i64 (E.length:Int))∧slot A.tm 33=.one (.i .i64 (j:Int))∧A.nt=79∧A.dfr=[]) ?_ E.length ⟨0,[],rfl,Nat.zero_le _,I_,lP.nil,g4,g34,n4,rM,zL⟩;clear t0 t6 t7 t8 t9 t11 B0 C0 A4 rM g4 g34 n4 H4 k3 he4 l4 ln4 I_;rintro z A H5 ⟨j,acc,rfl,hj,hac,p7,g5,g35,n5,rM,t0,t8,t11,t31,t32,t33,B0,C0⟩;have he5:=i'.gr g35;have hlE:E.length≤64:=o9;refine zW tyF ?_;refine zI tyF (fun hc=>?_) (fun hc=>?_)
 ·have m9:j<E.length:=by omega
  obtain ⟨m,x,hm1,hm2⟩:=A_ E[j] (List.getElem_mem m9);have ei:E[j]?=some ((m:Nat):Int):=by rw[zB4 m9,hm1]
  have Q0:E.drop j=((m:Nat):Int)::E.drop (j+1):=by rw[List.drop_eq_getElem_cons m9,hm1]
  have hlm:m<lc.length:=(List.getElem?_eq_some_iff.1 hm2).1;have hcx:cellAt lc ((m:Nat):Int)=x:=by unfold cellAt;rw[Int.toNat_natCast,hm2];rfl
  have Q2:=hac.out;rw[Q0,List.map_cons,hcx,qJ] at Q2;replace Q2:Hd _:=Q2;clear hac hcx Q0 hm1;have a_:=q9.gr g35;have hk5:=B_.gr g35;have rP5:=(g35.get _ n3 zB2).trans rP;have n35:=zA0 n3 g35.nx;obtain ⟨ide,ge,offe,cellse,rfl,hide,hgre,hate⟩:=he5.open (by omega);obtain ⟨y1,y2⟩:=hate j _ ei;obtain ⟨idc,gc,offc,cellsc,rfl,hidc,hgrc,hatc⟩:=a_.open (by omega);obtain ⟨p,q,hx⟩:=hatc m x hm2;have z1:=hx.all;have z2:=hx.le;have z3:=hx.f2;have z4:=hx.le2;have hp:=hx.of1;have hq:=hx.of2;clear hate hatc hx ei;have V0:=zC0 j (by omega);refine zW tyF ?_;refine R1.cy fun K2 q1 q2 q3 q4=>?_;refine zW (qA tyF (ixC m9)) ?_;refine zG (qA tyF (qA (ixC hlm) Vw)) fun K3 l5=>?_;refine WE.con (SH H5 k p q o x hk5 G3 hp hq) fun w6 H6 g6 hq6=>?_;have j5:=@GN o x;obtain ⟨rd,hrd⟩:∃ r,r=iy o x:=⟨_,rfl⟩;rw[←hrd] at hq6 j5;have O3:=Q2.out;rw[←hrd] at O3;clear Q2 hrd;obtain ⟨rv,re⟩:=rd;subst hq6;have g56:=g5.gr g6;have g36:=g35.gr g6;have hidc6:=zA0 hidc g6.nx;have hgrc6:rowOf (H6.get idc) gc=some cellsc:=by rw[g6.get _ hidc zB2];exact hgrc
  have rM:=(g6.get _ n5 zB2).trans rM;have n5:=zA0 n5 g6.nx;have rP5:=(g6.get _ n35 zB2).trans rP5;have n35:=zA0 n35 g6.nx;clear hgrc hidc hgre hide y1 y2 z1 z2 hp hq hk5 a_ he5 g6 g5 g35;by_cases S':re=0
  case neg=>
   have e1:qJ o (E.map (cellAt lc)) []=([],re)→True:=fun _=>trivial;rw[zB0 S'] at O3;rw[←O3] at hr;have Z0:(([],re):List Lot×Int).2≠0:=S';rw[zB0 Z0] at hr;have e1:re=e0.2:=by rw[←hr]
   have e2:pB e0 []:=by rw[←hr];exact ⟨fun _=>rfl,fun h=>absurd h S',Nat.zero_le _⟩
   have X5:(re==0)=false:=zB5 S';clear hr O3 S' Z0 j5;replace e1:Hd _:=e1;refine zK tyF ?_;refine q4.out _ _ (k4.out _ _ ?_);exact fin.out (.o .nilS) [] re _ _ qp qp qe g56 e1.out SlL.nil e2
  subst S';rw[zB1 (fun h=>h rfl)] at O3;have j5:=j5 rfl;replace j5:1≤rv∧rv≤1099511627776:=j5;have z9:=p7.add x.2.1 j5.1 j5.2;have Y5:=CV p7.bd x.2.1;have hjj:(j:Int)≤64:=by omega
  have l6:IntKind.i64.wrap (amt acc x.2.1+rv)=amt acc x.2.1+rv:=ao (by omega) (by omega);have Y6:bw Tryz.prog H6 9 (.one (.i .i64 0)) (.one (.o (.mp H3.nx))) (.one (.o (.str x.2.1))) false=.val (.one (.i .i64 (amt acc x.2.1))) H6:=(HN WQ (z:=.one (.i .i64 0)) (k:=x.2.1) (ok:=false) rM).trans (Uh H6 x.2.1 acc);have hup:aV Tryz.prog H6 9 (.one (.o (.mp H3.nx))) (.one (.o (.str x.2.1))) (.one (.i .i64 (amt acc x.2.1+rv)))=.val aH (H6.mod H3.nx (hY kvS (iP (jU acc x.2.1 rv)))):=by rw[Iz WQ (k:=x.2.1) (x:=.i .i64 (amt acc x.2.1+rv)) rM,LP]
  have X5:((0:Int)==0)=true:=rfl;clear Y5 hjj j5;replace O3:Hd _:=O3;replace rM:Hd _:=rM;replace z9:Hd _:=z9;have gm:Gr H (H6.mod H3.nx (hY kvS (iP (jU acc x.2.1 rv)))):=g56.mod _ (.inl hH3);have gm3:Gr H3 (H6.mod H3.nx (hY kvS (iP (jU acc x.2.1 rv)))):=g36.mod _ (.inl (zA1 _));replace gm:Hd _:=gm;replace gm3:Hd _:=gm3;refine zK tyF ?_;refine zW (qA tyF (qA (ixC hlm) (qA Y6 (qA hup Bw)))) ?_;refine q1.out _ _ ?_;refine zW tyF ?_;exact ⟨E.length - (j+1),by omega,j+1,jU acc x.2.1 rv,rfl,m9,O3,z9.out,gm.out,gm3.out,n5,al rfl,zL⟩
 have hje:j=E.length:=by omega
 have hj64:j≤64:=by omega
 have Q2:=hac.out;rw[hje,List.drop_length,List.map_nil,qJ] at Q2;subst Q2;rw[zB1 (fun h=>h rfl)] at hr;replace hr:Hd _:=hr;clear hac hje A_ q9 i' he5 rP n3 B_ hc hj;refine zW tyF ?_;refine k2.out _ _ ?_;refine V6.out _ _ ?_;clear V6 K1 k1 k2 k4 K;refine SJ.qw fun K1 V6=>?_;refine zW tyF ?_;refine V6.out _ _ ?_;refine SJ.gen (fun A6 H6=>Gr H H6∧H3.nx<H6.nx∧H6.get H3.nx=some (hY kvS (iP acc))∧slot A6.tm 11=.one ((.o (.mp H3.nx)))∧slot A6.tm 16=.one ((.o .nilS))∧A6.nt=79∧A6.dfr=[]) ⟨g5,n5,rM,zL⟩ ?_;clear t0 t8 t11 t31 t32 t33 B0 C0 A V6 K1 g5 g35 n5 rM H5;rintro A6 H6 ⟨g6,n6,rM,t11,t16,B0,C0⟩;obtain ⟨out0,s1,s2,s3,s4⟩:=Qk acc p7.pw fun x hx=>by have:=(p7.bd x hx).1;omega
 have hlen:=p7.len;have g6n:=g6.nx;have N0:=hr.out;refine SJ.Yi (if mG acc=true then .tup [(false,[.o .nilS]),(false,[.i .i64 6])] else .tup [(false,[if acc=[] then .o .nilS else .o (.sl (H6.nx+2) (acc.length - 1) 0 acc.length 2)]),(false,[.i .i64 0])])
  (fun H2=>Gr H H2∧(mG acc=false→acc≠[]→H6.nx+2<H2.nx∧∃ lo,lo≤acc.length - 1∧H2.get (H6.nx+2)=some (.arr (out0.flatMap bA) 92 lo (acc.length - 1)))) (fun id hid=>⟨H.get id,fun H2 h2=>h2.1.get id hid zB2⟩) ?_ fun H' jn=>⟨xl.gr (fun _ h=>h.1) jn,fun lg=>?_⟩
 rotate_left
 ·
  cases hb:mG acc with
  | true=>
   rw[hb,zB0 rfl] at N0;rw[zB0 rfl];exact ⟨.o .nilS,[],by rw[←N0],SlL.nil,by rw[←N0];exact ⟨fun _=>rfl,fun h=>(by cases h),Nat.zero_le _⟩⟩
  | false=>
   rw[hb,zB1 zA8] at N0;rw[zB1 zA8];refine ⟨_,out0,by rw[←N0],?_,by rw[←N0];exact ⟨fun h=>absurd rfl h,fun _=>⟨s1,s3⟩,by omega⟩⟩;by_cases J5:acc=[]
   ·rw[zB0 J5];have:out0=[]:=List.eq_nil_of_length_eq_zero (by rw[s4,J5];rfl);rw[this];exact SlL.nil
   rw[zB1 J5];obtain ⟨j1,lo,j2,j3⟩:=jn.get (H6.nx+2) _ _ _ (by omega) fun H2 h2=>h2.2 hb J5;refine ⟨cj cX _,.inr ⟨H6.nx+2,acc.length - 1,0,by rw[s4],j1,out0.flatMap bA,?_,?_,?_⟩⟩
   ·show rowOf (H'.get (H6.nx+2)) _=_;rw[j3];exact bF j2 (zA1 _)
   ·rw[cj cX];omega
   rw[List.drop_zero,List.take_of_length_le (by rw[cj cX];exact zA1 _)]
 have finB:Hd (∀ (A:ab) (H9:Hp),slot A.tm 6=.one (.o .nilS)→slot A.tm 7=.one (.i .i64 6)→A.dfr=[]→Gr H H9→mG acc=true →
   ∃ H2,an E2 [.tmp 6,.tmp 7] (.ret,A,H9)=.ok [(if mG acc=true then .tup [(false,[.o .nilS]),(false,[.i .i64 6])] else .tup [(false,[if acc=[] then .o .nilS else .o (.sl (H6.nx+2) (acc.length - 1) 0 acc.length 2)]),(false,[.i .i64 0])],H2)]∧Gr H H2∧(mG acc=false→acc≠[]→H6.nx+2<H2.nx∧∃ lo,lo≤acc.length - 1∧H2.get (H6.nx+2)=some (.arr (out0.flatMap bA) 92 lo (acc.length - 1)))):=fun A H9 h6 h7 hd P0 hb=>
  ⟨H9,by rw[zB0 hb];exact aQ (.o .nilS) (.i .i64 6) (.inr rfl) hd h6 h7,P0,fun h=>by rw[hb] at h;cases h⟩
 have finG:Hd (∀ (c:AC) (A:ab) (H9:Hp),slot A.tm 6=.one c→slot A.tm 7=.one (.i .i64 0)→A.dfr=[]→Gr H H9→mG acc=false→c=(if acc=[] then .o .nilS else .o (.sl (H6.nx+2) (acc.length - 1) 0 acc.length 2))→(acc≠[]→H6.nx+2<H9.nx∧∃ lo,lo≤acc.length - 1∧H9.get (H6.nx+2)=some (.arr (out0.flatMap bA) 92 lo (acc.length - 1))) →
   ∃ H2,an E2 [.tmp 6,.tmp 7] (.ret,A,H9)=.ok [(if mG acc=true then .tup [(false,[.o .nilS]),(false,[.i .i64 6])] else .tup [(false,[if acc=[] then .o .nilS else .o (.sl (H6.nx+2) (acc.length - 1) 0 acc.length 2)]),(false,[.i .i64 0])],H2)]∧Gr H H2∧(mG acc=false→acc≠[]→H6.nx+2<H2.nx∧∃ lo,lo≤acc.length - 1∧H2.get (H6.nx+2)=some (.arr (out0.flatMap bA) 92 lo (acc.length - 1)))):=fun c A H9 h6 h7 hd P0 hb hc I1=>
  ⟨H9,by rw[zB1 (by rw[hb];exact zA8),←hc];exact aQ c (.i .i64 0) (.inr rfl) hd h6 h7,P0,fun _=>I1⟩
 have hrg:iC H6 (.one (.o (.mp H3.nx)))=.val (.one (.o (.it H6.nx))) (H6.new (mT H3.nx (iP acc).length [])):=Vk rM;have rM0:Hd _:=rM;clear hr N0 rM;refine RA.Yf fun K hK=>?_;replace hK:Hd _:=hK;refine RA.qw fun K1 V6=>?_;replace V6:Hd _:=V6;replace s1:Hd _:=s1;replace s3:Hd _:=s3;replace s4:Hd _:=s4;refine zW (qA tyF (qA (@Uc) hrg)) ?_;refine V6.out _ _ ?_;refine RA.block ?_;refine RA.loop (fun z A H8=>∃ (seen:List Nat) (done:List Lot) (v':AC),z=acc.length - seen.length∧seen.Nodup∧(∀ i∈seen,i<acc.length)∧done.length=seen.length∧List.Pairwise (fun x y:Lot=>x.1≠y.1) done∧(∀ p,p∈done↔∃ i∈seen,acc[i]?=some p)∧(∀ p∈done,p.2≤1099511627776)∧Gr H H8∧Gr H6 H8∧H6.nx<H8.nx∧H8.get H6.nx=some (mT H3.nx (iP acc).length seen)∧PD 92 2 (H6.nx+2) H8 v' done.length (done.flatMap bA)∧(done.length=0→H8.nx=H6.nx+1)∧slot A.tm 11=.one ((.o (.mp H3.nx)))∧slot A.tm 16=.one (v')∧slot A.tm 62=.one ((.o (.it H6.nx)))∧A.nt=79∧A.dfr=[]) ?_ acc.length
  ⟨[],[],.o .nilS,rfl,List.nodup_nil,fun _ h=>absurd h List.not_mem_nil,rfl,List.Pairwise.nil,fun p=>⟨fun h=>absurd h List.not_mem_nil,fun ⟨i,hi,_⟩=>absurd hi List.not_mem_nil⟩,fun _ h=>absurd h List.not_mem_nil,g6.new _,(Fr.refl _).new _,zA6 _,aB rfl,.inl ⟨rfl,rfl,rfl⟩,fun _=>rfl,zL⟩
 clear t11 t16 B0 C0 A6 V6 K1 hrg;rintro z A H8 ⟨seen,done,v',rfl,W5,hbn,u_,hpw,hdm,hsm,g8,g68,n8,S3,o_,U7,t11,t16,t62,B0,C0⟩;have rM8:H8.get H3.nx=some (hY kvS (iP acc)):=(g68.get _ n6 zB2).trans rM0.out;refine RA.seq ?_;by_cases T1:∀ i,i<acc.length→i∈seen
 ·have hov:gz H8 (.one (.o (.it H6.nx)))=.val uD H8:=OW S3 rM8 fun i hi=>T1 i (by rwa [FB] at hi);have p8:=Hv acc.length seen T1;have hle:=nS acc.length seen W5 hbn;refine RA.region ?_;refine OA.val (v:=uD) (H':=H8) (fun _ _=>rfl) (by rw[B0];rfl) (by show gz H8 (slot A.tm 62)=_;rw[t62];exact hov) ?_;refine OA.val (v:=.one (.b false)) (H':=H8) (fun _ _=>rfl) (by rw[aw,B0];rfl) (by show cG H8 (slot (bx A (some 63) uD).tm 63) 0=_;simp only[aa,reduceIte];rfl) ?_;refine OA.nil ?_;refine RA.seq ?_;refine RA.cond (b:=false) (by show slot (bx (bx A (some 63) uD) (some 64) (.one (.b false))).tm 64=_;simp only[aa,reduceIte]) ?_;refine RA.exit ?_;refine hK.out _ _ ?_;have M0:mG acc=false:=by
   unfold mG;rw[List.any_eq_false];intro p hp;obtain ⟨i,hi⟩:=List.mem_iff_getElem?.1 hp;have:=hsm p ((hdm p).2 ⟨i,T1 i (List.getElem?_eq_some_iff.1 hi).1,hi⟩);simp;omega
  have U5:done.length=acc.length:=by omega
  have hamt:∀ s,amt done s=amt acc s:=fun s=>by
   by_cases hm:∃ p∈acc,p.1=s
   ·obtain ⟨p,hp,rfl⟩:=hm;obtain ⟨i,hi⟩:=List.mem_iff_getElem?.1 hp;rw[lG hpw ((hdm p).2 ⟨i,T1 i (List.getElem?_eq_some_iff.1 hi).1,hi⟩),lG p7.pw hp]
   rw[su fun p hp e=>hm ⟨p,by obtain ⟨i,_,hi⟩:=(hdm p).1 hp;exact List.mem_of_getElem? hi,e⟩,su fun p hp e=>hm ⟨p,hp,e⟩]
  have hnz:∀ p∈done,p.2≠0:=fun p hp=>by
   obtain ⟨i,_,hi⟩:=(hdm p).1 hp;have:=(p7.bd p (List.mem_of_getElem? hi)).1;omega
  refine RA.of ?_;refine R1.gen (fun A9 H9=>H9=H8∧slot A9.tm 16=.one (v')∧A9.nt=79∧A9.dfr=[]) ⟨rfl,zL⟩ ?_;clear t11 t16 t62 B0 C0 A hov T1 W5 hbn hdm hsm S3 rM8 hK K p8 hle u_;rintro A H9 ⟨rfl,t16,B0,C0⟩;rcases o_ with ⟨a1,rfl,a3⟩|⟨g,a1,rfl,a3,a4,a5⟩
  ·have J5:acc=[]:=List.eq_nil_of_length_eq_zero (by omega);clear a3 a1 U7 hpw hamt hnz;replace M0:Hd _:=M0;replace J5:Hd _:=J5;refine zG (qA tyF Gx) fun K hK=>?_;refine WE.con (Pd H9 39) fun w H10 g10 hw=>?_;subst hw;have g10:=g8.gr g10;refine zK tyF ?_;exact finG.out (.o .nilS) _ _ qp qp qe g10 M0.out (by rw[zB0 J5.out]) fun h=>absurd J5.out h
  have Z0:acc≠[]:=fun h=>by rw[h] at U5;rw[U5] at a1;cases a1
  replace M0:Hd _:=M0;replace Z0:Hd _:=Z0;replace U5:Hd _:=U5;replace a1:Hd _:=a1;replace hamt:Hd _:=hamt;replace U7:Hd _:=U7;have E':=Ol H9 (H6.nx+2) g 0 done a3 (Nat.zero_le _) a5 (by have:=U5.out;omega);replace E':Hd (Con E2 _ _ _ _ _):=E';refine zG (qA tyF Gx) fun K hK=>?_;refine WE.con E'.out fun w H10 g10 ⟨hw,out,lo',b1,b2,b3,b4,b5⟩=>?_;subst hw;have Z3:out=out0:=BH (Vp b5 ((b4.pairwise_iff fun {x y} h=>fun e=>h e.symm).2 hpw) fun x hx=>hnz x (b4.mem_iff.1 hx)) s1.out fun s=>by rw[PO b4 hpw s,hamt.out s,s3.out s]
  subst Z3;have g10:Gr H H10:=g8.then g10 fun q hq=>.inl (by omega);clear E' b4 b5 hpw hnz;replace b2:Hd _:=b2;refine zK tyF ?_;exact finG.out (.o (.sl (H6.nx+2) g 0 done.length 2)) _ _ qp qp qe g10 M0.out (by rw[zB1 Z0.out,←U5.out,a1.out,Nat.add_sub_cancel]) fun _=>⟨b3,lo',by rw[←U5.out,a1.out,Nat.add_sub_cancel];exact b1,by rw[←U5.out,a1.out,Nat.add_sub_cancel];exact b2.out⟩
 obtain ⟨i0,V2,hi0s⟩:∃ i,i<acc.length∧i∉seen:=Classical.byContradiction fun hn=>T1 fun i hi=>Classical.byContradiction fun h=>hn ⟨i,hi,h⟩;obtain ⟨ws,hws,Z0,hall2⟩:=Pj (kv:=kvS) S3 rM8 ⟨i0,by rw[FB];exact V2,hi0s⟩;refine RA.region ?_;refine OA.ou (vs:=ws) (fun _ _=>rfl) (by rw[B0];rfl) (by show gz H8 (slot A.tm 62)=_;rw[t62];exact hws) Z0 fun x hx=>?_;obtain ⟨i,pe,hp,hni,rfl⟩:=hall2 x hx;obtain ⟨p,R5,rfl⟩:∃ p,acc[i]?=some p∧pe=(p.1,.i .i64 p.2):=by
  unfold iP at hp;rw[List.getElem?_map] at hp;cases h:acc[i]? with
  | none=>rw[h] at hp;cases hp
  | some p=>rw[h] at hp;exact ⟨p,rfl,(Option.some.inj hp).symm⟩
 refine OA.val (v:=.one (.b true)) (H':=H8.mod H6.nx (mT H3.nx (iP acc).length (seen++[i]))) (fun _ _=>rfl) (by rw[aw,B0];rfl) (by show cG _ (slot (bx A (some 63) _).tm 63) 0=_;simp only[aa,reduceIte];rfl) ?_;refine OA.nil ?_;refine RA.seq ?_;refine RA.cond (b:=true) (by show slot (bx (bx A (some 63) _) (some 64) (.one (.b true))).tm 64=_;simp only[aa,reduceIte]) ?_;refine RA.skip ?_;refine RA.of ?_;have hilt:i<acc.length:=(List.getElem?_eq_some_iff.1 R5).1;have hnd2:(seen++[i]).Nodup:=List.pairwise_append.2 ⟨W5,List.pairwise_singleton _ _,fun a ha b hb e=>hni (by rw[←List.mem_singleton.1 hb,←e];exact ha)⟩;have hbn2:∀ q∈seen++[i],q<acc.length:=fun q hq=>by
  rcases List.mem_append.1 hq with hq|hq
  ·exact hbn q hq
  rw[List.mem_singleton.1 hq];exact hilt
 have hle2:=nS acc.length _ hnd2 hbn2;rw[List.length_append,List.length_singleton] at hle2;have hpw2:List.Pairwise (fun x y:Lot=>x.1≠y.1) (done++[p]):=List.pairwise_append.2 ⟨hpw,List.pairwise_singleton _ _,fun a ha b hb=>by
  rw[List.mem_singleton.1 hb];obtain ⟨q,hq,hqa⟩:=(hdm a).1 ha;have hqi:q≠i:=fun e=>hni (by rw[←e];exact hq);obtain ⟨l1,e1⟩:=List.getElem?_eq_some_iff.1 hqa;obtain ⟨l2,e2⟩:=List.getElem?_eq_some_iff.1 R5;have hpi:=List.pairwise_iff_getElem.1 p7.pw;rcases Nat.lt_or_ge q i with h|h
  ·have:=hpi q i l1 l2 h;rwa [e1,e2] at this
  have:=hpi i q l2 l1 (by omega);rw[e1,e2] at this;exact fun e=>this e.symm⟩
 have hdm2:∀ z,z∈done++[p]↔∃ q∈seen++[i],acc[q]?=some z:=fun z=>by
  rw[List.mem_append,hdm];constructor
  ·rintro (⟨q,hq,e⟩|hz)
   ·exact ⟨q,List.mem_append_left _ hq,e⟩
   rw[List.mem_singleton.1 hz];exact ⟨i,List.mem_append_right _ (List.mem_singleton.2 rfl),R5⟩
  rintro ⟨q,hq,e⟩;rcases List.mem_append.1 hq with hq|hq
  ·exact .inl ⟨q,hq,e⟩
  rw[List.mem_singleton.1 hq,R5] at e;exact .inr (List.mem_singleton.2 (Option.some.inj e).symm)
 have hdl2:(done++[p]).length=(seen++[i]).length:=by rw[List.length_append,List.length_append,u_];rfl
 have fm:Fr (fun q=>q=H6.nx) H8 (H8.mod H6.nx (mT H3.nx (iP acc).length (seen++[i]))):=(Fr.refl _).mod _ (.inr rfl);refine R1.gen (fun A9 H9=>Gr H H9∧Gr H6 H9∧H6.nx<H9.nx∧H9.get H6.nx=some (mT H3.nx (iP acc).length (seen++[i]))∧PD 92 2 (H6.nx+2) H9 v' done.length (done.flatMap bA)∧(done.length=0→H9.nx=H6.nx+1)∧slot A9.tm 11=.one ((.o (.mp H3.nx)))∧slot A9.tm 16=.one (v')∧slot A9.tm 62=.one ((.o (.it H6.nx)))∧A9.nt=79∧A9.dfr=[])
  ⟨g8.then fm fun q hq=>.inl (by omega),g68.then fm fun q hq=>.inl (by omega),n8,al rfl,o_.fr fm (by omega),U7,zL⟩ ?_
 clear t11 t16 t62 B0 C0 A hws Z0 hall2 hx fm g8 g68 n8 S3 o_ U7 rM8 T1 V2 hi0s ws hpw hdm W5 hbn H8;rintro A H9 ⟨g9,g69,n9,S3,o_,U7,t11,t16,t62,B0,C0⟩;have rM9:H9.get H3.nx=some (hY kvS (iP acc)):=(g69.get _ n6 zB2).trans rM0.out;have hent:gO H9 (.one (.o (.it H6.nx)))=.val (.tup [(false,[.o (.str p.1)]),(false,[.i .i64 p.2])]) H9:=UC S3 rM9 hp;have hpm:=List.mem_of_getElem? R5;have hbp:=p7.bd p hpm;have hnx9:=U7;replace U7:Hd _:=U7;replace S3:Hd _:=S3;replace rM9:Hd _:=rM9;replace u_:Hd _:=u_;replace R5:Hd _:=R5;replace hp:Hd _:=hp;replace hdl2:Hd _:=hdl2;replace hdm2:Hd _:=hdm2;refine R1.dZ fun K3 q1 q2 q3 q4=>?_;by_cases hbp2:(1099511627776:Int)<p.2
 ·have M0:mG acc=true:=List.any_eq_true.2 ⟨p,hpm,decide_eq_true hbp2⟩;replace M0:Hd _:=M0;clear hnx9 hbp;refine zW (qA tyF (qA (@FT) hent)) ?_;refine q4.out _ _ ?_;exact finB.out _ _ qp qp qe g9 M0.out
 obtain ⟨zz,hz,X0⟩:=Sn;obtain ⟨N4,v9,H10,U1,hpd9,E_⟩:=PD.push fw lL hz X0 (by decide) o_ (fun h=>by have:=hnx9 h;omega) [.o (.str p.1),.i .i64 p.2] rfl (by have:=u_.out;omega);have g10:Gr H H10:=g9.then E_ fun q hq=>.inl (by omega);have g610:Gr H6 H10:=g69.then E_ fun q hq=>.inl (by omega);have n10:=zA0 n9 E_.nx;have hit10:=(E_.get _ n9 (by omega)).trans S3.out;have hpd10:PD 92 2 (H6.nx+2) H10 v9 (done++[p]).length ((done++[p]).flatMap bA):=by
  rw[List.length_append,List.flatMap_append];exact hpd9
 have hsm2:∀ z∈done++[p],z.2≤1099511627776:=fun z hz=>by
  rcases List.mem_append.1 hz with hz|hz
  ·exact hsm z hz
  rw[List.mem_singleton.1 hz];omega
 clear hnx9 hbp hz X0 zz hpd9 E_ o_ g9 g69 n9;replace hit10:Hd _:=hit10;replace hpd10:Hd _:=hpd10;refine zW (qA tyF (qA (@FT) hent)) ?_;refine zG (qA tyF (qA iz U1)) fun K8 hK8=>?_;refine ⟨N4,?_⟩;refine zK tyF ?_;refine q1.out _ _ ?_;exact ⟨acc.length - (seen++[i]).length,by rw[List.length_append,List.length_singleton];omega,seen++[i],done++[p],v9,rfl,hnd2,hbn2,hdl2.out,hpw2,hdm2.out,hsm2,g10,g610,n10,hit10.out,hpd10.out,fun h=>(by rw[List.length_append] at h;cases h),zL⟩
theorem wI {tm:PT AV} {H:Hp} {d:Option Tmp} {x y:Operand} {ty:TypeId} {pos:String} {af:Array Edge} {g:Option (Nat×Bool)}:
  aq Tryz.prog tm H ⟨d,.slice 43 x none (some y) none,ty,pos,af,g⟩=slN H (bH Tryz.prog tm H ⟨d,.slice 43 x none (some y) none,ty,pos,af,g⟩) (ev tm x) (ev tm y):=by
 unfold slN;split
 ·rename_i hx hy
  have vx:(ev tm x).val?=some (.slice none 0 0):=by rw[hx];rfl
  have vy:(ev tm y).val?=some (.int .i64 0):=by rw[hy];rfl
  have dx:aZ (ev tm x)=.slice none 0 0:=by unfold aZ;rw[vx]
  have dy:aZ (ev tm y)=.int .i64 0:=by unfold aZ;rw[vy]
  unfold aq;have e1:((⟨d,.slice 43 x none (some y) none,ty,pos,af,g⟩:Oper).op.operands.toList.all fun x=>(ev tm x).val?.isSome)=true:=by
   show ([x,y].all fun x=>(ev tm x).val?.isSome)=true;simp only[List.all_cons,List.all_nil,vx,vy];rfl
  rw[e1];have e2:ay Tryz.prog (execOp (fun x=>aZ (ev tm x)) ⟨d,.slice 43 x none (some y) none,ty,pos,af,g⟩)=some (.value (.slice none 0 0)):=by
   show ay Tryz.prog (Sem.bind (Instr.sliceAt 43 (aZ (ev tm x)) none (some (aZ (ev tm y))) none) fun v=>Sem.pure (Next.value v))=_;rw[dx,dy];kernel_rfl
  rw[e2];rfl
 rfl
theorem wg {tm:PT AV} {H:Hp} {d:Option Tmp} {x y:Operand} {ty:TypeId} {pos:String} {af:Array Edge} {g:Option (Nat×Bool)}:
  aq Tryz.prog tm H ⟨d,.slice 43 x (some y) none none,ty,pos,af,g⟩=slN H (bH Tryz.prog tm H ⟨d,.slice 43 x (some y) none none,ty,pos,af,g⟩) (ev tm x) (ev tm y):=by
 unfold slN;split
 ·rename_i hx hy
  have vx:(ev tm x).val?=some (.slice none 0 0):=by rw[hx];rfl
  have vy:(ev tm y).val?=some (.int .i64 0):=by rw[hy];rfl
  have dx:aZ (ev tm x)=.slice none 0 0:=by unfold aZ;rw[vx]
  have dy:aZ (ev tm y)=.int .i64 0:=by unfold aZ;rw[vy]
  unfold aq;have e1:((⟨d,.slice 43 x (some y) none none,ty,pos,af,g⟩:Oper).op.operands.toList.all fun x=>(ev tm x).val?.isSome)=true:=by
   show ([x,y].all fun x=>(ev tm x).val?.isSome)=true;simp only[List.all_cons,List.all_nil,vx,vy];rfl
  rw[e1];have e2:ay Tryz.prog (execOp (fun x=>aZ (ev tm x)) ⟨d,.slice 43 x (some y) none none,ty,pos,af,g⟩)=some (.value (.slice none 0 0)):=by
   show ay Tryz.prog (Sem.bind (Instr.sliceAt 43 (aZ (ev tm x)) (some (aZ (ev tm y))) none none) fun v=>Sem.pure (Next.value v))=_;rw[dx,dy];kernel_rfl
  rw[e2];rfl
 rfl
theorem Yl:type_of% (qA @WC (qA @tg (qA @wI @wg))):=qA @WC (qA @tg (qA @wI @wg))
theorem Si (H:Hp) (v:AC) (out:List Lot) (r:Option Nat) (x:Lot) (i:Nat) (hi:i≤out.length) (hlen:out.length≤1000000) (ho:dm H v 92 2 out.length (out.flatMap bA) r):
  ∃ vd ve vr H1 v2 H3 v' H4 r',((v=.o .nilS∧i=0∧vd=.o .nilS∧ve=.o .nilS)∨∃ id gen,v=.o (.sl id gen 0 out.length 2)∧vd=.o (.sl id gen (0+i*2) (out.length - i) 2)∧ve=.o (.sl id gen 0 i 2)) ∧
   aL Tryz.prog H 43 (.one (.o .nilS)) (.one vd)=.val (.one vr) H1∧ltV (.one vr) H1.nx∧ltV (.one ve) H1.nx ∧
   aL Tryz.prog (H1.new (.arr (bA x) 92 0 0)) 43 (.one ve) (.one (.o (.sl H1.nx 0 0 1 2)))=.val (.one v2) H3∧ltV (.one v2) H3.nx∧ltV (.one vr) H3.nx ∧
   aL Tryz.prog H3 43 (.one v2) (.one vr)=.val (.one v') H4 ∧
   dm H4 v' 92 2 (out.length+1) ((out.take i++x::out.drop i).flatMap bA) (some r')∧(r=some r'∨r=none∧H.nx≤r')∧Fr (fun j=>r=some j) H H1∧Fr (fun j=>r=some j) H H4:=by
 obtain ⟨z,hz,X0⟩:=Sn;have hL:(bA x).length=2:=rfl;rcases ho with ⟨rfl,h0,h1,rfl⟩|⟨id,lo,gen,rfl,rfl,hg,P2,W0,hid⟩
 ·have Z3:out=[]:=List.eq_nil_of_length_eq_zero h0;subst Z3;have V2:i=0:=by simpa using hi
  subst V2;have y9:ff (H.new (.arr (bA x) 92 0 0)) 2 (.one (.o (.sl H.nx 0 0 1 2)))=some (1,bA x):=by
   rw[fK (cells:=bA x) (by rw[aB rfl];rfl) (by rw[hL];decide)];rfl
  have a2:=eQ (P:=Tryz.prog) (t:=43) fw lL hz X0 (by decide) y9 (by decide) (by decide);rw[zB1 (by decide)] at a2;have own3:dm ((H.new (.arr (bA x) 92 0 0)).new (.arr (bA x) 92 0 0)) (.o (.sl (H.nx+1) 0 0 1 2)) 92 2 1 (bA x) (some (H.nx+1)):=.inr ⟨H.nx+1,0,0,rfl,rfl,aB rfl,zA1 _,rfl,zA6 _⟩;refine ⟨.o .nilS,.o .nilS,.o .nilS,H,_,_,.o (.sl (H.nx+1) 0 0 1 2),_,H.nx+1,.inl ⟨rfl,rfl,rfl,rfl⟩,?_,fun _ h=>(by cases h),fun _ h=>(by cases h),a2,own3.lt,fun _ h=>(by cases h),mz fw lL hz X0 (by decide) own3 nY (by decide) (by decide),own3,.inr ⟨rfl,by omega⟩,Fr.refl _,((Fr.refl _).new _).new _⟩;rw[eQ fw lL hz X0 (by decide) nY (by decide) (by decide),zB0 rfl]
 have u_:(out.drop i).length=out.length - i:=List.length_drop;have L9:((out.flatMap bA).drop (0+i*2)).take ((out.length - i)*2)=(out.drop i).flatMap bA:=by
  have e:out.flatMap bA=(out.take i).flatMap bA++(out.drop i).flatMap bA:=by rw[←List.flatMap_append,List.take_append_drop]
  have l1:((out.take i).flatMap bA).length=i*2:=by rw[cj cX,List.length_take,Nat.min_eq_left hi]
  rw[Nat.zero_add,e,List.drop_append_of_le_length (by omega),List.drop_of_length_le (by omega),List.nil_append,List.take_of_length_le (by rw[cj cX,u_];exact zA1 _)]
 have B1:(out.flatMap bA).take (i*2)=(out.take i).flatMap bA:=by
  have e:out.flatMap bA=(out.take i).flatMap bA++(out.drop i).flatMap bA:=by rw[←List.flatMap_append,List.take_append_drop]
  have l1:((out.take i).flatMap bA).length=i*2:=by rw[cj cX,List.length_take,Nat.min_eq_left hi]
  rw[e,List.take_append_of_le_length (by omega),List.take_of_length_le (by omega)]
 have p8:(out.flatMap bA).length=out.length*2:=cj cX out;have hsrc1:ff H 2 (.one (.o (.sl id gen (0+i*2) (out.length - i) 2)))=some (out.length - i,(out.drop i).flatMap bA):=by
  rw[fK (cells:=out.flatMap bA) (by rw[hg];exact bF P2 (zA1 _)) (by rw[p8];omega),L9]
 have a1:=eQ (P:=Tryz.prog) (t:=43) fw lL hz X0 (by decide) hsrc1 (by omega) (by omega);obtain ⟨vr,H1,rr,b1,b2,b3,b4,b5⟩:∃ vr H1 rr,aL Tryz.prog H 43 (.one (.o .nilS)) (.one (.o (.sl id gen (0+i*2) (out.length - i) 2)))=.val (.one vr) H1∧dm H1 vr 92 2 (out.length - i) ((out.drop i).flatMap bA) rr∧Gr H H1∧(∀ q,rr=some q→H.nx≤q)∧(rr=none→out.length - i=0):=by
  by_cases m_:out.length - i=0
  ·rw[zB0 m_] at a1;exact ⟨.o .nilS,H,none,a1,.inl ⟨rfl,m_,List.eq_nil_of_length_eq_zero (by rw[cj cX,u_];omega),rfl⟩,Fr.refl _,fun _ h=>(by cases h),fun _=>m_⟩
  rw[zB1 m_] at a1;exact ⟨_,_,some H.nx,a1,.inr ⟨H.nx,0,0,rfl,rfl,aB rfl,zA1 _,by rw[cj cX,u_],zA6 _⟩,(Fr.refl _).new _,fun q h=>(by cases h;exact zA1 _),fun h=>(by cases h)⟩
 have M4:H1.get id=some (.arr (out.flatMap bA) 92 lo gen):=(b3.get _ hid zB2).trans hg;have hid1:=zA0 hid b3.nx;have hsrc2:ff (H1.new (.arr (bA x) 92 0 0)) 2 (.one (.o (.sl H1.nx 0 0 1 2)))=some (1,bA x):=by
  rw[fK (cells:=bA x) (by rw[aB rfl];rfl) (by rw[hL];decide)];rfl
 have X9:(H1.new (.arr (bA x) 92 0 0)).get id=some (.arr (out.flatMap bA) 92 lo gen):=(aW hid1).trans M4;obtain ⟨lo',c1,c2⟩:=Jg (P:=Tryz.prog) (t:=43) (at_:=i) fw lL hz X0 (by decide) X9 P2 (by rw[p8];omega) hsrc2 (by decide) (by omega) (by omega);rw[B1] at c2;have own3:dm ((H1.new (.arr (bA x) 92 0 0)).mod id (.arr ((out.take i).flatMap bA++bA x) 92 lo' (gen+1))) (.o (.sl id (gen+1) 0 (i+1) 2)) 92 2 (i+1) ((out.take i).flatMap bA++bA x) (some id):=.inr ⟨id,lo',gen+1,rfl,rfl,al rfl,c1,by rw[List.length_append,cj cX,List.length_take,Nat.min_eq_left hi,hL];omega,by show id<H1.nx+1;omega⟩;have f13:Fr (fun j=>j=id) H1 ((H1.new (.arr (bA x) 92 0 0)).mod id (.arr ((out.take i).flatMap bA++bA x) 92 lo' (gen+1))):=((Fr.refl _).new _).mod _ (.inr rfl);have f03:Fr (fun j=>some id=some j) H ((H1.new (.arr (bA x) 92 0 0)).mod id (.arr ((out.take i).flatMap bA++bA x) 92 lo' (gen+1))):=(b3.mono fun _ h=>h.elim).then f13 fun q hq=>.inr (by rw[hq]);have hvr3:dm ((H1.new (.arr (bA x) 92 0 0)).mod id (.arr ((out.take i).flatMap bA++bA x) 92 lo' (gen+1))) vr 92 2 (out.length - i) ((out.drop i).flatMap bA) rr:=b2.fr f13 fun q hq e=>by have:=b4 q hq;omega
 have Q4:(out.take i).flatMap bA++bA x++(out.drop i).flatMap bA=(out.take i++x::out.drop i).flatMap bA:=by
  rw[List.flatMap_append,List.flatMap_cons,List.append_assoc]
 have hve:ltV (.one (.o (.sl id gen 0 i 2))) H1.nx:=fun j hj=>by rw[List.mem_singleton.1 hj];exact hid1
 cases rr with
 | none=>
  have m_:=b5 rfl;have hd0:(out.drop i).flatMap bA=[]:=List.eq_nil_of_length_eq_zero (by rw[cj cX,u_];omega);have J5:vr=.o .nilS:=by
   rcases b2 with h|⟨_,_,_,h,_⟩
   ·exact h.1
   cases h
  subst J5;rw[hd0,List.append_nil] at Q4;refine ⟨_,_,.o .nilS,H1,_,_,_,_,id,.inr ⟨id,gen,rfl,rfl,rfl⟩,b1,fun _ h=>(by cases h),hve,c2,own3.lt,fun _ h=>(by cases h),mz fw lL hz X0 (by decide) own3 nY (by omega) (by omega),?_,.inl rfl,b3.mono fun _ h=>h.elim,f03⟩;rw[←Q4];have e:out.length+1=i+1:=by omega
  rw[e];exact own3
 | some q=>
  have hsrc3:ff ((H1.new (.arr (bA x) 92 0 0)).mod id (.arr ((out.take i).flatMap bA++bA x) 92 lo' (gen+1))) 2 (.one vr)=some (out.length - i,(out.drop i).flatMap bA):=by
   rcases hvr3 with ⟨_,_,_,h⟩|⟨id',lo2,gen2,h1,rfl,h3,h4,h5,h6⟩
   ·cases h
   rw[fK (by rw[h3];exact bF h4 (zA1 _)) (by rw[h5];omega),List.drop_zero,List.take_of_length_le (by rw[h5];exact zA1 _)]
  by_cases m_:out.length - i=0
  ·have hd0:(out.drop i).flatMap bA=[]:=List.eq_nil_of_length_eq_zero (by rw[cj cX,u_];omega);rw[m_] at hsrc3;rw[hd0,List.append_nil] at Q4;refine ⟨_,_,vr,H1,_,_,_,_,id,.inr ⟨id,gen,rfl,rfl,rfl⟩,b1,b2.lt,hve,c2,own3.lt,hvr3.lt,mz fw lL hz X0 (by decide) own3 hsrc3 (by omega) (by omega),?_,.inl rfl,b3.mono fun _ h=>h.elim,f03⟩;rw[←Q4];have e:out.length+1=i+1:=by omega
   rw[e];exact own3
  obtain ⟨v',H4,r',d1,d2,d3,d4⟩:=oW (P:=Tryz.prog) (t:=43) fw lL hz X0 (by decide) own3 hsrc3 m_ (by rw[cj cX,u_]) (by omega) (by omega);have E3:r'=id:=by
   rcases d4 with h|⟨h,_⟩
   ·exact (Option.some.inj h).symm
   cases h
  subst E3;refine ⟨_,_,vr,H1,_,_,v',H4,r',.inr ⟨r',gen,rfl,rfl,rfl⟩,b1,b2.lt,hve,c2,own3.lt,hvr3.lt,d1,?_,.inl rfl,b3.mono fun _ h=>h.elim,f03.then d3 fun q hq=>.inr hq⟩;rw[←Q4];have e:out.length+1=i+1+(out.length - i):=by omega
  rw[e];exact d2
theorem LJ (x:Lot):∀ (l:List Lot) (i:Nat),i≤l.length→(∀ j y,j<i→l[j]?=some y→bj y.1 x.1=true)→(∀ y,l[i]?=some y→bj y.1 x.1=false)→mc l x=l.take i++x::l.drop i
 | [],i,hi,_,_=>by
  have:i=0:=by simpa using hi
  subst this;rfl
 | y::l,0,_,_,h2=>by
  have:=h2 y rfl;rw[mc,zB1 (by rw[this];exact zA8)];rfl
 | y::l,i+1,hi,h1,h2=>by
  have:=h1 0 y (Nat.succ_pos _) rfl;rw[mc,zB0 this,LJ x l i (by simpa using hi) (fun j z hj hz=>h1 (j+1) z (by omega) (by simpa using hz)) fun z hz=>h2 z (by simpa using hz)];rfl
theorem Mc (ls:List Lad):∀ (gs acc:List Gd),goG ls acc gs=0→∀ (k:Nat) (g:Gd),gs[k]?=some g→bp 0 (acc++gs) g.1=((acc.length+k:Nat):Int)
 | [],_,_,k,g,h=>by cases h
 | x::gs,acc,h,k,g,hk=>by
  unfold goG at h;split at h
  ·cases h
  split at h
  ·cases h
  rename_i c2
  split at h
  ·cases h
  split at h
  ·cases h
  cases k with
  | zero=>
   cases hk
   have C7:∀ (n:Nat) (l:List Gd) (s:List UInt8) (rest:List Gd),¬0≤bp n l s→bp n (l++rest) s=bp (n+l.length) rest s:=fun n l=>by
    induction l generalizing n with
    | nil=>intro s rest _;rfl
    | cons y l ih=>
     intro s rest hn;rw[bp] at hn;rw[List.cons_append,bp];by_cases hy:y.1=s
     ·rw[zB0 hy] at hn;omega
     rw[zB1 hy] at hn;rw[zB1 hy,ih (n+1) s rest hn,List.length_cons];congr 1;omega
   rw[C7 0 acc x.1 (x::gs) c2,bp,zB0 rfl,Nat.zero_add];rfl
  | succ k=>
   have:=Mc ls gs (acc++[x]) h k g (by simpa using hk);rw[List.append_assoc,List.length_append,List.length_singleton] at this;have e:acc.length+1+k=acc.length+(k+1):=by omega
   rw[e] at this;exact this
theorem Tg {o:Option (List Lad)} {gs:List Gd} (h:jS o gs=0) (k:Nat) (g:Gd) (hk:gs[k]?=some g):bp 0 gs g.1=(k:Int):=by
 cases o with
 | none=>cases h
 | some ls=>
  have h':(if (32:Int)<gs.length then 3 else goG ls [] gs)=0:=h;by_cases c:(32:Int)<gs.length
  ·rw[zB0 c] at h';cases h'
  rw[zB1 c] at h';have:=Mc ls gs [] h' k g hk;rwa [List.nil_append,List.length_nil,Nat.zero_add] at this
end Go.Proofs.YtnhbkodnmkojpaaGreat
end
