/- A part of the proof: BkSw4, BkSw5, BkSw6, BkSw7, BkSw8. No conditions. -/
import Derived.Test.YtnhbkodnmkojpaaGreatSAo
import Derived.Sort.LotD5
import Derived.Sort.LotC
set_option maxRecDepth 100000
set_option maxHeartbeats 64000000
set_option linter.unusedVariables false
set_option linter.unusedSimpArgs false
namespace Go.Proofs.YtnhbkodnmkojpaaGreat
open Go Go.Eng
theorem BH:al Tryz.prog 196=true:=by kernel_rfl
theorem Ce:al Tryz.prog 183=true:=by kernel_rfl
theorem Bo:al Tryz.prog 182=true:=by kernel_rfl
theorem Vh:al Tryz.prog 149=true:=by kernel_rfl
def Ctr (H:Hp) (q k:Nat):Prop:=H.get q=some (.arr [.i .i64 (k:Int)] 3 0 0)∧q<H.nx
section
variable {α:Type} [Inhabited α] {c:α→List AC} {cf:α→α→Int} {cl N:Nat}
theorem wS (hm:Cmp c cf cl N) (H:Hp) (id gen n:Nat) (d:Array α) (a b q k:Nat) (hs:Srt c H id gen n d) (hq:Ctr H q k) (C_:q≠id) (hN:N≤H.nx) (ha:a<n) (hb:b<n) (hn:n≤1099511627776) (hk:k≤1000):
  Con E2 196 [.one (.o (.sl id gen 0 n 2)),.one (.i .i64 a),.one (.i .i64 b),.one (.o (.ptr q 0 0 1)),.one (.o (.clo cl []))] H (fun j=>j=q) fun r H'=>r=.tup [(false,[.i .i64 ((Go.Sort.order2 (ltF cf) d a b k).1:Int)]),(false,[.i .i64 ((Go.Sort.order2 (ltF cf) d a b k).2.1:Int)])]∧Ctr H' q (Go.Sort.order2 (ltF cf) d a b k).2.2:=by
 have X6:=hm.bd;refine Con.of rfl fun lg=>?_;have hs:Srt c ⟨H.t,H.nx,lg⟩ id gen n d:=hs;have hN:N≤(⟨H.t,H.nx,lg⟩:Hp).nx:=hN;have hq:Ctr ⟨H.t,H.nx,lg⟩ q k:=hq;generalize (⟨H.t,H.nx,lg⟩:Hp)=H at hs hN hq ⊢;refine C1.body (E:=E2) (nt:=32) (res:=[.tmp 10,.tmp 11]) Tryz.func196 rfl rfl rfl rfl rfl fun tm A0=>?_;have h0:=A0 0 _ rfl;have h1:=A0 1 _ rfl;have h2:=A0 2 _ rfl;have h3:=A0 3 _ rfl;have h4:=A0 4 _ rfl;clear A0;generalize E0:Go.Sort.order2 (ltF cf) d a b k=R;have fin:∀ (A:ab) (H3:Hp) (x y:Nat),slot A.tm 10=.one (.i .i64 (x:Int))→slot A.tm 11=.one (.i .i64 (y:Int))→A.dfr=[]→Fr (fun j=>j=q) H H3→Ctr H3 q R.2.2→x=R.1→y=R.2.1→∃ w H4,aC E2 [.tmp 10,.tmp 11] (.ret,A,H3)=.ok [(w,H4)]∧Fr (fun j=>j=q) H H4∧∀ lg':List Nat,w=.tup [(false,[.i .i64 (R.1:Int)]),(false,[.i .i64 (R.2.1:Int)])]∧Ctr ⟨H4.t,H4.nx,lg'⟩ q R.2.2:=fun A H3 x y h1 h2 hd h3 h4 h5 h6=>⟨_,H3,aM (.i .i64 x) (.i .i64 y) (.inr rfl) hd h1 h2,h3,fun _=>⟨by rw[h5,h6],h4⟩⟩;have hid:=hs.lt;have M0:=hs.sz;obtain ⟨lo,B2,hg⟩:=hs.row;obtain ⟨T7,P2⟩:=hq;have lv:=hm.ltH hN;have R0:=hm.len;have d1:a<d.size:=by omega
 have d2:b<d.size:=by omega
 replace E0:Hd _:=E0;replace M0:Hd _:=M0;replace d1:Hd _:=d1;replace d2:Hd _:=d2;refine zW tyF ?_;refine zG (qA tyF (qA (ixC ha) (qA (ixC hb) (rdQ hm.len d1.out d2.out)))) fun K hK=>?_;refine WE.con (hm.con H d[b]! d[a]! hN) fun w' H5 g5 O4=>?_;subst O4;have hg:=(g5.get _ hid zB2).trans hg;have hid:=zA0 hid g5.nx;have T7:=(g5.get _ P2 zB2).trans T7;have P2:=zA0 P2 g5.nx;have f5:Fr (fun j=>j=q) H H5:=(Fr.refl _).then g5 fun _ h=>h.elim;have F0:=E0.out;unfold Go.Sort.order2 at F0;by_cases B3:cf d[b]! d[a]!<0
 ·rw[zB0 (show ltF cf d[b]! d[a]! = true from decide_eq_true B3)] at F0;have hwk:=zC0 k (by omega);clear E0;replace F0:Hd _:=F0;refine zK tyF ?_;exact fin _ _ b a qp qp qe (f5.mod _ (.inr rfl)) ⟨by rw[←F0.out];exact aj rfl,P2⟩ (by rw[←F0.out]) (by rw[←F0.out])
 rw[zB1 (by unfold ltF;rw[decide_eq_false B3];decide)] at F0;clear E0;replace F0:Hd _:=F0;refine zK tyF ?_;exact fin _ _ a b qp qp qe f5 ⟨by rw[←F0.out];exact T7,P2⟩ (by rw[←F0.out]) (by rw[←F0.out])
theorem vD {lt:α→α→Bool} {d:Array α} {a b k n:Nat} (ha:a<n) (hb:b<n):(Go.Sort.order2 lt d a b k).1<n∧(Go.Sort.order2 lt d a b k).2.1<n∧(Go.Sort.order2 lt d a b k).2.2≤k+1:=by
 unfold Go.Sort.order2;split
 ·exact ⟨hb,ha,zA1 _⟩
 exact ⟨ha,hb,Nat.le_succ _⟩
theorem vc (hm:Cmp c cf cl N) (H:Hp) (id gen n:Nat) (d:Array α) (a b e q k:Nat) (hs:Srt c H id gen n d) (hq:Ctr H q k) (C_:q≠id) (hN:N≤H.nx) (ha:a<n) (hb:b<n) (he:e<n) (hn:n≤1099511627776) (hk:k≤100):
  Con E2 183 [.one (.o (.sl id gen 0 n 2)),.one (.i .i64 a),.one (.i .i64 b),.one (.i .i64 e),.one (.o (.ptr q 0 0 1)),.one (.o (.clo cl []))] H (fun j=>j=q) fun r H'=>r=.one (.i .i64 ((Go.Sort.median (ltF cf) d a b e k).1:Int))∧Ctr H' q (Go.Sort.median (ltF cf) d a b e k).2:=by
 refine Con.of rfl fun lg=>?_;have hs:Srt c ⟨H.t,H.nx,lg⟩ id gen n d:=hs;have hN:N≤(⟨H.t,H.nx,lg⟩:Hp).nx:=hN;have hq:Ctr ⟨H.t,H.nx,lg⟩ q k:=hq;generalize (⟨H.t,H.nx,lg⟩:Hp)=H at hs hN hq ⊢;refine C1.body (E:=E2) (nt:=41) (res:=[.tmp 12]) Tryz.func183 rfl rfl rfl rfl rfl fun tm A0=>?_;have h0:=A0 0 _ rfl;have h1:=A0 1 _ rfl;have h2:=A0 2 _ rfl;have h3:=A0 3 _ rfl;have h4:=A0 4 _ rfl;have h5:=A0 5 _ rfl;clear A0;generalize E0:Go.Sort.median (ltF cf) d a b e k=R;unfold Go.Sort.median at E0;have hid:=hs.lt;have x9:=hq.2;replace E0:Hd _:=E0;refine zW tyF ?_;refine zG (qA tyF BH) fun K hK=>?_;refine WE.con (wS hm H id gen n d a b q k hs hq C_ hN ha hb hn (by omega)) fun w' H1 g1 ⟨hw,T7⟩=>?_;subst hw;obtain ⟨x1,x2,x3⟩:=@vD α _ (ltF cf) d a b k n ha hb;generalize Go.Sort.order2 (ltF cf) d a b k=r1 at E0 T7 x1 x2 x3 ⊢;have V1:=hs.fr g1 (fun h=>C_ h.symm);have hid1:=V1.lt;have hql1:=T7.2;have J':=zA2 hN g1.nx;refine zK tyF ?_;refine zG (qA tyF BH) fun K hK=>?_;refine WE.con (wS hm H1 id gen n d r1.2.1 e q r1.2.2 V1 T7 C_ J' x2 he hn (by omega)) fun w' H2 g2 ⟨hw,P2⟩=>?_;subst hw;obtain ⟨y1,y2,y3⟩:=@vD α _ (ltF cf) d r1.2.1 e r1.2.2 n x2 he;have F0:(let r3:=Go.Sort.order2 (ltF cf) d r1.1 (Go.Sort.order2 (ltF cf) d r1.2.1 e r1.2.2).1 (Go.Sort.order2 (ltF cf) d r1.2.1 e r1.2.2).2.2;(r3.2.1,r3.2.2))=R:=E0.out;clear E0;generalize Go.Sort.order2 (ltF cf) d r1.2.1 e r1.2.2=r2 at F0 P2 y1 y2 y3 ⊢;have D3:=V1.fr g2 (fun h=>C_ h.symm);have U':=D3.lt;have hql2:=P2.2;have hN2:=zA2 J' g2.nx;replace F0:Hd _:=F0;refine zK tyF ?_;refine zG (qA tyF BH) fun K hK=>?_;refine WE.con (wS hm H2 id gen n d r1.1 r2.1 q r2.2.2 D3 P2 C_ hN2 x1 y1 hn (by omega)) fun w' H3 g3 ⟨hw,O5⟩=>?_;subst hw;have I0:=F0.out;clear F0;generalize Go.Sort.order2 (ltF cf) d r1.1 r2.1 r2.2.2=r3 at I0 O5 ⊢
 replace I0:(r3.2.1,r3.2.2)=R:=I0;replace I0:Hd _:=I0;refine zK tyF ?_;exact ⟨_,_,ai (.i .i64 (r3.2.1:Int)) (.inr rfl) qe qp,(g1.then g2 fun _ h=>.inr h).then g3 (fun _ h=>.inr h),fun _=>by rw[←I0.out];exact ⟨rfl,O5⟩⟩
theorem Iq {lt:α→α→Bool} {d:Array α} {a b e k n:Nat} (ha:a<n) (hb:b<n) (he:e<n):(Go.Sort.median lt d a b e k).1<n∧(Go.Sort.median lt d a b e k).2≤k+3:=by
 obtain ⟨x1,x2,x3⟩:=@vD α _ lt d a b k n ha hb;obtain ⟨y1,y2,y3⟩:=@vD α _ lt d (Go.Sort.order2 lt d a b k).2.1 e (Go.Sort.order2 lt d a b k).2.2 n x2 he;obtain ⟨z1,z2,z3⟩:=@vD α _ lt d (Go.Sort.order2 lt d a b k).1 (Go.Sort.order2 lt d (Go.Sort.order2 lt d a b k).2.1 e (Go.Sort.order2 lt d a b k).2.2).1 (Go.Sort.order2 lt d (Go.Sort.order2 lt d a b k).2.1 e (Go.Sort.order2 lt d a b k).2.2).2.2 n x1 y1;exact ⟨z2,by unfold Go.Sort.median;show _≤_;dsimp only;omega⟩
theorem wL (hm:Cmp c cf cl N) (H:Hp) (id gen n:Nat) (d:Array α) (a q k:Nat) (hs:Srt c H id gen n d) (hq:Ctr H q k) (C_:q≠id) (hN:N≤H.nx) (h1:1≤a) (ha:a+1<n) (hn:n≤1099511627776) (hk:k≤100):
  Con E2 182 [.one (.o (.sl id gen 0 n 2)),.one (.i .i64 a),.one (.o (.ptr q 0 0 1)),.one (.o (.clo cl []))] H (fun j=>j=q) fun r H'=>r=.one (.i .i64 ((Go.Sort.medianAdjacent (ltF cf) d a k).1:Int))∧Ctr H' q (Go.Sort.medianAdjacent (ltF cf) d a k).2:=by
 have h1a:=h1;clear h1;refine Con.of rfl fun lg=>?_;have hs:Srt c ⟨H.t,H.nx,lg⟩ id gen n d:=hs;have hN:N≤(⟨H.t,H.nx,lg⟩:Hp).nx:=hN;have hq:Ctr ⟨H.t,H.nx,lg⟩ q k:=hq;generalize (⟨H.t,H.nx,lg⟩:Hp)=H at hs hN hq ⊢;refine C1.body (E:=E2) (nt:=18) (res:=[.tmp 8]) Tryz.func182 rfl rfl rfl rfl rfl fun tm A0=>?_;have h0:=A0 0 _ rfl;have h1:=A0 1 _ rfl;have h2:=A0 2 _ rfl;have h3:=A0 3 _ rfl;clear A0;unfold Go.Sort.medianAdjacent;generalize E0:Go.Sort.median (ltF cf) d (a - 1) a (a+1) k=R;replace E0:Hd _:=E0;have hid:=hs.lt;have x9:=hq.2;have D4:IntKind.i64.wrap ((a:Int) - 1)=((a - 1:Nat):Int):=by rw[au (by omega) (by omega)];omega
 have J1:=zC0 a (by omega);refine zW tyF ?_;refine zG (qA tyF Ce) fun K hK=>?_;refine WE.con (vc hm H id gen n d (a - 1) a (a+1) q k hs hq C_ hN (by omega) (by omega) ha hn hk) fun w' H1 g1 ⟨hw,T7⟩=>?_;subst hw;rw[E0.out] at T7 ⊢;refine zK tyF ?_;exact ⟨_,_,ai (.i .i64 (R.1:Int)) (.inr rfl) qe qp,g1,fun _=>⟨rfl,T7⟩⟩
theorem IY {lt:α→α→Bool} {d:Array α} {a k n:Nat} (ha:a+1<n):(Go.Sort.medianAdjacent lt d a k).1<n∧(Go.Sort.medianAdjacent lt d a k).2≤k+3:=Iq (by omega) (by omega) ha
def wk:Go.Sort.Hint→Int
 | .unknown=>0
 | .increasing=>1
 | .decreasing=>2
theorem Pu (hm:Cmp c cf cl N) (H:Hp) (id gen n:Nat) (d:Array α) (a b:Nat) (hs:Srt c H id gen n d) (hN:N≤H.nx) (F4:a<b) (hb:b≤n) (hn:n≤1099511627776):
  Con E2 149 [.one (.o (.sl id gen 0 n 2)),.one (.i .i64 a),.one (.i .i64 b),.one (.o (.clo cl []))] H (fun _=>False) fun r H'=>r=.tup [(false,[.i .i64 ((Go.Sort.choosePivot (ltF cf) d a b).1:Int)]),(false,[.i .i64 (wk (Go.Sort.choosePivot (ltF cf) d a b).2)])]:=by
 refine Con.of rfl fun lg=>?_;have hs:Srt c ⟨H.t,H.nx,lg⟩ id gen n d:=hs;have hN:N≤(⟨H.t,H.nx,lg⟩:Hp).nx:=hN;generalize (⟨H.t,H.nx,lg⟩:Hp)=H at hs hN ⊢;refine C1.body (E:=E2) (nt:=63) (res:=[.tmp 8,.tmp 9]) Tryz.func149 rfl rfl rfl rfl rfl fun tm A0=>?_;have h0:=A0 0 _ rfl;have h1:=A0 1 _ rfl;have h2:=A0 2 _ rfl;have h3:=A0 3 _ rfl;clear A0;generalize E0:Go.Sort.choosePivot (ltF cf) d a b=R;unfold Go.Sort.choosePivot at E0;dsimp only at E0
 have fin:∀ (A:ab) (H3:Hp) (x:Nat) (y:Int) (h:Go.Sort.Hint),slot A.tm 8=.one (.i .i64 (x:Int))→slot A.tm 9=.one (.i .i64 y)→y=wk h→A.dfr=[]→Gr H H3→(x,h)=R→∃ w H4,aC E2 [.tmp 8,.tmp 9] (.ret,A,H3)=.ok [(w,H4)]∧Gr H H4∧∀ lg':List Nat,w=.tup [(false,[.i .i64 (R.1:Int)]),(false,[.i .i64 (wk R.2)])]:=fun A H3 x y h h1 h2 hy hd h3 h4=>⟨_,H3,aM (.i .i64 x) (.i .i64 y) (.inr rfl) hd h1 h2,h3,fun _=>by rw[←h4,hy]⟩;have hid:=hs.lt;obtain ⟨w,hw⟩:∃ w,w=b - a:=⟨_,rfl⟩;have hw0:IntKind.i64.wrap ((b:Int) - (a:Int))=(w:Int):=by rw[au (by omega) (by omega)];omega
 have hwq:IntKind.i64.wrap ((w:Int).tdiv 4)=((w / 4:Nat):Int):=by rw[Int.tdiv_eq_ediv_of_nonneg (by omega),au (by omega) (by omega)];omega
 have D4:IntKind.i64.wrap (((w / 4:Nat):Int)*1)=((w / 4*1:Nat):Int):=by rw[au (by omega) (by omega)];omega
 have J1:IntKind.i64.wrap (((w / 4:Nat):Int)*2)=((w / 4*2:Nat):Int):=by rw[au (by omega) (by omega)];omega
 have Q7:IntKind.i64.wrap (((w / 4:Nat):Int)*3)=((w / 4*3:Nat):Int):=by rw[au (by omega) (by omega)];omega
 have D2:IntKind.i64.wrap ((a:Int)+((w / 4*1:Nat):Int))=((a+w / 4*1:Nat):Int):=by rw[au (by omega) (by omega)];omega
 have N2:IntKind.i64.wrap ((a:Int)+((w / 4*2:Nat):Int))=((a+w / 4*2:Nat):Int):=by rw[au (by omega) (by omega)];omega
 have F6:IntKind.i64.wrap ((a:Int)+((w / 4*3:Nat):Int))=((a+w / 4*3:Nat):Int):=by rw[au (by omega) (by omega)];omega
 rw[←hw] at E0;generalize u6:a+w / 4*1=i1 at E0 D2;generalize W9:a+w / 4*2=i2 at E0 N2;generalize hi3:a+w / 4*3=i3 at E0 F6;have c1:i1<n:=by omega
 have c2:i2<n:=by omega
 have c3:i3<n:=by omega
 replace E0:Hd _:=E0;replace hw:Hd _:=hw;replace u6:Hd _:=u6;replace W9:Hd _:=W9;replace hi3:Hd _:=hi3;refine zW (qA tyF (qA arQ (JE (show (4:Int)≠0 by decide)))) ?_;have gA:Gr H (H.new (.arr [.i .i64 0] 3 0 0)):=(Fr.refl _).new _;have hsA:Srt c (H.new (.arr [.i .i64 0] 3 0 0)) id gen n d:=hs.fr gA zB2;have hqA:Ctr (H.new (.arr [.i .i64 0] 3 0 0)) H.nx 0:=⟨aG rfl,zA6 _⟩;have L8:H.nx≠id:=by omega
 have hqH:H.nx≤H.nx:=zA1 _;generalize s_:H.nx=q at hqA L8 ⊢;replace hqH:H.nx≤q:=by omega
 refine R1.gen (fun A1 H1=>Gr H H1∧Srt c H1 id gen n d∧Ctr H1 q 0∧slot A1.tm 0=.one ((.o (.sl id gen 0 n 2)))∧slot A1.tm 3=.one ((.o (.clo cl [])))∧slot A1.tm 10=.one (.i .i64 (w:Int))∧slot A1.tm 11=.one ((.o (.ptr q 0 0 1)))∧slot A1.tm 12=.one (.i .i64 (i1:Int))∧slot A1.tm 13=.one (.i .i64 (i2:Int))∧slot A1.tm 14=.one (.i .i64 (i3:Int))∧slot A1.tm 34=.one (.b (decide ((8:Int)≤(w:Int))))∧A1.nt=63∧A1.dfr=[]) ⟨gA,hsA,hqA,zL⟩ ?_;clear h0 h1 h2 h3 tm hs hid D2 N2 F6 hw0 D4 J1 Q7 hwq gA hsA hqA s_;rintro A H1 ⟨g1,hs,hq,t0,t3,t10,t11,t12,t13,t14,t34,B0,C0⟩;have J':=zA2 hN g1.nx;have hid:=hs.lt;have x9:=hq.2;refine R1.gW (fun B H3=>∃ x k:Nat,Gr H H3∧Ctr H3 q k∧k≤100∧Hd ((x,if k=0 then Go.Sort.Hint.increasing else if k=12 then Go.Sort.Hint.decreasing else Go.Sort.Hint.unknown)=R)∧slot B.tm 11=.one ((.o (.ptr q 0 0 1)))∧slot B.tm 13=.one (.i .i64 (x:Int))∧B.nt=63∧B.dfr=[]) (fun K m1 m2 m3=>?_) ?_
 ·have F0:=E0.out;by_cases h8:8≤w
  ·rw[zB0 h8] at F0;have h8i:(8:Int)≤(w:Int):=by omega
   by_cases h50:50≤w
   ·rw[zB0 h50] at F0;have h50i:(50:Int)≤(w:Int):=by omega
    have e1:=u6.out;have e2:=W9.out;have e3:=hi3.out;have ew:=hw.out;have p1:1≤i1∧i1+1<n:=by omega
    have p2:1≤i2∧i2+1<n:=by omega
    have p3:1≤i3∧i3+1<n:=by omega
    clear e1 e2 e3 ew E0;obtain ⟨x1,y1⟩:=@IY α _ (ltF cf) d i1 0 n p1.2;have k1:=wL hm H1 id gen n d i1 q 0 hs hq L8 J' p1.1 p1.2 hn (by omega);generalize Go.Sort.medianAdjacent (ltF cf) d i1 0=r1 at F0 x1 y1 k1;replace F0:Hd _:=F0;replace p1:Hd _:=p1;replace p2:Hd _:=p2;replace p3:Hd _:=p3;replace k1:Hd (Con E2 _ _ _ _ _):=k1;refine zW tyF ?_;refine zG (qA tyF Bo) fun K5 q7=>?_;refine WE.con k1.out fun w' H2 g2 ⟨U1,P2⟩=>?_;subst U1;clear k1;have D3:=hs.fr g2 (fun h=>L8 h.symm);have U':=D3.lt;have hql2:=P2.2;have hN2:=zA2 J' g2.nx;obtain ⟨x2,y2⟩:=@IY α _ (ltF cf) d i2 r1.2 n p2.out.2;have k2:=wL hm H2 id gen n d i2 q r1.2 D3 P2 L8 hN2 p2.out.1 p2.out.2 hn (by omega);have F0:=F0.out;generalize Go.Sort.medianAdjacent (ltF cf) d i2 r1.2=r2 at F0 x2 y2 k2;replace F0:Hd _:=F0;replace k2:Hd (Con E2 _ _ _ _ _):=k2;refine zK tyF ?_;refine zG (qA tyF Bo) fun K5 q7=>?_;refine WE.con k2.out fun w' H3 g3 ⟨U1,O5⟩=>?_;subst U1;clear k2;have r_:=D3.fr g3 (fun h=>L8 h.symm);have z8:=r_.lt;have hql3:=O5.2;have y_:=zA2 hN2 g3.nx;obtain ⟨x3,y3⟩:=@IY α _ (ltF cf) d i3 r2.2 n p3.out.2;have k3:=wL hm H3 id gen n d i3 q r2.2 r_ O5 L8 y_ p3.out.1 p3.out.2 hn (by omega);have F0:=F0.out;generalize Go.Sort.medianAdjacent (ltF cf) d i3 r2.2=r3 at F0 x3 y3 k3;replace F0:Hd _:=F0;replace k3:Hd (Con E2 _ _ _ _ _):=k3;refine zK tyF ?_;refine zG (qA tyF Bo) fun K5 q7=>?_;refine WE.con k3.out fun w' H4 g4 ⟨U1,a8⟩=>?_;subst U1;clear k3;have I2:=r_.fr g4 (fun h=>L8 h.symm);have S3:=I2.lt;have hql4:=a8.2;have hN4:=zA2 y_ g4.nx;obtain ⟨x4,y4⟩:=@Iq α _ (ltF cf) d r1.1 r2.1 r3.1 r3.2 n x1 x2 x3;have k4:=vc hm H4 id gen n d r1.1 r2.1 r3.1 q r3.2 I2 a8 L8 hN4 x1 x2 x3 hn (by omega);have F0:=F0.out;generalize Go.Sort.median (ltF cf) d r1.1 r2.1 r3.1 r3.2=r4 at F0 x4 y4 k4;replace F0:Hd _:=F0
    replace k4:Hd (Con E2 _ _ _ _ _):=k4;refine zK tyF ?_;refine zG (qA tyF Ce) fun K5 q7=>?_;refine WE.con k4.out fun w' H5 g5 ⟨U1,y9⟩=>?_;subst U1;clear k4;refine zK tyF ?_;refine m1.out _ _ ?_;exact ⟨r4.1,r4.2,g1.then ((((g2.then g3 fun _ h=>.inr h).then g4 fun _ h=>.inr h).then g5 fun _ h=>.inr h)) (fun j h=>by subst h;exact .inl hqH),y9,by omega,F0,zL⟩
   rw[zB1 h50] at F0;have h50i:¬(50:Int)≤(w:Int):=by omega
   obtain ⟨x4,y4⟩:=@Iq α _ (ltF cf) d i1 i2 i3 0 n c1 c2 c3;have k4:=vc hm H1 id gen n d i1 i2 i3 q 0 hs hq L8 J' c1 c2 c3 hn (by omega);generalize Go.Sort.median (ltF cf) d i1 i2 i3 0=r4 at F0 x4 y4 k4;clear E0;replace F0:Hd _:=F0;replace k4:Hd (Con E2 _ _ _ _ _):=k4;refine zW tyF ?_;refine zG (qA tyF Ce) fun K5 q7=>?_;refine WE.con k4.out fun w' H5 g5 ⟨U1,y9⟩=>?_;subst U1;clear k4;refine zK tyF ?_;refine m1.out _ _ ?_;exact ⟨r4.1,r4.2,g1.then g5 (fun j h=>by subst h;exact .inl hqH),y9,by omega,F0,zL⟩
  rw[zB1 h8] at F0;have h8i:¬(8:Int)≤(w:Int):=by omega
  clear E0;replace F0:Hd _:=F0;refine zW tyF ?_;refine m1.out _ _ ?_;exact ⟨i2,0,g1,hq,by omega,F0,zL⟩
 clear t0 t3 t10 t11 t12 t13 t14 t34 B0 C0 A E0 hs hq hid x9 g1 H1 J';rintro A H3 ⟨x,k,g3,hq,hk,hr,t11,t13,B0,C0⟩;obtain ⟨q1,q2⟩:=hq;have F0:=hr.out;clear hr;by_cases k0:k=0
 ·rw[zB0 k0] at F0;have kb:((k:Int)==0)=true:=by rw[k0];rfl
  replace F0:Hd _:=F0;replace k0:Hd _:=k0;refine zW tyF ?_;refine R1.dM fun K2 u1 u2 u3 u4=>?_;refine zW tyF ?_;refine u4.out _ _ ?_;exact fin _ _ x 1 .increasing qp qp rfl qe g3 F0.out
 rw[zB1 k0] at F0;have kb:((k:Int)==0)=false:=zB5 (by omega);replace k0:Hd _:=k0;by_cases k12:k=12
 ·rw[zB0 k12] at F0;have kc:((k:Int)==12)=true:=by rw[k12];rfl
  replace F0:Hd _:=F0;replace k12:Hd _:=k12;refine zW tyF ?_;refine R1.dM fun K2 u1 u2 u3 u4=>?_;refine zW tyF ?_;refine u4.out _ _ ?_;exact fin _ _ x 2 .decreasing qp qp rfl qe g3 F0.out
 rw[zB1 k12] at F0;have kc:((k:Int)==12)=false:=zB5 (by omega);replace F0:Hd _:=F0;replace k12:Hd _:=k12;refine zW tyF ?_;refine R1.dM fun K2 u1 u2 u3 u4=>?_;refine zW tyF ?_;refine u4.out _ _ ?_;exact fin _ _ x 0 .unknown qp qp rfl qe g3 F0.out
end
theorem XA:al Tryz.prog 150=true:=by kernel_rfl
theorem ID:al Tryz.prog 87=true:=by kernel_rfl
theorem Qf:al Tryz.prog 155=true:=by kernel_rfl
theorem UU:al Tryz.prog 180=true:=by kernel_rfl
theorem Uq:al Tryz.prog 181=true:=by kernel_rfl
theorem Yj:al Tryz.prog 148=true:=by kernel_rfl
theorem tyU:type_of% (qA tyF (qA SI (qA Pn (qA RF (qA Ri (qA Sx (qA SM (qA Tv (qA PL (qA KW (qA KD (qA Kn (qA LQ (qA WN (qA WJ (qA arQ YF)))))))))))))))):=qA tyF (qA SI (qA Pn (qA RF (qA Ri (qA Sx (qA SM (qA Tv (qA PL (qA KW (qA KD (qA Kn (qA LQ (qA WN (qA WJ (qA arQ YF)))))))))))))))
theorem cvQ {s t:TypeId} {ks kt:IntKind} (hs:Tryz.prog.underlying s=some (.int ks)) (ht:Tryz.prog.underlying t=some (.int kt)):(∀ (tm:PT AV) (H:Hp) (d:Option Tmp) (ty:TypeId) (pos:String) (af:Array Edge) (g:Option (Nat×Bool)) (x:Operand),an Tryz.prog tm H ⟨d,.convert s t x,ty,pos,af,g⟩=Wl (fun _ a=>.i kt (kt.wrap a)) H (bD Tryz.prog tm H ⟨d,.convert s t x,ty,pos,af,g⟩) (ev tm x)) ∧
  (∀ (H:Hp) (alt:ad) (k:IntKind) (a:Int),Wl (fun _ a=>.i kt (kt.wrap a)) H alt (.one (.i k a))=.val (.one (.i kt (kt.wrap a))) H):=⟨fun _ _ _ _ _ _ _ _=>JC hs ht,fun _ _ _ _=>rfl⟩
theorem ixS:(∀ {st:Bool} {E:Env} {A:ab} {d:Option Tmp} {H:Hp} {next:ab→Hp→Prop} {ty:TypeId} {pos:String} {af:Array Edge} {gd:Option (Nat×Bool)} {t:TypeId} {x i:Operand},SK st E ⟨d,.index t x i,ty,pos,af,gd⟩ A H next=vN next A d (iI H (mz E.P t) (ev A.tm x) (ev A.tm i) (an E.P A.tm H ⟨d,.index t x i,ty,pos,af,gd⟩)))∧mz Tryz.prog 9=true ∧
  (∀ {st:Bool} {E:Env} {A:ab} {d:Option Tmp} {H:Hp} {next:ab→Hp→Prop} {ty:TypeId} {pos:String} {af:Array Edge} {gd:Option (Nat×Bool)} {a b:TypeId} {x:Operand},SK st E ⟨d,.convert a b x,ty,pos,af,gd⟩ A H next=vN next A d (an E.P A.tm H ⟨d,.convert a b x,ty,pos,af,gd⟩)):=⟨mK,xh,IK⟩
section
variable {α:Type} [Inhabited α] {c:α→List AC} {cf:α→α→Int} {cl N:Nat}
theorem Vg (hm:Cmp c cf cl N) (H:Hp) (id gen n:Nat) (d:Array α) (a b:Nat) (hs:Srt c H id gen n d) (hN:N≤H.nx) (F4:a<b) (hb:b≤n) (hn:n≤1099511627776):
  Con E2 150 [.one (.o (.sl id gen 0 n 2)),.one (.i .i64 a),.one (.i .i64 b),.one (.o (.clo cl []))] H (fun k=>k=id) fun r H'=>r=.tup []∧Srt c H' id gen n (Go.Sort.reverseRange d a b):=by
 refine Con.of rfl fun lg=>?_;have hs:Srt c ⟨H.t,H.nx,lg⟩ id gen n d:=hs;have hN:N≤(⟨H.t,H.nx,lg⟩:Hp).nx:=hN;generalize (⟨H.t,H.nx,lg⟩:Hp)=H at hs hN ⊢;refine C1.body (E:=E2) (nt:=34) (res:=[]) Tryz.func150 rfl rfl rfl rfl rfl fun tm A0=>?_;have h0:=A0 0 _ rfl;have h1:=A0 1 _ rfl;have h2:=A0 2 _ rfl;have h3:=A0 3 _ rfl;clear A0;unfold Go.Sort.reverseRange;generalize E0:Go.Sort.reverseLoop a (b - 1) d=R;have fin:∀ (e:ax) (A:ab) (H3:Hp) (dc:Array α),(e=.normal∨e=.ret)→A.dfr=[]→Fr (fun k=>k=id) H H3→Srt c H3 id gen n dc→dc=R→∃ w H4,aC E2 [] (e,A,H3)=.ok [(w,H4)]∧Fr (fun k=>k=id) H H4∧∀ lg':List Nat,w=.tup []∧Srt c ⟨H4.t,H4.nx,lg'⟩ id gen n R:=fun e A H3 dc he h1 h2 h3 h4=>⟨_,H3,cu he h1,h2,fun _=>⟨rfl,by rw[←h4];exact h3⟩⟩;have hid:=hs.lt;have D4:IntKind.i64.wrap ((b:Int) - 1)=((b - 1:Nat):Int):=by rw[au (by omega) (by omega)];omega
 replace E0:Hd _:=E0;refine zW tyF ?_;refine R1.dM fun K k1 k2 k3 k4=>?_;refine R1.loop (fun z A H3=>∃ (i j:Nat) (dc:Array α),z=j - i∧i≤n∧j<n∧Fr (fun k=>k=id) H H3∧Srt c H3 id gen n dc∧Hd (Go.Sort.reverseLoop i j dc=R)∧slot A.tm 0=.one ((.o (.sl id gen 0 n 2)))∧slot A.tm 8=.one (.i .i64 (i:Int))∧slot A.tm 9=.one (.i .i64 (j:Int))∧A.nt=34∧A.dfr=[]) ?_ (b - 1 - a)
  ⟨a,b - 1,d,rfl,by omega,by omega,Fr.refl _,hs,E0,zL⟩
 clear h0 h1 h2 h3 tm hs E0 hid D4 k3;rintro z A H3 ⟨i,j,dc,rfl,hi,hj,f3,hs,hr,t0,t8,t9,B0,C0⟩;have hid:=hs.lt;have M0:=hs.sz;obtain ⟨lo,B2,hg⟩:=hs.row;have F0:=hr.out;rw[Go.Sort.reverseLoop] at F0;clear hr;by_cases U3:i<j
 ·rw[zB0 U3] at F0;have I4:(i:Int)<(j:Int):=by omega
  have W9:i<n:=by omega
  have hwi:=zC0 i (by omega);have hwj:IntKind.i64.wrap ((j:Int) - 1)=((j - 1:Nat):Int):=by rw[au (by omega) (by omega)];omega
  have lv:=hm.ltH (zA2 hN f3.nx);have R0:=hm.len;have d1:i<dc.size:=by omega
  have d2:j<dc.size:=by omega
  replace F0:Hd _:=F0;replace M0:Hd _:=M0;replace d1:Hd _:=d1;replace d2:Hd _:=d2;refine zW tyF ?_;refine R1.dM fun K2 q1 q2 q3 q4=>?_;refine zW (qA tyF (qA (ixC W9) (qA (ixC hj) (swQ hm.len d1.out d2.out)))) ?_;refine q1.out _ _ ?_;exact ⟨j - 1 - (i+1),by omega,i+1,j - 1,Go.Sort.swp dc i j,rfl,by omega,by omega,(f3.mod _ (.inr rfl)).mod _ (.inr rfl),⟨by rw[swp_size];exact M0.out,⟨gen,zA1 _,aj rfl⟩,hid⟩,F0,zL⟩
 rw[zB1 U3] at F0;have I4:¬(i:Int)<(j:Int):=by omega
 replace F0:Hd _:=F0;replace M0:Hd _:=M0;refine zW tyF ?_;refine k2.out _ _ ?_;exact fin _ _ _ _ (.inl rfl) qe f3 hs F0.out
end
def YH:List UInt8:=(List.range 256).map fun m=>UInt8.ofNat (Go.Sort.bitsLen m)
theorem Iv {next:ab→Hp→Prop} {A:ab} {d:Option Tmp} {H:Hp} {s:List UInt8} {k:IntKind} {m:Nat} {alt:ad} (hs:s=YH) (hm:m<256) (hn:vN next A d (.val (.one (.i .u8 (Go.Sort.bitsLen m:Int))) H)):vN next A d (iI H true (.one (.o (.str s))) (.one (.i k (m:Int))) alt):=by
 have h:s[m]?=some (UInt8.ofNat (Go.Sort.bitsLen m)):=by
  rw[hs];unfold YH;rw[List.getElem?_map,List.getElem?_range hm];rfl
 rw[TU h];have e:((UInt8.ofNat (Go.Sort.bitsLen m)).toNat:Int)=(Go.Sort.bitsLen m:Int):=by
  have:Go.Sort.bitsLen m≤8:=(Go.Sort.bitsLen_le_iff m 8).2 (by omega);rw[UInt8.toNat_ofNat'];omega
 rw[e];exact hn
theorem jQ {x:Nat} (h:256≤x):Go.Sort.bitsLen x=8+Go.Sort.bitsLen (x / 256):=by
 have a:∀ k,Go.Sort.bitsLen x≤8+k↔Go.Sort.bitsLen (x / 256)≤k:=fun k=>by
  rw[Go.Sort.bitsLen_le_iff,Go.Sort.bitsLen_le_iff,Nat.pow_add,Nat.div_lt_iff_lt_mul (by decide),Nat.mul_comm]
 have b:=(a (Go.Sort.bitsLen (x / 256))).2 (zA1 _);have c:8≤Go.Sort.bitsLen x:=by
  by_cases h8:Go.Sort.bitsLen x≤7
  ·have:=(Go.Sort.bitsLen_le_iff x 7).1 h8;omega
  omega
 have d:=(a (Go.Sort.bitsLen x - 8)).1 (by omega);omega
theorem lk {x:Nat} (h:x≤65536):Go.Sort.bitsLen x≤17:=(Go.Sort.bitsLen_le_iff x 17).2 (by omega)
theorem NK (H:Hp) (x:Nat) (hx:x≤65536):Con E2 155 [.one (.i .u64 x)] H (fun _=>False) fun r _=>r=.one (.i .i64 (Go.Sort.bitsLen x:Int)):=by
 refine Con.of rfl fun lg=>?_;generalize (⟨H.t,H.nx,lg⟩:Hp)=H;refine C1.body (E:=E2) (nt:=25) (res:=[.tmp 2]) Tryz.func155 rfl rfl rfl rfl rfl fun tm A0=>?_;have h0:=A0 0 _ rfl;clear A0;have c1:¬(4294967296:Int)≤(x:Int):=by omega
 have hb:=lk hx;by_cases c16:65536≤x
 ·have c2:(65536:Int)≤(x:Int):=by omega
  have e0:shF .shr .u64 (x:Int) 16=((x / 65536:Nat):Int):=SR (k:=16) (by decide);have hy:x / 65536=1:=by omega
  have hbx:Go.Sort.bitsLen x=16+Go.Sort.bitsLen (x / 65536):=by
   have h1:=jQ (x:=x) (by omega);have h2:=jQ (x:=x / 256) (by omega);rw[Nat.div_div_eq_div_mul,show 256*256=65536 from rfl] at h2;omega
  generalize x / 65536=y at e0 hy hbx;have e2:IntKind.i64.wrap (0+16)=16:=by decide
  have c3i:¬(256:Int)≤(y:Int):=by omega
  have e3:IntKind.u8.wrap (y:Int)=(y:Int):=by rw[IntKind.wrap_u8];omega
  have e4:IntKind.i64.wrap (Go.Sort.bitsLen y:Int)=(Go.Sort.bitsLen y:Int):=au (by omega) (by omega);have e5:IntKind.i64.wrap (16+(Go.Sort.bitsLen y:Int))=(Go.Sort.bitsLen x:Int):=by
   rw[au (by omega) (by omega)];omega
  have hy2:y<256:=by omega
  clear hy hbx;refine zW (qA tyU (shI (op:=.shr) (show (0:Int)≤16 by decide))) ?_;refine zG (qA tyU (qA ixS (qA (cvQ sx mc) (cvQ mc iV)))) fun K hK=>?_;refine Iv (by kernel_rfl) hy2 ?_;refine zK (qA tyU (qA ixS (qA (cvQ sx mc) (cvQ mc iV)))) ?_;exact ⟨_,_,ai (.i .i64 (Go.Sort.bitsLen x:Int)) (.inr rfl) qe qp,Fr.refl _,fun _=>rfl⟩
 have c2:¬(65536:Int)≤(x:Int):=by omega
 by_cases c3:256≤x
 ·have c3i:(256:Int)≤(x:Int):=by omega
  have e1:shF .shr .u64 (x:Int) 8=((x / 256:Nat):Int):=SR (k:=8) (by decide);have e2:IntKind.i64.wrap (0+8)=8:=by decide
  have e3:IntKind.u8.wrap ((x / 256:Nat):Int)=((x / 256:Nat):Int):=by rw[IntKind.wrap_u8];omega
  have e4:IntKind.i64.wrap (Go.Sort.bitsLen (x / 256):Int)=(Go.Sort.bitsLen (x / 256):Int):=au (by omega) (by have:=jQ c3;omega);have e5:IntKind.i64.wrap (8+(Go.Sort.bitsLen (x / 256):Int))=(Go.Sort.bitsLen x:Int):=by
   have:=jQ c3;rw[au (by omega) (by omega)];omega
  refine zW (qA tyU (shI (op:=.shr) (show (0:Int)≤8 by decide))) ?_;refine zG (qA tyU (qA ixS (qA (cvQ sx mc) (cvQ mc iV)))) fun K hK=>?_;refine Iv (by kernel_rfl) (by omega) ?_;refine zK (qA tyU (qA ixS (qA (cvQ sx mc) (cvQ mc iV)))) ?_;exact ⟨_,_,ai (.i .i64 (Go.Sort.bitsLen x:Int)) (.inr rfl) qe qp,Fr.refl _,fun _=>rfl⟩
 have c3i:¬(256:Int)≤(x:Int):=by omega
 have e3:IntKind.u8.wrap (x:Int)=(x:Int):=by rw[IntKind.wrap_u8];omega
 have e4:IntKind.i64.wrap (Go.Sort.bitsLen x:Int)=(Go.Sort.bitsLen x:Int):=au (by omega) (by omega);have e5:IntKind.i64.wrap (0+(Go.Sort.bitsLen x:Int))=(Go.Sort.bitsLen x:Int):=by
  rw[au (by omega) (by omega)];omega
 refine zW (qA tyU (shI (op:=.shr) (show (0:Int)≤8 by decide))) ?_;refine zG (qA tyU (qA ixS (qA (cvQ sx mc) (cvQ mc iV)))) fun K hK=>?_;refine Iv (by kernel_rfl) (by omega) ?_;refine zK (qA tyU (qA ixS (qA (cvQ sx mc) (cvQ mc iV)))) ?_;exact ⟨_,_,ai (.i .i64 (Go.Sort.bitsLen x:Int)) (.inr rfl) qe qp,Fr.refl _,fun _=>rfl⟩
theorem Bx (H:Hp) (x:Nat) (hx:x≤65536):Con E2 87 [.one (.i .u64 x)] H (fun _=>False) fun r _=>r=.one (.i .i64 (Go.Sort.bitsLen x:Int)):=by
 refine Con.of rfl fun lg=>?_;generalize (⟨H.t,H.nx,lg⟩:Hp)=H;refine C1.body (E:=E2) (nt:=8) (res:=[.tmp 2]) Tryz.func87 rfl rfl rfl rfl rfl fun tm A0=>?_;have h0:=A0 0 _ rfl;clear A0;refine zW tyF ?_;refine zG (qA tyF Qf) fun K hK=>?_;refine WE.con (NK H x hx) fun w' H1 g1 hw=>?_;subst hw;refine zK tyF ?_;exact ⟨_,_,ai (.i .i64 (Go.Sort.bitsLen x:Int)) (.inr rfl) qe qp,g1,fun _=>rfl⟩
theorem Pb (H:Hp) (x:Nat) (hx:x≤65536):Con E2 180 [.one (.i .i64 x)] H (fun _=>False) fun r _=>r=.one (.i .u64 ((1 <<< Go.Sort.bitsLen x:Nat):Int)):=by
 refine Con.of rfl fun lg=>?_;generalize (⟨H.t,H.nx,lg⟩:Hp)=H;refine C1.body (E:=E2) (nt:=7) (res:=[.tmp 2]) Tryz.func180 rfl rfl rfl rfl rfl fun tm A0=>?_;have h0:=A0 0 _ rfl;clear A0;have e1:IntKind.u64.wrap (x:Int)=(x:Int):=wM (by omega);have hb:=lk hx;have e2:shF .shl .u64 1 (Go.Sort.bitsLen x:Int)=((1 <<< Go.Sort.bitsLen x:Nat):Int):=by
  have:=SP (x:=1) (k:=Go.Sort.bitsLen x) (by omega);rw[show ((1:Nat):Int)=1 from rfl] at this;rw[this,Nat.one_shiftLeft,Nat.one_mul,Nat.mod_eq_of_lt (Nat.lt_of_le_of_lt (Nat.pow_le_pow_right (by decide) hb) (by decide))]
 have e3:(0:Int)≤(Go.Sort.bitsLen x:Int):=by omega
 refine zW tyF ?_;refine zG (qA tyU (qA ixS (qA (cvQ iV Dm) ID))) fun K hK=>?_;refine WE.con (Bx H x hx) fun w' H1 g1 hw=>?_;subst hw;refine zK (qA tyU (shI (op:=.shl) e3)) ?_;exact ⟨_,_,ai (.i .u64 ((1 <<< Go.Sort.bitsLen x:Nat):Int)) (.inr rfl) qe qp,g1,fun _=>rfl⟩
theorem Qt (H:Hp) (q x:Nat) (hx:x<18446744073709551616) (hg:H.get q=some (.arr [.i .u64 (x:Int)] 250 0 0)) (hq:q<H.nx):
  Con E2 181 [.one (.o (.ptr q 0 0 1))] H (fun k=>k=q) fun r H'=>r=.one (.i .u64 (Go.Sort.xorNextN x:Int))∧H'.get q=some (.arr [.i .u64 (Go.Sort.xorNextN x:Int)] 250 0 0):=by
 refine Con.of rfl fun lg=>?_;have hg:(⟨H.t,H.nx,lg⟩:Hp).get q=some (.arr [.i .u64 (x:Int)] 250 0 0):=hg;have hq:q<(⟨H.t,H.nx,lg⟩:Hp).nx:=hq;generalize (⟨H.t,H.nx,lg⟩:Hp)=H at hg hq ⊢;refine C1.body (E:=E2) (nt:=33) (res:=[.tmp 2]) Tryz.func181 rfl rfl rfl rfl rfl fun tm A0=>?_;have h0:=A0 0 _ rfl;clear A0;have p64:(18446744073709551616:Nat)=2 ^ 64:=by decide
 obtain ⟨y,hy⟩:∃ y,y=x ^^^ (x*8192 % 18446744073709551616):=⟨_,rfl⟩;obtain ⟨z,hz⟩:∃ z,z=y ^^^ (y / 128):=⟨_,rfl⟩;obtain ⟨u,hu⟩:∃ u,u=z ^^^ (z*131072 % 18446744073709551616):=⟨_,rfl⟩;have ly:y<18446744073709551616:=by rw[hy,p64];exact Nat.xor_lt_two_pow (by omega) (by omega)
 have lz:z<18446744073709551616:=by rw[hz,p64];exact Nat.xor_lt_two_pow (by omega) (by omega)
 have lu:u<18446744073709551616:=by rw[hu,p64];exact Nat.xor_lt_two_pow (by omega) (by omega)
 have hR:Go.Sort.xorNextN x=u:=by
  unfold Go.Sort.xorNextN;rw[hu,hz,hy]
 rw[hR];have a1:shF .shl .u64 (x:Int) 13=((x*8192 % 18446744073709551616:Nat):Int):=SP (k:=13) (by decide);have a2:oO .xor .u64 (x:Int) ((x*8192 % 18446744073709551616:Nat):Int)=(y:Int):=by rw[Pe hx (by omega),hy]
 have a3:shF .shr .u64 (y:Int) 7=((y / 128:Nat):Int):=SR (k:=7) (by decide);have a4:oO .xor .u64 (y:Int) ((y / 128:Nat):Int)=(z:Int):=by rw[Pe ly (by omega),hz]
 have a5:shF .shl .u64 (z:Int) 17=((z*131072 % 18446744073709551616:Nat):Int):=SP (k:=17) (by decide);have a6:oO .xor .u64 (z:Int) ((z*131072 % 18446744073709551616:Nat):Int)=(u:Int):=by rw[Pe lz (by omega),hu]
 clear hR hu hz hy p64;refine zW (qA tyU (qA (shI (op:=.shl) (show (0:Int)≤13 by decide)) (qA (shI (op:=.shr) (show (0:Int)≤7 by decide)) (shI (op:=.shl) (show (0:Int)≤17 by decide))))) ?_;exact ⟨_,_,ai (.i .u64 (u:Int)) (.inr rfl) qe qp,(((Fr.refl (X:=fun k=>k=q) H).mod _ (.inr rfl)).mod _ (.inr rfl)).mod _ (.inr rfl),fun _=>⟨rfl,aj rfl⟩⟩
section
variable {α:Type} [Inhabited α] {c:α→List AC} {cf:α→α→Int} {cl N:Nat}
def Pd (a L M:Nat):Nat→Nat→UInt64×Array α→Array α
 | 0,_,st=>st.2
 | k+1,i,st=>Pd a L M k (i+1) (Go.Sort.breakStep a L M st i)
theorem Xx (d:Array α) (a b:Nat) (h:8≤b - a):Go.Sort.breakPatterns d a b=Pd a (b - a) (1 <<< Go.Sort.bitsLen (b - a)) 3 (a+(b - a) / 4*2 - 1) (UInt64.ofNat (b - a),d):=by
 unfold Go.Sort.breakPatterns;rw[zB0 h];rfl
theorem Uv (hm:Cmp c cf cl N) (H:Hp) (id gen n:Nat) (d:Array α) (a b:Nat) (hs:Srt c H id gen n d) (hN:N≤H.nx) (F4:a<b) (hb:b≤n) (hn:n≤65536):
  Con E2 148 [.one (.o (.sl id gen 0 n 2)),.one (.i .i64 a),.one (.i .i64 b),.one (.o (.clo cl []))] H (fun k=>k=id) fun r H'=>r=.tup []∧Srt c H' id gen n (Go.Sort.breakPatterns d a b):=by
 refine Con.of rfl fun lg=>?_;have hs:Srt c ⟨H.t,H.nx,lg⟩ id gen n d:=hs;have hN:N≤(⟨H.t,H.nx,lg⟩:Hp).nx:=hN;generalize (⟨H.t,H.nx,lg⟩:Hp)=H at hs hN ⊢;refine C1.body (E:=E2) (nt:=67) (res:=[]) Tryz.func148 rfl rfl rfl rfl rfl fun tm A0=>?_;have h0:=A0 0 _ rfl;have h1:=A0 1 _ rfl;have h2:=A0 2 _ rfl;have h3:=A0 3 _ rfl;clear A0;generalize E0:Go.Sort.breakPatterns d a b=R;have fin:∀ (e:ax) (A:ab) (H3:Hp) (dc:Array α),(e=.normal∨e=.ret)→A.dfr=[]→Fr (fun k=>k=id) H H3→Srt c H3 id gen n dc→dc=R→∃ w H4,aC E2 [] (e,A,H3)=.ok [(w,H4)]∧Fr (fun k=>k=id) H H4∧∀ lg':List Nat,w=.tup []∧Srt c ⟨H4.t,H4.nx,lg'⟩ id gen n R:=fun e A H3 dc he h1 h2 h3 h4=>⟨_,H3,cu he h1,h2,fun _=>⟨rfl,by rw[←h4];exact h3⟩⟩;have hid:=hs.lt;obtain ⟨L,hL⟩:∃ L,L=b - a:=⟨_,rfl⟩;have hw0:IntKind.i64.wrap ((b:Int) - (a:Int))=(L:Int):=by rw[au (by omega) (by omega)];omega
 by_cases h8:8≤L
 case neg=>
  have h8i:¬(8:Int)≤(L:Int):=by omega
  have F0:d=R:=by
   rw[←E0];unfold Go.Sort.breakPatterns;rw[zB1 (by omega)]
  clear E0;replace F0:Hd _:=F0;replace hL:Hd _:=hL;refine zW tyF ?_;exact fin _ _ _ _ (.inl rfl) qe (Fr.refl _) hs F0.out
 have h8i:(8:Int)≤(L:Int):=by omega
 rw[Xx d a b (by omega),←hL] at E0;obtain ⟨M,hM⟩:∃ M:Nat,M=1 <<< Go.Sort.bitsLen L:=⟨_,rfl⟩;have hM1:1≤M:=by rw[hM,Nat.one_shiftLeft];exact Nat.two_pow_pos _
 have hM2:M≤2*L:=by rw[hM,Nat.one_shiftLeft];exact Go.Sort.two_pow_bitsLen_le (by omega)
 rw[←hM] at E0;have hLu:IntKind.u64.wrap (L:Int)=(L:Int):=wM (by omega);have hqq:IntKind.i64.wrap ((L:Int).tdiv 4)=((L / 4:Nat):Int):=by rw[Int.tdiv_eq_ediv_of_nonneg (by omega),au (by omega) (by omega)];omega
 have P2:IntKind.i64.wrap (((L / 4:Nat):Int)*2)=((L / 4*2:Nat):Int):=by rw[au (by omega) (by omega)];omega
 have O5:IntKind.i64.wrap ((a:Int)+((L / 4*2:Nat):Int))=((a+L / 4*2:Nat):Int):=by rw[au (by omega) (by omega)];omega
 have a8:IntKind.i64.wrap (((a+L / 4*2:Nat):Int) - 1)=((a+L / 4*2 - 1:Nat):Int):=by rw[au (by omega) (by omega)];omega
 have y9:IntKind.i64.wrap (((a+L / 4*2:Nat):Int)+1)=((a+L / 4*2+1:Nat):Int):=by rw[au (by omega) (by omega)];omega
 replace E0:Hd _:=E0;replace hL:Hd _:=hL;replace hM:Hd _:=hM;refine zW (qA tyU (qA ixS (cvQ iV UI))) ?_;have gA:Gr H ((H.new (.arr [.i .u64 0] 250 0 0)).mod H.nx (.arr [.i .u64 (L:Int)] 250 0 0)):=((Fr.refl _).new _).mod _ (.inl (zA1 _));have hsA:=hs.fr gA zB2;have hqA:((H.new (.arr [.i .u64 0] 250 0 0)).mod H.nx (.arr [.i .u64 (L:Int)] 250 0 0)).get H.nx=some (.arr [.i .u64 (L:Int)] 250 0 0):=aj rfl;have L8:H.nx≠id:=by omega
 have hqH:H.nx≤H.nx:=zA1 _;generalize s_:H.nx=q at hqA L8 ⊢;have hqlt:q<((H.new (.arr [.i .u64 0] 250 0 0)).mod q (.arr [.i .u64 (L:Int)] 250 0 0)).nx:=by
  show q<H.nx+1;omega
 refine R1.gen (fun A1 H1=>Gr H H1∧Srt c H1 id gen n d∧H1.get q=some (.arr [.i .u64 (L:Int)] 250 0 0)∧q<H1.nx∧slot A1.tm 0=.one ((.o (.sl id gen 0 n 2)))∧slot A1.tm 1=.one (.i .i64 (a:Int))∧slot A1.tm 3=.one ((.o (.clo cl [])))∧slot A1.tm 8=.one (.i .i64 (L:Int))∧slot A1.tm 9=.one ((.o (.ptr q 0 0 1)))∧A1.nt=67∧A1.dfr=[])
  ⟨by rw[←s_];exact gA,by rw[←s_];exact hsA,hqA,hqlt,zL⟩ ?_
 replace hqH:H.nx≤q:=by omega
 clear h0 h1 h2 h3 tm hs hid hw0 hLu gA hsA hqA hqlt s_;rintro A H1 ⟨g1,hs,hg,x9,t0,t1,t3,t8,t9,B0,C0⟩;have hid:=hs.lt;refine zG (qA tyF UU) fun K hK=>?_;have Z5:=hL.out;refine WE.con (Pb H1 L (by omega)) fun w' H2 g2 hw=>?_;rw[←hM.out] at hw;subst hw;have D3:=hs.fr g2 zB2;have U':=D3.lt;have hg:=(g2.get _ x9 zB2).trans hg;have x9:=zA0 x9 g2.nx;have f2:Fr (fun k=>k=id) H H2:=(Fr.refl _).then (g1.gr g2) fun _ h=>h.elim;clear g1 g2 hs hid;replace Z5:Hd _:=Z5;replace f2:Hd _:=f2;have h4:(4:Int)≠0:=by decide
 refine zK (qA tyU (JE h4)) ?_;clear a8 P2 O5;refine R1.dM fun K2 k1 k2 k3 k4=>?_;refine R1.loop (fun z A H3=>∃ (t:Nat) (x:UInt64) (dc:Array α),z=3 - t∧t≤3∧Fr (fun k=>k=id) H H3∧Srt c H3 id gen n dc∧H3.get q=some (.arr [.i .u64 (x.toNat:Int)] 250 0 0)∧q<H3.nx∧Hd (Pd a L M (3 - t) (a+L / 4*2 - 1+t) (x,dc)=R) ∧
   slot A.tm 0=.one ((.o (.sl id gen 0 n 2)))∧slot A.tm 1=.one (.i .i64 (a:Int))∧slot A.tm 3=.one ((.o (.clo cl [])))∧slot A.tm 8=.one (.i .i64 (L:Int))∧slot A.tm 9=.one ((.o (.ptr q 0 0 1)))∧slot A.tm 10=.one ((.i .u64 (M:Int)))∧slot A.tm 11=.one (.i .i64 ((a+L / 4*2 - 1+t:Nat):Int))∧A.nt=67∧A.dfr=[]) ?_ 3
  ⟨0,UInt64.ofNat L,d,rfl,by decide,f2.out,D3,by rw[hg,UInt64.toNat_ofNat'];rw[Nat.mod_eq_of_lt (by have:=Z5.out;omega)],x9,E0,zL⟩
 clear t0 t1 t3 t8 t9 B0 C0 A D3 U' hg x9 f2 E0 k3 hK K;rintro z A H3 ⟨t,x,dc,rfl,ht,f3,hs,hg,x9,hr,t0,t1,t3,t8,t9,t10,t11,B0,C0⟩;have hid:=hs.lt;have Z5:=hL.out;have P2:IntKind.i64.wrap (((L / 4:Nat):Int)*2)=((L / 4*2:Nat):Int):=by rw[au (by omega) (by omega)];omega
 have O5:IntKind.i64.wrap ((a:Int)+((L / 4*2:Nat):Int))=((a+L / 4*2:Nat):Int):=by rw[au (by omega) (by omega)];omega
 by_cases ht3:t<3
 case neg=>
  have l8:¬((a+L / 4*2 - 1+t:Nat):Int)≤((a+L / 4*2+1:Nat):Int):=by omega
  have ht4:3 - t=0:=by omega
  have F0:=hr.out;rw[ht4,Pd] at F0;replace F0:dc=R:=F0;clear hr ht4;replace F0:Hd _:=F0;replace Z5:Hd _:=Z5;refine zW (qA tyU (JE h4)) ?_;refine k2.out _ _ ?_;exact fin _ _ _ _ (.inl rfl) qe f3 hs F0.out
 have l8:((a+L / 4*2 - 1+t:Nat):Int)≤((a+L / 4*2+1:Nat):Int):=by omega
 have F0:=hr.out;rw[show 3 - t=(3 - (t+1))+1 from by omega,Pd] at F0;unfold Go.Sort.breakStep at F0;dsimp only at F0
 clear hr;have hxn:Go.Sort.xorNextN x.toNat=(Go.Sort.xorNext x).toNat:=(Go.Sort.xorNext_toNat x).symm;have lx:=x.toNat_lt;have ly:=(Go.Sort.xorNext x).toNat_lt;generalize hy:Go.Sort.xorNext x=y at F0 hxn ly;obtain ⟨o,ho⟩:∃ o,o=y.toNat &&& (M - 1):=⟨_,rfl⟩;have B9:o≤M - 1:=by rw[ho];exact Nat.and_le_right
 rw[←ho] at F0;have hMu:IntKind.u64.wrap ((M:Int) - 1)=((M - 1:Nat):Int):=by
  rw[show ((M:Int) - 1)=((M - 1:Nat):Int) from by omega];exact wM (by omega)
 have hand:oO .and .u64 (y.toNat:Int) ((M - 1:Nat):Int)=(o:Int):=by rw[YP ly (by omega),ho]
 have hcv:IntKind.i64.wrap (o:Int)=(o:Int):=au (by omega) (by omega);have V7:IntKind.i64.wrap ((o:Int) - (L:Int))=((o:Int) - (L:Int)):=au (by omega) (by omega);have hwi:IntKind.i64.wrap (((a+L / 4*2 - 1+t:Nat):Int)+1)=((a+L / 4*2 - 1+(t+1):Nat):Int):=by rw[au (by omega) (by omega)];omega
 clear ho hy;have M8:=Qt H3 q x.toNat lx hg x9;rw[hxn] at M8;clear hxn;have b1:a+L / 4*2 - 1+t<n:=by omega
 generalize H_:a+L / 4*2 - 1+t=ix at l8 hwi b1 F0 t11;replace F0:Hd _:=F0;replace Z5:Hd _:=Z5;replace H_:Hd _:=H_;replace M8:Hd (Con E2 _ _ _ _ _):=M8;refine zW (qA tyU (JE h4)) ?_;refine R1.dS fun K3 q1 q2 q3 q4=>?_;refine zG (qA tyF Uq) fun K5 q7=>?_;refine WE.con M8.out fun w' H4 g4 ⟨hw,hg4⟩=>?_;subst hw;clear M8;have I2:=hs.fr g4 (fun h=>L8 h.symm);have S3:=I2.lt;have hql4:=zA0 x9 g4.nx;have f4:Fr (fun k=>k=id) H H4:=f3.then g4 fun j h=>by subst h;exact .inl hqH
 clear hs hg x9 hid f3 g4;refine zS (qA tyU (qA ixS (cvQ Dm iV))) ?_;refine q7.out _ _ ?_;clear q7 K5;obtain ⟨o2,B7⟩:∃ o2,o2=if o≥L then o - L else o:=⟨_,rfl⟩;have I0:=F0.out;rw[←B7] at I0;clear F0;have ho2L:o2<L:=by have:=Z5.out;rw[B7];split <;> omega
 replace I0:Hd _:=I0;refine R1.gen (fun A5 H5=>H4=H5∧slot A5.tm 0=.one ((.o (.sl id gen 0 n 2)))∧slot A5.tm 1=.one (.i .i64 (a:Int))∧slot A5.tm 3=.one ((.o (.clo cl [])))∧slot A5.tm 8=.one (.i .i64 (L:Int))∧slot A5.tm 9=.one ((.o (.ptr q 0 0 1)))∧slot A5.tm 10=.one ((.i .u64 (M:Int)))∧slot A5.tm 11=.one (.i .i64 (ix:Int))∧slot A5.tm 12=.one (.i .i64 (o:Int))∧A5.nt=67∧A5.dfr=[]) ⟨rfl,zL⟩ ?_;clear t0 t1 t3 t8 t9 t10 t11 B0 C0 A;rintro A _ ⟨rfl,t0,t1,t3,t8,t9,t10,t11,t12,B0,C0⟩;have hwa:IntKind.i64.wrap ((a:Int)+(o2:Int))=((a+o2:Nat):Int):=by have:=Z5.out;rw[au (by omega) (by omega)];omega
 refine zW tyF ?_;refine R1.gW (fun B H5=>H4=H5∧slot B.tm 0=.one ((.o (.sl id gen 0 n 2)))∧slot B.tm 1=.one (.i .i64 (a:Int))∧slot B.tm 3=.one ((.o (.clo cl [])))∧slot B.tm 8=.one (.i .i64 (L:Int))∧slot B.tm 9=.one ((.o (.ptr q 0 0 1)))∧slot B.tm 10=.one ((.i .u64 (M:Int)))∧slot B.tm 11=.one (.i .i64 (ix:Int))∧slot B.tm 12=.one (.i .i64 (o2:Int))∧B.nt=67∧B.dfr=[]) (fun K4 m1 m2 m3=>?_) ?_
 ·by_cases hoL:L≤o
  ·have l7:(L:Int)≤(o:Int):=by omega
   clear V7;have V7:IntKind.i64.wrap ((o:Int) - (L:Int))=(o2:Int):=by
    have:=Z5.out;rw[B7,zB0 hoL,au (by omega) (by omega)];omega
   replace B7:Hd _:=B7;refine zW tyF ?_;refine m1.out _ _ ?_;exact ⟨rfl,zL⟩
  have l7:¬(L:Int)≤(o:Int):=by omega
  rw[zB1 hoL] at B7;subst B7;refine zW tyF ?_;refine m1.out _ _ ?_;exact ⟨rfl,zL⟩
 clear t0 t1 t3 t8 t9 t10 t11 t12 B0 C0 A V7 B7 hcv hand hMu l8;rintro A _ ⟨rfl,t0,t1,t3,t8,t9,t10,t11,t12,B0,C0⟩;have M0:=I2.sz;obtain ⟨lo,B2,hg⟩:=I2.row;have lv:=hm.ltH (zA2 hN f4.nx);have R0:=hm.len;have b2:a+o2<n:=by have:=Z5.out;omega
 have d1:ix<dc.size:=by omega
 have d2:a+o2<dc.size:=by omega
 replace M0:Hd _:=M0;replace d1:Hd _:=d1;replace d2:Hd _:=d2;refine zW (qA tyF (qA (ixC b1) (qA (ixC b2) (swQ hm.len d1.out d2.out)))) ?_;refine q1.out _ _ ?_;refine zW tyF ?_;exact ⟨3 - (t+1),by omega,t+1,y,Go.Sort.swp dc ix (a+o2),rfl,by omega,(f4.mod _ (.inr rfl)).mod _ (.inr rfl),⟨by rw[swp_size];exact M0.out,⟨gen,zA1 _,aj rfl⟩,S3⟩,by rw[az L8,az L8];exact hg4,hql4,by rw[show a+L / 4*2 - 1+(t+1)=ix+1 from by have:=H_.out;omega];exact I0,zL⟩
end
theorem UB:al Tryz.prog 153=true:=by kernel_rfl
theorem XO:al Tryz.prog 152=true:=by kernel_rfl
section
variable {α:Type} [Inhabited α]
theorem nW {p:α→Bool} {d:Array α} {i j:Nat} (h:i≤j) (hp:p d[i]! = true):Go.Sort.scanUp p d j i=Go.Sort.scanUp p d j (i+1):=by
 rw[Go.Sort.scanUp,zB0 (by rw[decide_eq_true h,hp];rfl)]
theorem cU {p:α→Bool} {d:Array α} {i j:Nat} (h:¬i≤j∨p d[i]! = false):Go.Sort.scanUp p d j i=i:=by
 rw[Go.Sort.scanUp,zB1];rcases h with h|h
 ·rw[decide_eq_false h,Bool.false_and];exact zA8
 rw[h,Bool.and_false];decide
theorem jR {p:α→Bool} {d:Array α} {i j:Nat} (h:i≤j) (h0:j≠0) (hp:p d[j]! = true):Go.Sort.scanDown p d i j=Go.Sort.scanDown p d i (j - 1):=by
 obtain ⟨k,rfl⟩:∃ k,j=k+1:=⟨j - 1,by omega⟩;rw[Go.Sort.scanDown,zB0 (by rw[decide_eq_true h,hp];rfl)];rfl
theorem cK {p:α→Bool} {d:Array α} {i j:Nat} (h:¬i≤j∨p d[j]! = false):Go.Sort.scanDown p d i j=j:=by
 cases j with
 | zero=>rfl
 | succ k=>
  rw[Go.Sort.scanDown,zB1];rcases h with h|h
  ·rw[decide_eq_false h,Bool.false_and];exact zA8
  rw[h,Bool.and_false];decide
theorem yP {p:α→Bool} {d:Array α} {j:Nat}:∀ {i:Nat},i≤j+1→Go.Sort.scanUp p d j i≤j+1:=by
 intro i h;obtain ⟨m,hm⟩:∃ m,m=j+1 - i:=⟨_,rfl⟩;induction m generalizing i with
 | zero=>rw[cU (.inl (by omega))];exact h
 | succ m ih=>
  by_cases hp:p d[i]! = true
  ·rw[nW (by omega) hp];exact ih (by omega) (by omega)
  rw[cU (.inr (by simpa using hp))];exact h
theorem pq {p:α→Bool} {d:Array α} {i j:Nat} (h:i≤j+2):Go.Sort.scanUp p d j i≤j+2:=by
 by_cases h1:i≤j+1
 ·exact zA7 (yP h1)
 rw[cU (.inl (by omega))];exact h
theorem nu {p:α→Bool} {d:Array α} {i:Nat}:∀ {j:Nat},i≤j+1→i≤Go.Sort.scanDown p d i j+1
 | 0,h=>h
 | j+1,h=>by
  by_cases hp:i≤j+1∧p d[j+1]! = true
  ·rw[jR hp.1 (by omega) hp.2];exact nu (by omega)
  rw[cK (by
   by_cases hq:i≤j+1
   ·exact .inr (by have:=fun h=>hp ⟨hq,h⟩;simpa using this)
   exact .inl hq)]
  exact h
theorem pH {p:α→Bool} {d:Array α} {i j:Nat} (h:i≤j+2):i≤Go.Sort.scanDown p d i j+2:=by
 by_cases h1:i≤j+1
 ·exact zA7 (nu h1)
 rw[cK (.inl (by omega))];exact h
variable {c:α→List AC} {cf:α→α→Int} {cl N:Nat}
theorem QC (hm:Cmp c cf cl N) (H:Hp) (id gen n:Nat) (d:Array α) (a b pv:Nat) (hs:Srt c H id gen n d) (hN:N≤H.nx) (F4:a<b) (hb:b≤n) (hp:pv<n) (hn:n≤65536):
  Con E2 153 [.one (.o (.sl id gen 0 n 2)),.one (.i .i64 a),.one (.i .i64 b),.one (.i .i64 pv),.one (.o (.clo cl []))] H (fun k=>k=id) fun r H'=>r=.tup [(false,[.i .i64 ((Go.Sort.partition (ltF cf) d a b pv).1:Int)]),(false,[.b (Go.Sort.partition (ltF cf) d a b pv).2.1])]∧Srt c H' id gen n (Go.Sort.partition (ltF cf) d a b pv).2.2:=by
 have X6:=hm.bd;refine Con.of rfl fun lg=>?_;have hs:Srt c ⟨H.t,H.nx,lg⟩ id gen n d:=hs;have hN:N≤(⟨H.t,H.nx,lg⟩:Hp).nx:=hN;generalize (⟨H.t,H.nx,lg⟩:Hp)=H at hs hN ⊢;refine C1.body (E:=E2) (nt:=178) (res:=[.tmp 10,.tmp 11]) Tryz.func153 rfl rfl rfl rfl rfl fun tm A0=>?_;have h0:=A0 0 _ rfl;have h1:=A0 1 _ rfl;have h2:=A0 2 _ rfl;have h3:=A0 3 _ rfl;have h4:=A0 4 _ rfl;clear A0;generalize E0:Go.Sort.partition (ltF cf) d a b pv=R;unfold Go.Sort.partition at E0;dsimp only at E0
 have fin:∀ (A:ab) (H3:Hp) (x:Nat) (y:Bool) (dc:Array α),slot A.tm 10=.one (.i .i64 (x:Int))→slot A.tm 11=.one (.b y)→A.dfr=[]→Fr (fun k=>k=id) H H3→Srt c H3 id gen n dc→(x,y,dc)=R→∃ w H4,aC E2 [.tmp 10,.tmp 11] (.ret,A,H3)=.ok [(w,H4)]∧Fr (fun k=>k=id) H H4∧∀ lg':List Nat,w=.tup [(false,[.i .i64 (R.1:Int)]),(false,[.b R.2.1])]∧Srt c ⟨H4.t,H4.nx,lg'⟩ id gen n R.2.2:=fun A H3 x y dc h1 h2 hd h3 h4 h5=>⟨_,H3,aM (.i .i64 x) (.b y) (.inr rfl) hd h1 h2,h3,fun _=>by rw[←h5];exact ⟨rfl,h4⟩⟩;have hid:=hs.lt;have M0:=hs.sz;obtain ⟨lo,B2,hg⟩:=hs.row;have lv:=hm.ltH hN;have R0:=hm.len;have b2:a<n:=by omega
 have d1:a<d.size:=by omega
 have d2:pv<d.size:=by omega
 have D4:=zC0 a (by omega);have J1:IntKind.i64.wrap ((b:Int) - 1)=((b - 1:Nat):Int):=by rw[au (by omega) (by omega)];omega
 replace E0:Hd _:=E0;replace M0:Hd _:=M0;replace d1:Hd _:=d1;replace d2:Hd _:=d2;refine zW (qA tyF (qA (ixC b2) (qA (ixC hp) (swQ hm.len d1.out d2.out)))) ?_;refine R1.gen (fun A1 H1=>Fr (fun k=>k=id) H H1∧Srt c H1 id gen n (Go.Sort.swp d a pv)∧slot A1.tm 0=.one ((.o (.sl id gen 0 n 2)))∧slot A1.tm 1=.one (.i .i64 (a:Int))∧slot A1.tm 4=.one ((.o (.clo cl [])))∧slot A1.tm 12=.one (.i .i64 ((a+1:Nat):Int))∧slot A1.tm 13=.one (.i .i64 ((b - 1:Nat):Int))∧A1.nt=178∧A1.dfr=[])
  ⟨((Fr.refl (X:=fun k=>k=id) H).mod _ (.inr rfl)).mod _ (.inr rfl),⟨by rw[swp_size];exact M0.out,⟨gen,zA1 _,aj rfl⟩,hid⟩,zL⟩ ?_
 clear h0 h1 h2 h3 h4 tm hs hid D4 J1 hg B2 lo lv R0 M0 d1 d2;generalize hd1:Go.Sort.swp d a pv=dd at E0;replace hd1:Hd _:=hd1;rintro A1 H1 ⟨f1,hs,t0,t1,t4,t12,t13,B0,C0⟩;obtain ⟨i0,T3⟩:∃ i,i=a+1:=⟨_,rfl⟩;obtain ⟨j0,F_⟩:∃ j,j=b - 1:=⟨_,rfl⟩;rw[←T3] at t12 E0;rw[←F_] at t13 E0;have u6:a+1≤i0:=by omega
 have F':j0<n:=by omega
 have M9:i0≤j0+1:=by omega
 clear T3 F_;obtain ⟨I,hI⟩:∃ I,Hd (Go.Sort.scanUp (fun x=>ltF cf x dd[a]!) dd j0 i0=I):=⟨_,rfl⟩;obtain ⟨J,hJ⟩:∃ J,Hd (Go.Sort.scanDown (fun x=>!ltF cf x dd[a]!) dd I j0=J):=⟨_,rfl⟩;have F0:=E0.out;rw[hI.out,hJ.out] at F0;clear E0;replace F0:Hd _:=F0;have hI1:i0≤I:=by rw[←hI.out];exact Go.Sort.scanUp_ge _ _ _ _
 have O_:I≤j0+1:=by rw[←hI.out];exact yP M9
 have hJ1:J≤j0:=by rw[←hJ.out];exact Go.Sort.scanDown_le _ _ _ _
 have hJ2:I≤J+1:=by rw[←hJ.out];exact nu O_
 refine R1.gW (fun B H4=>Fr (fun k=>k=id) H H4∧Srt c H4 id gen n dd∧slot B.tm 0=.one ((.o (.sl id gen 0 n 2)))∧slot B.tm 1=.one (.i .i64 (a:Int))∧slot B.tm 4=.one ((.o (.clo cl [])))∧slot B.tm 12=.one (.i .i64 (I:Int))∧slot B.tm 13=.one (.i .i64 (j0:Int))∧B.nt=178∧B.dfr=[]) (fun K5 m1 m2 m3=>?_) ?_
 ·refine R1.dM fun K5b u1 u2 u3 u4=>?_;refine R1.loop (fun z A H4=>∃ ii:Nat,z=j0+1 - ii∧i0≤ii∧ii≤n+2∧Fr (fun k=>k=id) H H4∧Srt c H4 id gen n dd∧Hd (Go.Sort.scanUp (fun x=>ltF cf x dd[a]!) dd j0 ii=I)∧slot A.tm 0=.one ((.o (.sl id gen 0 n 2)))∧slot A.tm 1=.one (.i .i64 (a:Int))∧slot A.tm 4=.one ((.o (.clo cl [])))∧slot A.tm 12=.one (.i .i64 (ii:Int))∧slot A.tm 13=.one (.i .i64 (j0:Int))∧A.nt=178∧A.dfr=[]) ?_ (j0+1 - i0)
   ⟨i0,rfl,zA1 _,by omega,f1,hs,hI,zL⟩
  clear t0 t1 t4 t12 t13 B0 C0 hs f1 A1 hI u3;rintro z A H4 ⟨ii,rfl,u6,W9,f4,hs,hr,t0,t1,t4,t12,t13,B0,C0⟩;have hid:=hs.lt;by_cases U3:ii≤j0
  ·have I4:(ii:Int)≤(j0:Int):=by omega
   have M0:=hs.sz;obtain ⟨lo,B2,hg⟩:=hs.row;have lv:=hm.ltH (zA2 hN f4.nx);have R0:=hm.len;have b1:ii<n:=by omega
   have b2:a<n:=by omega
   have d1:ii<Array.size dd:=by omega
   have d2:a<Array.size dd:=by omega
   replace M0:Hd _:=M0;replace d1:Hd _:=d1;replace d2:Hd _:=d2;refine zG (qA tyF (qA (ixC b1) (qA (ixC b2) (rdQ hm.len d1.out d2.out)))) fun K hK=>?_;refine WE.con (hm.con H4 dd[ii]! dd[a]! (zA2 hN f4.nx)) fun w' H5 g5 hq=>?_;subst hq;have X0:=hs.fr g5 zB2;have hg:=(g5.get _ hid zB2).trans hg;have hid:=zA0 hid g5.nx;have f5:=f4.then g5 fun _ h=>h.elim;by_cases B3:cf dd[ii]! dd[a]!<0
   ·have J0:=hr.out;rw[nW U3 (by show ltF cf _ _=true;exact decide_eq_true B3)] at J0;clear hr;replace J0:Hd _:=J0;have hwi:=zC0 ii (by omega);refine zK tyF ?_;refine R1.dM fun K4 v1 v2 v3 v4=>?_;refine zW tyF ?_;refine v1.out _ _ ?_;exact ⟨j0+1 - (ii+1),by omega,ii+1,rfl,by omega,by omega,f5,X0,J0,zL⟩
   have J0:=hr.out;rw[cU (.inr (by show ltF cf _ _=false;exact decide_eq_false B3))] at J0;clear hr;subst J0;refine zK tyF ?_;refine u2.out _ _ (m1.out _ _ ?_);exact ⟨f5,X0,zL⟩
  have I4:¬(ii:Int)≤(j0:Int):=by omega
  have J0:=hr.out;rw[cU (.inl U3)] at J0;clear hr;subst J0;refine zW tyF ?_;refine u2.out _ _ (m1.out _ _ ?_);exact ⟨f4,hs,zL⟩
 clear t0 t1 t4 t12 t13 B0 C0 hs f1 A1 H1 hI;rintro A H1 ⟨f1,hs,t0,t1,t4,t12,t13,B0,C0⟩;refine R1.gW (fun B H4=>Fr (fun k=>k=id) H H4∧Srt c H4 id gen n dd∧slot B.tm 0=.one ((.o (.sl id gen 0 n 2)))∧slot B.tm 1=.one (.i .i64 (a:Int))∧slot B.tm 4=.one ((.o (.clo cl [])))∧slot B.tm 12=.one (.i .i64 (I:Int))∧slot B.tm 13=.one (.i .i64 (J:Int))∧B.nt=178∧B.dfr=[]) (fun K6 m1 m2 m3=>?_) ?_
 ·refine R1.dM fun K6b u1 u2 u3 u4=>?_;refine R1.loop (fun z A H4=>∃ jj:Nat,z=jj∧jj≤j0∧Fr (fun k=>k=id) H H4∧Srt c H4 id gen n dd∧Hd (Go.Sort.scanDown (fun x=>!ltF cf x dd[a]!) dd I jj=J)∧slot A.tm 0=.one ((.o (.sl id gen 0 n 2)))∧slot A.tm 1=.one (.i .i64 (a:Int))∧slot A.tm 4=.one ((.o (.clo cl [])))∧slot A.tm 12=.one (.i .i64 (I:Int))∧slot A.tm 13=.one (.i .i64 (jj:Int))∧A.nt=178∧A.dfr=[]) ?_ j0
   ⟨j0,rfl,zA1 _,f1,hs,hJ,zL⟩
  clear t0 t1 t4 t12 t13 B0 C0 hs f1 A hJ u3;rintro jj A H4 ⟨_,rfl,F',f4,hs,hr,t0,t1,t4,t12,t13,B0,C0⟩;have hid:=hs.lt;by_cases U3:I≤jj
  ·have I4:(I:Int)≤(jj:Int):=by omega
   have M0:=hs.sz;obtain ⟨lo,B2,hg⟩:=hs.row;have lv:=hm.ltH (zA2 hN f4.nx);have R0:=hm.len;have b1:jj<n:=by omega
   have b2:a<n:=by omega
   have d1:jj<Array.size dd:=by omega
   have d2:a<Array.size dd:=by omega
   replace M0:Hd _:=M0;replace d1:Hd _:=d1;replace d2:Hd _:=d2;refine zG (qA tyF (qA (ixC b1) (qA (ixC b2) (rdQ hm.len d1.out d2.out)))) fun K hK=>?_;refine WE.con (hm.con H4 dd[jj]! dd[a]! (zA2 hN f4.nx)) fun w' H5 g5 hq=>?_;subst hq;have X0:=hs.fr g5 zB2;have hg:=(g5.get _ hid zB2).trans hg;have hid:=zA0 hid g5.nx;have f5:=f4.then g5 fun _ h=>h.elim;have hjn:jj≠0:=by omega
   by_cases B3:cf dd[jj]! dd[a]!<0
   ·have J0:=hr.out;rw[cK (.inr (by show (!ltF cf _ _)=false;unfold ltF;rw[decide_eq_true B3];rfl))] at J0;clear hr;subst J0;refine zK tyF ?_;refine u2.out _ _ (m1.out _ _ ?_);exact ⟨f5,X0,zL⟩
   have J0:=hr.out;rw[jR U3 hjn (by show (!ltF cf _ _)=true;unfold ltF;rw[decide_eq_false B3];rfl)] at J0;clear hr;replace J0:Hd _:=J0;have hwj:IntKind.i64.wrap ((jj:Int) - 1)=((jj - 1:Nat):Int):=by rw[au (by omega) (by omega)];omega
   refine zK tyF ?_;refine R1.dM fun K4 v1 v2 v3 v4=>?_;refine zW tyF ?_;refine v1.out _ _ ?_;exact ⟨jj - 1,by omega,jj - 1,rfl,by omega,f5,X0,J0,zL⟩
  have I4:¬(I:Int)≤(jj:Int):=by omega
  have J0:=hr.out;rw[cK (.inl U3)] at J0;clear hr;subst J0;refine zW tyF ?_;refine u2.out _ _ (m1.out _ _ ?_);exact ⟨f4,hs,zL⟩
 clear t0 t1 t4 t12 t13 B0 C0 hs f1 A H1 hJ;rintro A H1 ⟨f1,hs,t0,t1,t4,t12,t13,B0,C0⟩;have hid:=hs.lt;have M0:=hs.sz;obtain ⟨lo,B2,hg⟩:=hs.row;have lv:=hm.ltH (zA2 hN f1.nx);have R0:=hm.len;have I0:=F0.out;clear F0;by_cases o8:J<I
 ·rw[zB0 o8] at I0;have F8:(J:Int)<(I:Int):=by omega
  have b1:J<n:=by omega
  have d1:J<dd.size:=by omega
  have d2:a<dd.size:=by omega
  replace I0:Hd _:=I0;replace M0:Hd _:=M0;replace d1:Hd _:=d1;replace d2:Hd _:=d2;refine zW (qA tyF (qA (ixC b1) (qA (ixC b2) (swQ hm.len d1.out d2.out)))) ?_;exact fin _ _ J true (Go.Sort.swp dd J a) qp qp qe ((f1.mod _ (.inr rfl)).mod _ (.inr rfl)) ⟨by rw[swp_size];exact M0.out,⟨gen,zA1 _,aj rfl⟩,hid⟩ I0.out
 rw[zB1 o8] at I0;have F8:¬(J:Int)<(I:Int):=by omega
 have b1:I<n:=by omega
 have b3:J<n:=by omega
 have d1:I<dd.size:=by omega
 have d2:J<dd.size:=by omega
 have hwI:=zC0 I (by omega);have hwJ:IntKind.i64.wrap ((J:Int) - 1)=((J - 1:Nat):Int):=by rw[au (by omega) (by omega)];omega
 replace I0:Hd _:=I0;replace M0:Hd _:=M0;replace d1:Hd _:=d1;replace d2:Hd _:=d2;refine zW (qA tyF (qA (ixC b1) (qA (ixC b3) (swQ hm.len d1.out d2.out)))) ?_;refine R1.gW (fun B H4=>Fr (fun k=>k=id) H H4∧Srt c H4 id gen n (Go.Sort.partLoop (ltF cf) a (I+1) (J - 1) (Go.Sort.swp dd I J)).2∧(Go.Sort.partLoop (ltF cf) a (I+1) (J - 1) (Go.Sort.swp dd I J)).1<n∧slot B.tm 0=.one ((.o (.sl id gen 0 n 2)))∧slot B.tm 1=.one (.i .i64 (a:Int))∧slot B.tm 13=.one (.i .i64 ((Go.Sort.partLoop (ltF cf) a (I+1) (J - 1) (Go.Sort.swp dd I J)).1:Int))∧B.nt=178∧B.dfr=[]) (fun K7 m1 m2 m3=>?_) ?_
 ·generalize P3:Go.Sort.partLoop (ltF cf) a (I+1) (J - 1) (Go.Sort.swp dd I J)=Z at m1;replace P3:Hd _:=P3;refine R1.dM fun K8 k1 k2 k3 k4=>?_;refine R1.loop (fun z A H4=>∃ (i j:Nat) (dc:Array α),z=j+1 - i∧a+1≤i∧j<n∧i≤j+2∧Fr (fun k=>k=id) H H4∧Srt c H4 id gen n dc∧Hd (Go.Sort.partLoop (ltF cf) a i j dc=Z)∧slot A.tm 0=.one ((.o (.sl id gen 0 n 2)))∧slot A.tm 1=.one (.i .i64 (a:Int))∧slot A.tm 4=.one ((.o (.clo cl [])))∧slot A.tm 12=.one (.i .i64 (i:Int))∧slot A.tm 13=.one (.i .i64 (j:Int))∧A.nt=178∧A.dfr=[]) ?_ (J - 1+1 - (I+1))
   ⟨I+1,J - 1,Go.Sort.swp dd I J,rfl,by omega,by omega,by omega,(f1.mod _ (.inr rfl)).mod _ (.inr rfl),⟨by rw[swp_size];exact M0.out,⟨gen,zA1 _,aj rfl⟩,hid⟩,P3,zL⟩
  clear t0 t1 t4 t12 t13 B0 C0 hs f1 A P3 k3 hg hid lv B2 d1 d2 M0 F8 hwI hwJ I0 b1 b3 o8 hI1 O_ hJ1 hJ2 M9 u6 F';rintro z A1 H1 ⟨i0,j0,dd,rfl,u6,F',M9,f1,hs,hr,t0,t1,t4,t12,t13,B0,C0⟩;obtain ⟨I,hI⟩:∃ I,Hd (Go.Sort.scanUp (fun x=>ltF cf x dd[a]!) dd j0 i0=I):=⟨_,rfl⟩;obtain ⟨J,hJ⟩:∃ J,Hd (Go.Sort.scanDown (fun x=>!ltF cf x dd[a]!) dd I j0=J):=⟨_,rfl⟩;have F0:=hr.out;rw[Go.Sort.partLoop] at F0;have W7:=@Go.Sort.partLoop_guard α _ (ltF cf) a i0 j0 dd;rw[hI.out,hJ.out] at W7;rw[hI.out,hJ.out] at F0;clear hr;replace F0:Hd _:=F0;have hI1:i0≤I:=by rw[←hI.out];exact Go.Sort.scanUp_ge _ _ _ _
  have O_:I≤j0+2:=by rw[←hI.out];exact pq M9
  have hJ1:J≤j0:=by rw[←hJ.out];exact Go.Sort.scanDown_le _ _ _ _
  have hJ2:I≤J+2:=by rw[←hJ.out];exact pH O_
  replace W7:Hd _:=W7;refine R1.dM fun K9 q1 q2 q3 q4=>?_;refine R1.gW (fun B H4=>Fr (fun k=>k=id) H H4∧Srt c H4 id gen n dd∧slot B.tm 0=.one ((.o (.sl id gen 0 n 2)))∧slot B.tm 1=.one (.i .i64 (a:Int))∧slot B.tm 4=.one ((.o (.clo cl [])))∧slot B.tm 12=.one (.i .i64 (I:Int))∧slot B.tm 13=.one (.i .i64 (j0:Int))∧B.nt=178∧B.dfr=[]) (fun Ka m1 m2 m3=>?_) ?_
  ·refine R1.dM fun Kab u1 u2 u3 u4=>?_;refine R1.loop (fun z A H4=>∃ ii:Nat,z=j0+1 - ii∧i0≤ii∧ii≤n+2∧Fr (fun k=>k=id) H H4∧Srt c H4 id gen n dd∧Hd (Go.Sort.scanUp (fun x=>ltF cf x dd[a]!) dd j0 ii=I)∧slot A.tm 0=.one ((.o (.sl id gen 0 n 2)))∧slot A.tm 1=.one (.i .i64 (a:Int))∧slot A.tm 4=.one ((.o (.clo cl [])))∧slot A.tm 12=.one (.i .i64 (ii:Int))∧slot A.tm 13=.one (.i .i64 (j0:Int))∧A.nt=178∧A.dfr=[]) ?_ (j0+1 - i0)
    ⟨i0,rfl,zA1 _,by omega,f1,hs,hI,zL⟩
   clear t0 t1 t4 t12 t13 B0 C0 hs f1 A1 hI u3;rintro z A H4 ⟨ii,rfl,u6,W9,f4,hs,hr,t0,t1,t4,t12,t13,B0,C0⟩;have hid:=hs.lt;by_cases U3:ii≤j0
   ·have I4:(ii:Int)≤(j0:Int):=by omega
    have M0:=hs.sz;obtain ⟨lo,B2,hg⟩:=hs.row;have lv:=hm.ltH (zA2 hN f4.nx);have R0:=hm.len;have b1:ii<n:=by omega
    have b2:a<n:=by omega
    have d1:ii<Array.size dd:=by omega
    have d2:a<Array.size dd:=by omega
    replace M0:Hd _:=M0;replace d1:Hd _:=d1;replace d2:Hd _:=d2;refine zG (qA tyF (qA (ixC b1) (qA (ixC b2) (rdQ hm.len d1.out d2.out)))) fun K hK=>?_;refine WE.con (hm.con H4 dd[ii]! dd[a]! (zA2 hN f4.nx)) fun w' H5 g5 hq=>?_;subst hq;have X0:=hs.fr g5 zB2;have hg:=(g5.get _ hid zB2).trans hg;have hid:=zA0 hid g5.nx;have f5:=f4.then g5 fun _ h=>h.elim;by_cases B3:cf dd[ii]! dd[a]!<0
    ·have J0:=hr.out;rw[nW U3 (by show ltF cf _ _=true;exact decide_eq_true B3)] at J0;clear hr;replace J0:Hd _:=J0;have hwi:=zC0 ii (by omega);refine zK tyF ?_;refine R1.dM fun K4 v1 v2 v3 v4=>?_;refine zW tyF ?_;refine v1.out _ _ ?_;exact ⟨j0+1 - (ii+1),by omega,ii+1,rfl,by omega,by omega,f5,X0,J0,zL⟩
    have J0:=hr.out;rw[cU (.inr (by show ltF cf _ _=false;exact decide_eq_false B3))] at J0;clear hr;subst J0;refine zK tyF ?_;refine u2.out _ _ (m1.out _ _ ?_);exact ⟨f5,X0,zL⟩
   have I4:¬(ii:Int)≤(j0:Int):=by omega
   have J0:=hr.out;rw[cU (.inl U3)] at J0;clear hr;subst J0;refine zW tyF ?_;refine u2.out _ _ (m1.out _ _ ?_);exact ⟨f4,hs,zL⟩
  clear t0 t1 t4 t12 t13 B0 C0 hs f1 A1 H1 hI;rintro A H1 ⟨f1,hs,t0,t1,t4,t12,t13,B0,C0⟩;refine R1.gW (fun B H4=>Fr (fun k=>k=id) H H4∧Srt c H4 id gen n dd∧slot B.tm 0=.one ((.o (.sl id gen 0 n 2)))∧slot B.tm 1=.one (.i .i64 (a:Int))∧slot B.tm 4=.one ((.o (.clo cl [])))∧slot B.tm 12=.one (.i .i64 (I:Int))∧slot B.tm 13=.one (.i .i64 (J:Int))∧B.nt=178∧B.dfr=[]) (fun Kb m1 m2 m3=>?_) ?_
  ·refine R1.dM fun Kbb u1 u2 u3 u4=>?_;refine R1.loop (fun z A H4=>∃ jj:Nat,z=jj∧jj≤j0∧Fr (fun k=>k=id) H H4∧Srt c H4 id gen n dd∧Hd (Go.Sort.scanDown (fun x=>!ltF cf x dd[a]!) dd I jj=J)∧slot A.tm 0=.one ((.o (.sl id gen 0 n 2)))∧slot A.tm 1=.one (.i .i64 (a:Int))∧slot A.tm 4=.one ((.o (.clo cl [])))∧slot A.tm 12=.one (.i .i64 (I:Int))∧slot A.tm 13=.one (.i .i64 (jj:Int))∧A.nt=178∧A.dfr=[]) ?_ j0
    ⟨j0,rfl,zA1 _,f1,hs,hJ,zL⟩
   clear t0 t1 t4 t12 t13 B0 C0 hs f1 A hJ u3;rintro jj A H4 ⟨_,rfl,F',f4,hs,hr,t0,t1,t4,t12,t13,B0,C0⟩;have hid:=hs.lt;by_cases U3:I≤jj
   ·have I4:(I:Int)≤(jj:Int):=by omega
    have M0:=hs.sz;obtain ⟨lo,B2,hg⟩:=hs.row;have lv:=hm.ltH (zA2 hN f4.nx);have R0:=hm.len;have b1:jj<n:=by omega
    have b2:a<n:=by omega
    have d1:jj<Array.size dd:=by omega
    have d2:a<Array.size dd:=by omega
    replace M0:Hd _:=M0;replace d1:Hd _:=d1;replace d2:Hd _:=d2;refine zG (qA tyF (qA (ixC b1) (qA (ixC b2) (rdQ hm.len d1.out d2.out)))) fun K hK=>?_;refine WE.con (hm.con H4 dd[jj]! dd[a]! (zA2 hN f4.nx)) fun w' H5 g5 hq=>?_;subst hq;have X0:=hs.fr g5 zB2;have hg:=(g5.get _ hid zB2).trans hg;have hid:=zA0 hid g5.nx;have f5:=f4.then g5 fun _ h=>h.elim;have hjn:jj≠0:=by omega
    by_cases B3:cf dd[jj]! dd[a]!<0
    ·have J0:=hr.out;rw[cK (.inr (by show (!ltF cf _ _)=false;unfold ltF;rw[decide_eq_true B3];rfl))] at J0;clear hr;subst J0;refine zK tyF ?_;refine u2.out _ _ (m1.out _ _ ?_);exact ⟨f5,X0,zL⟩
    have J0:=hr.out;rw[jR U3 hjn (by show (!ltF cf _ _)=true;unfold ltF;rw[decide_eq_false B3];rfl)] at J0;clear hr;replace J0:Hd _:=J0;have hwj:IntKind.i64.wrap ((jj:Int) - 1)=((jj - 1:Nat):Int):=by rw[au (by omega) (by omega)];omega
    refine zK tyF ?_;refine R1.dM fun K4 v1 v2 v3 v4=>?_;refine zW tyF ?_;refine v1.out _ _ ?_;exact ⟨jj - 1,by omega,jj - 1,rfl,by omega,f5,X0,J0,zL⟩
   have I4:¬(I:Int)≤(jj:Int):=by omega
   have J0:=hr.out;rw[cK (.inl U3)] at J0;clear hr;subst J0;refine zW tyF ?_;refine u2.out _ _ (m1.out _ _ ?_);exact ⟨f4,hs,zL⟩
  clear t0 t1 t4 t12 t13 B0 C0 hs f1 A H1 hJ;rintro A H1 ⟨f1,hs,t0,t1,t4,t12,t13,B0,C0⟩;have hid:=hs.lt;have M0:=hs.sz;obtain ⟨lo,B2,hg⟩:=hs.row;have lv:=hm.ltH (zA2 hN f1.nx);have I0:=F0.out;clear F0;by_cases o8:J<I
  ·rw[zB0 o8] at I0;have F8:(J:Int)<(I:Int):=by omega
   replace I0:Hd _:=I0;replace hs:Hd _:=hs;refine zW tyF ?_;refine q3.out _ _ _ (by decide) (k2.out _ _ (m1.out _ _ ?_));rw[←I0.out];exact ⟨f1,hs.out,Nat.lt_of_le_of_lt hJ1 F',zL⟩
  rw[zB1 o8,dif_pos (W7.out o8)] at I0;have F8:¬(J:Int)<(I:Int):=by omega
  have b1:I<n:=by omega
  have b3:J<n:=by omega
  have d1:I<dd.size:=by omega
  have d2:J<dd.size:=by omega
  have hwI:=zC0 I (by omega);have hwJ:IntKind.i64.wrap ((J:Int) - 1)=((J - 1:Nat):Int):=by rw[au (by omega) (by omega)];omega
  replace I0:Hd _:=I0;replace M0:Hd _:=M0;replace d1:Hd _:=d1;replace d2:Hd _:=d2;refine zW (qA tyF (qA (ixC b1) (qA (ixC b3) (swQ hm.len d1.out d2.out)))) ?_;refine q1.out _ _ ?_;exact ⟨J - 1+1 - (I+1),by omega,I+1,J - 1,Go.Sort.swp dd I J,rfl,by omega,by omega,by omega,(f1.mod _ (.inr rfl)).mod _ (.inr rfl),⟨by rw[swp_size];exact M0.out,⟨gen,zA1 _,aj rfl⟩,hid⟩,I0,zL⟩
 generalize P3:Go.Sort.partLoop (ltF cf) a (I+1) (J - 1) (Go.Sort.swp dd I J)=Z at I0;clear t0 t1 t4 t12 t13 B0 C0 hs f1 A hg hid lv B2 d1 d2 M0 F8 hwI hwJ b1 b3 P3;rintro A H1 ⟨f1,hs,hZ,t0,t1,t13,B0,C0⟩;have hid:=hs.lt;have M0:=hs.sz;obtain ⟨lo,B2,hg⟩:=hs.row;have lv:=hm.ltH (zA2 hN f1.nx);have d1:Z.1<Z.2.size:=by omega
 have d2:a<Z.2.size:=by omega
 replace M0:Hd _:=M0;replace d1:Hd _:=d1;replace d2:Hd _:=d2;refine zW (qA tyF (qA (ixC hZ) (qA (ixC b2) (swQ hm.len d1.out d2.out)))) ?_;exact fin _ _ Z.1 false (Go.Sort.swp Z.2 Z.1 a) qp qp qe ((f1.mod _ (.inr rfl)).mod _ (.inr rfl)) ⟨by rw[swp_size];exact M0.out,⟨gen,zA1 _,aj rfl⟩,hid⟩ I0.out
end
section
variable {α:Type} [Inhabited α] {c:α→List AC} {cf:α→α→Int} {cl N:Nat}
theorem Hh {lt:α→α→Bool} {a n:Nat}:∀ (m i j:Nat) (d:Array α),j+1 - i≤m→i≤j+2→j<n→(Go.Sort.partEqLoop lt a i j d).1≤n+1
 | m,i,j,d,hm,U3,hj=>by
  have h2:=pq (p:=fun x=>!lt d[a]! x) (d:=d) U3;rw[Go.Sort.partEqLoop_eq];by_cases o8:Go.Sort.scanUp (fun x=>!lt d[a]! x) d j i>Go.Sort.scanDown (fun x=>lt d[a]! x) d (Go.Sort.scanUp (fun x=>!lt d[a]! x) d j i) j
  ·rw[zB0 o8];show Go.Sort.scanUp _ d j i≤_;omega
  rw[zB1 o8];have hg:=Go.Sort.partEqLoop_guard lt a i j d o8;have h3:=Go.Sort.scanDown_le (fun x=>lt d[a]! x) d (Go.Sort.scanUp (fun x=>!lt d[a]! x) d j i) j;cases m with
  | zero=>omega
  | succ m=>exact Hh m _ _ _ (by omega) (by omega) (by omega)
theorem Vx (hm:Cmp c cf cl N) (H:Hp) (id gen n:Nat) (d:Array α) (a b pv:Nat) (hs:Srt c H id gen n d) (hN:N≤H.nx) (F4:a<b) (hb:b≤n) (hp:pv<n) (hn:n≤65536):
  Con E2 152 [.one (.o (.sl id gen 0 n 2)),.one (.i .i64 a),.one (.i .i64 b),.one (.i .i64 pv),.one (.o (.clo cl []))] H (fun k=>k=id) fun r H'=>r=.one (.i .i64 ((Go.Sort.partitionEqual (ltF cf) d a b pv).1:Int))∧Srt c H' id gen n (Go.Sort.partitionEqual (ltF cf) d a b pv).2:=by
 have X6:=hm.bd;refine Con.of rfl fun lg=>?_;have hs:Srt c ⟨H.t,H.nx,lg⟩ id gen n d:=hs;have hN:N≤(⟨H.t,H.nx,lg⟩:Hp).nx:=hN;generalize (⟨H.t,H.nx,lg⟩:Hp)=H at hs hN ⊢;refine C1.body (E:=E2) (nt:=90) (res:=[.tmp 10]) Tryz.func152 rfl rfl rfl rfl rfl fun tm A0=>?_;have h0:=A0 0 _ rfl;have h1:=A0 1 _ rfl;have h2:=A0 2 _ rfl;have h3:=A0 3 _ rfl;have h4:=A0 4 _ rfl;clear A0;generalize E0:Go.Sort.partitionEqual (ltF cf) d a b pv=R;unfold Go.Sort.partitionEqual at E0;have fin:∀ (A:ab) (H3:Hp),slot A.tm 10=.one (.i .i64 (R.1:Int))→A.dfr=[]→Fr (fun k=>k=id) H H3→Srt c H3 id gen n R.2→∃ w H4,aC E2 [.tmp 10] (.ret,A,H3)=.ok [(w,H4)]∧Fr (fun k=>k=id) H H4∧∀ lg':List Nat,w=.one (.i .i64 (R.1:Int))∧Srt c ⟨H4.t,H4.nx,lg'⟩ id gen n R.2:=fun A H3 h1 hd h3 h4=>⟨_,H3,ai (.i .i64 (R.1:Int)) (.inr rfl) hd h1,h3,fun _=>⟨rfl,h4⟩⟩;have hid:=hs.lt;have M0:=hs.sz;obtain ⟨lo,B2,hg⟩:=hs.row;have lv:=hm.ltH hN;have R0:=hm.len;have b2:a<n:=by omega
 have d1:a<d.size:=by omega
 have d2:pv<d.size:=by omega
 have D4:=zC0 a (by omega);have J1:IntKind.i64.wrap ((b:Int) - 1)=((b - 1:Nat):Int):=by rw[au (by omega) (by omega)];omega
 have hRn:R.1≤n+1:=by
  rw[←E0];exact Hh _ _ _ _ (zA1 _) (by omega) (by omega)
 replace E0:Hd _:=E0;replace M0:Hd _:=M0;replace d1:Hd _:=d1;replace d2:Hd _:=d2;refine zW (qA tyF (qA (ixC b2) (qA (ixC hp) (swQ hm.len d1.out d2.out)))) ?_;refine R1.gW (fun B H4=>Fr (fun k=>k=id) H H4∧Srt c H4 id gen n R.2∧slot B.tm 11=.one (.i .i64 (R.1:Int))∧B.nt=90∧B.dfr=[]) (fun K7 m1 m2 m3=>?_) ?_
 ·refine R1.dM fun K8 k1 k2 k3 k4=>?_;refine R1.loop (fun z A H4=>∃ (i j:Nat) (dc:Array α),z=j+1 - i∧a+1≤i∧j<n∧i≤j+2∧Fr (fun k=>k=id) H H4∧Srt c H4 id gen n dc∧Hd (Go.Sort.partEqLoop (ltF cf) a i j dc=R)∧slot A.tm 0=.one ((.o (.sl id gen 0 n 2)))∧slot A.tm 1=.one (.i .i64 (a:Int))∧slot A.tm 4=.one ((.o (.clo cl [])))∧slot A.tm 11=.one (.i .i64 (i:Int))∧slot A.tm 12=.one (.i .i64 (j:Int))∧A.nt=90∧A.dfr=[]) ?_ (b - 1+1 - (a+1))
   ⟨a+1,b - 1,Go.Sort.swp d a pv,rfl,by omega,by omega,by omega,((Fr.refl (X:=fun k=>k=id) H).mod _ (.inr rfl)).mod _ (.inr rfl),⟨by rw[swp_size];exact M0.out,⟨gen,zA1 _,aj rfl⟩,hid⟩,E0,zL⟩
  clear h0 h1 h2 h3 h4 tm hs hid D4 J1 hg B2 lo lv M0 d1 d2 E0 k3;rintro z A1 H1 ⟨i0,j0,dd,rfl,u6,F',M9,f1,hs,hr,t0,t1,t4,t11,t12,B0,C0⟩;obtain ⟨I,hI⟩:∃ I,Hd (Go.Sort.scanUp (fun x=>!ltF cf dd[a]! x) dd j0 i0=I):=⟨_,rfl⟩;obtain ⟨J,hJ⟩:∃ J,Hd (Go.Sort.scanDown (fun x=>ltF cf dd[a]! x) dd I j0=J):=⟨_,rfl⟩;have F0:=hr.out;rw[Go.Sort.partEqLoop_eq] at F0;have W7:=@Go.Sort.partEqLoop_guard α _ (ltF cf) a i0 j0 dd;rw[hI.out,hJ.out] at W7;rw[hI.out,hJ.out] at F0;clear hr;replace F0:Hd _:=F0;have hI1:i0≤I:=by rw[←hI.out];exact Go.Sort.scanUp_ge _ _ _ _
  have O_:I≤j0+2:=by rw[←hI.out];exact pq M9
  have hJ1:J≤j0:=by rw[←hJ.out];exact Go.Sort.scanDown_le _ _ _ _
  have hJ2:I≤J+2:=by rw[←hJ.out];exact pH O_
  replace W7:Hd _:=W7;refine R1.dM fun K9 q1 q2 q3 q4=>?_;refine R1.gW (fun B H4=>Fr (fun k=>k=id) H H4∧Srt c H4 id gen n dd∧slot B.tm 0=.one ((.o (.sl id gen 0 n 2)))∧slot B.tm 1=.one (.i .i64 (a:Int))∧slot B.tm 4=.one ((.o (.clo cl [])))∧slot B.tm 11=.one (.i .i64 (I:Int))∧slot B.tm 12=.one (.i .i64 (j0:Int))∧B.nt=90∧B.dfr=[]) (fun Ka m1 m2 m3=>?_) ?_
  ·refine R1.dM fun Kab u1 u2 u3 u4=>?_;refine R1.loop (fun z A H4=>∃ ii:Nat,z=j0+1 - ii∧i0≤ii∧ii≤n+2∧Fr (fun k=>k=id) H H4∧Srt c H4 id gen n dd∧Hd (Go.Sort.scanUp (fun x=>!ltF cf dd[a]! x) dd j0 ii=I)∧slot A.tm 0=.one ((.o (.sl id gen 0 n 2)))∧slot A.tm 1=.one (.i .i64 (a:Int))∧slot A.tm 4=.one ((.o (.clo cl [])))∧slot A.tm 11=.one (.i .i64 (ii:Int))∧slot A.tm 12=.one (.i .i64 (j0:Int))∧A.nt=90∧A.dfr=[]) ?_ (j0+1 - i0)
    ⟨i0,rfl,zA1 _,by omega,f1,hs,hI,zL⟩
   clear t0 t1 t4 t11 t12 B0 C0 hs f1 A1 hI u3;rintro z A H4 ⟨ii,rfl,u6,W9,f4,hs,hr,t0,t1,t4,t11,t12,B0,C0⟩;have hid:=hs.lt;by_cases U3:ii≤j0
   ·have I4:(ii:Int)≤(j0:Int):=by omega
    have M0:=hs.sz;obtain ⟨lo,B2,hg⟩:=hs.row;have lv:=hm.ltH (zA2 hN f4.nx);have R0:=hm.len;have b1:ii<n:=by omega
    have b2:a<n:=by omega
    have d1:ii<Array.size dd:=by omega
    have d2:a<Array.size dd:=by omega
    replace M0:Hd _:=M0;replace d1:Hd _:=d1;replace d2:Hd _:=d2;refine zG (qA tyF (qA (ixC b1) (qA (ixC b2) (rdQ hm.len d1.out d2.out)))) fun K hK=>?_;refine WE.con (hm.con H4 dd[a]! dd[ii]! (zA2 hN f4.nx)) fun w' H5 g5 hq=>?_;subst hq;have X0:=hs.fr g5 zB2;have hg:=(g5.get _ hid zB2).trans hg;have hid:=zA0 hid g5.nx;have f5:=f4.then g5 fun _ h=>h.elim;by_cases B3:cf dd[a]! dd[ii]!<0
    ·have J0:=hr.out;rw[cU (.inr (by show (!ltF cf _ _)=false;unfold ltF;rw[decide_eq_true B3];rfl))] at J0;clear hr;subst J0;refine zK tyF ?_;refine u2.out _ _ (m1.out _ _ ?_);exact ⟨f5,X0,zL⟩
    have J0:=hr.out;rw[nW U3 (by show (!ltF cf _ _)=true;unfold ltF;rw[decide_eq_false B3];rfl)] at J0;clear hr;replace J0:Hd _:=J0;have hwi:=zC0 ii (by omega);refine zK tyF ?_;refine R1.dM fun K4 v1 v2 v3 v4=>?_;refine zW tyF ?_;refine v1.out _ _ ?_;exact ⟨j0+1 - (ii+1),by omega,ii+1,rfl,by omega,by omega,f5,X0,J0,zL⟩
   have I4:¬(ii:Int)≤(j0:Int):=by omega
   have J0:=hr.out;rw[cU (.inl U3)] at J0;clear hr;subst J0;refine zW tyF ?_;refine u2.out _ _ (m1.out _ _ ?_);exact ⟨f4,hs,zL⟩
  clear t0 t1 t4 t11 t12 B0 C0 hs f1 A1 H1 hI;rintro A H1 ⟨f1,hs,t0,t1,t4,t11,t12,B0,C0⟩;refine R1.gW (fun B H4=>Fr (fun k=>k=id) H H4∧Srt c H4 id gen n dd∧slot B.tm 0=.one ((.o (.sl id gen 0 n 2)))∧slot B.tm 1=.one (.i .i64 (a:Int))∧slot B.tm 4=.one ((.o (.clo cl [])))∧slot B.tm 11=.one (.i .i64 (I:Int))∧slot B.tm 12=.one (.i .i64 (J:Int))∧B.nt=90∧B.dfr=[]) (fun Kb m1 m2 m3=>?_) ?_
  ·refine R1.dM fun Kbb u1 u2 u3 u4=>?_;refine R1.loop (fun z A H4=>∃ jj:Nat,z=jj∧jj≤j0∧Fr (fun k=>k=id) H H4∧Srt c H4 id gen n dd∧Hd (Go.Sort.scanDown (fun x=>ltF cf dd[a]! x) dd I jj=J)∧slot A.tm 0=.one ((.o (.sl id gen 0 n 2)))∧slot A.tm 1=.one (.i .i64 (a:Int))∧slot A.tm 4=.one ((.o (.clo cl [])))∧slot A.tm 11=.one (.i .i64 (I:Int))∧slot A.tm 12=.one (.i .i64 (jj:Int))∧A.nt=90∧A.dfr=[]) ?_ j0
    ⟨j0,rfl,zA1 _,f1,hs,hJ,zL⟩
   clear t0 t1 t4 t11 t12 B0 C0 hs f1 A hJ u3;rintro jj A H4 ⟨_,rfl,F',f4,hs,hr,t0,t1,t4,t11,t12,B0,C0⟩;have hid:=hs.lt;by_cases U3:I≤jj
   ·have I4:(I:Int)≤(jj:Int):=by omega
    have M0:=hs.sz;obtain ⟨lo,B2,hg⟩:=hs.row;have lv:=hm.ltH (zA2 hN f4.nx);have R0:=hm.len;have b1:jj<n:=by omega
    have b2:a<n:=by omega
    have d1:jj<Array.size dd:=by omega
    have d2:a<Array.size dd:=by omega
    replace M0:Hd _:=M0;replace d1:Hd _:=d1;replace d2:Hd _:=d2;refine zG (qA tyF (qA (ixC b1) (qA (ixC b2) (rdQ hm.len d1.out d2.out)))) fun K hK=>?_;refine WE.con (hm.con H4 dd[a]! dd[jj]! (zA2 hN f4.nx)) fun w' H5 g5 hq=>?_;subst hq;have X0:=hs.fr g5 zB2;have hg:=(g5.get _ hid zB2).trans hg;have hid:=zA0 hid g5.nx;have f5:=f4.then g5 fun _ h=>h.elim;have hjn:jj≠0:=by omega
    by_cases B3:cf dd[a]! dd[jj]!<0
    ·have J0:=hr.out;rw[jR U3 hjn (by show ltF cf _ _=true;exact decide_eq_true B3)] at J0;clear hr;replace J0:Hd _:=J0;have hwj:IntKind.i64.wrap ((jj:Int) - 1)=((jj - 1:Nat):Int):=by rw[au (by omega) (by omega)];omega
     refine zK tyF ?_;refine R1.dM fun K4 v1 v2 v3 v4=>?_;refine zW tyF ?_;refine v1.out _ _ ?_;exact ⟨jj - 1,by omega,jj - 1,rfl,by omega,f5,X0,J0,zL⟩
    have J0:=hr.out;rw[cK (.inr (by show ltF cf _ _=false;exact decide_eq_false B3))] at J0;clear hr;subst J0;refine zK tyF ?_;refine u2.out _ _ (m1.out _ _ ?_);exact ⟨f5,X0,zL⟩
   have I4:¬(I:Int)≤(jj:Int):=by omega
   have J0:=hr.out;rw[cK (.inl U3)] at J0;clear hr;subst J0;refine zW tyF ?_;refine u2.out _ _ (m1.out _ _ ?_);exact ⟨f4,hs,zL⟩
  clear t0 t1 t4 t11 t12 B0 C0 hs f1 A H1 hJ;rintro A H1 ⟨f1,hs,t0,t1,t4,t11,t12,B0,C0⟩;have hid:=hs.lt;have M0:=hs.sz;obtain ⟨lo,B2,hg⟩:=hs.row;have lv:=hm.ltH (zA2 hN f1.nx);have I0:=F0.out;clear F0;by_cases o8:J<I
  ·rw[zB0 o8] at I0;have F8:(J:Int)<(I:Int):=by omega
   replace I0:Hd _:=I0;replace hs:Hd _:=hs;refine zW tyF ?_;refine q3.out _ _ _ (by decide) (k2.out _ _ (m1.out _ _ ?_));rw[←I0.out];exact ⟨f1,hs.out,zL⟩
  rw[zB1 o8] at I0;have F8:¬(J:Int)<(I:Int):=by omega
  have hgd2:=W7.out o8;have b1:I<n:=by omega
  have b3:J<n:=by omega
  have d1:I<dd.size:=by omega
  have d2:J<dd.size:=by omega
  have hwI:=zC0 I (by omega);have hwJ:IntKind.i64.wrap ((J:Int) - 1)=((J - 1:Nat):Int):=by rw[au (by omega) (by omega)];omega
  replace I0:Hd _:=I0;replace M0:Hd _:=M0;replace d1:Hd _:=d1;replace d2:Hd _:=d2;replace hgd2:Hd _:=hgd2;refine zW (qA tyF (qA (ixC b1) (qA (ixC b3) (swQ hm.len d1.out d2.out)))) ?_;refine q1.out _ _ ?_;exact ⟨J - 1+1 - (I+1),hgd2.out,I+1,J - 1,Go.Sort.swp dd I J,rfl,by omega,by omega,by omega,(f1.mod _ (.inr rfl)).mod _ (.inr rfl),⟨by rw[swp_size];exact M0.out,⟨gen,zA1 _,aj rfl⟩,hid⟩,I0,zL⟩
 clear h0 h1 h2 h3 h4 tm hs hid D4 J1 hg B2 lo lv M0 d1 d2 E0;rintro A H1 ⟨f1,hs,t11,B0,C0⟩;replace hs:Hd _:=hs;refine zW tyF ?_;exact fin _ _ qp qe f1 hs.out
end
theorem Vp:al Tryz.prog 151=true:=by kernel_rfl
section
variable {α:Type} [Inhabited α]
theorem Qb {lt:α→α→Bool} {d:Array α} {b i:Nat} (h:i<b) (hp:lt d[i]! d[i - 1]! = false):Go.Sort.scanSorted lt d b i=Go.Sort.scanSorted lt d b (i+1):=by
 rw[Go.Sort.scanSorted,zB0 (by rw[decide_eq_true h,hp];rfl)]
theorem pT {lt:α→α→Bool} {d:Array α} {b i:Nat} (h:¬i<b∨lt d[i]! d[i - 1]! = true):Go.Sort.scanSorted lt d b i=i:=by
 rw[Go.Sort.scanSorted,zB1];rcases h with h|h
 ·rw[decide_eq_false h,Bool.false_and];exact zA8
 rw[h,Bool.not_true,Bool.and_false];exact zA8
theorem WL {lt:α→α→Bool} {d:Array α} {b:Nat}:∀ (m i:Nat),b - i≤m→i≤b→i≤Go.Sort.scanSorted lt d b i∧Go.Sort.scanSorted lt d b i≤b
 | 0,i,h,hi=>by rw[pT (.inl (by omega))];exact ⟨zA1 _,hi⟩
 | m+1,i,h,hi=>by
  by_cases hp:i<b∧lt d[i]! d[i - 1]! = false
  ·rw[Qb hp.1 hp.2];have U5:=hp.1;have:=WL (lt:=lt) (d:=d) (b:=b) m (i+1) (by omega) (by omega);exact ⟨by omega,this.2⟩
  rw[pT (by
   by_cases hq:i<b
   ·exact .inr (by have:=fun h=>hp ⟨hq,h⟩;simpa using this)
   exact .inl hq)]
  exact ⟨zA1 _,hi⟩
variable {c:α→List AC} {cf:α→α→Int} {cl N:Nat}
theorem QH (hm:Cmp c cf cl N) (H:Hp) (id gen n:Nat) (d:Array α) (a b:Nat) (hs:Srt c H id gen n d) (hN:N≤H.nx) (F4:a<b) (hb:b≤n) (hn:n≤65536):
  Con E2 151 [.one (.o (.sl id gen 0 n 2)),.one (.i .i64 a),.one (.i .i64 b),.one (.o (.clo cl []))] H (fun k=>k=id) fun r H'=>r=.one (.b (Go.Sort.partialInsertionSort (ltF cf) d a b).2)∧Srt c H' id gen n (Go.Sort.partialInsertionSort (ltF cf) d a b).1:=by
 have X6:=hm.bd;refine Con.of rfl fun lg=>?_;have hs:Srt c ⟨H.t,H.nx,lg⟩ id gen n d:=hs;have hN:N≤(⟨H.t,H.nx,lg⟩:Hp).nx:=hN;generalize (⟨H.t,H.nx,lg⟩:Hp)=H at hs hN ⊢;refine C1.body (E:=E2) (nt:=141) (res:=[.tmp 8]) Tryz.func151 rfl rfl rfl rfl rfl fun tm A0=>?_;have h0:=A0 0 _ rfl;have h1:=A0 1 _ rfl;have h2:=A0 2 _ rfl;have h3:=A0 3 _ rfl;clear A0;generalize E0:Go.Sort.partialInsertionSort (ltF cf) d a b=R;unfold Go.Sort.partialInsertionSort at E0;have fin:∀ (A:ab) (H3:Hp) (x:Bool) (dc:Array α),slot A.tm 8=.one (.b x)→A.dfr=[]→Fr (fun k=>k=id) H H3→Srt c H3 id gen n dc→(dc,x)=R→∃ w H4,aC E2 [.tmp 8] (.ret,A,H3)=.ok [(w,H4)]∧Fr (fun k=>k=id) H H4∧∀ lg':List Nat,w=.one (.b R.2)∧Srt c ⟨H4.t,H4.nx,lg'⟩ id gen n R.1:=fun A H3 x dc h1 hd h3 h4 h5=>⟨_,H3,ai (.b x) (.inr rfl) hd h1,h3,fun _=>by rw[←h5];exact ⟨rfl,h4⟩⟩;have hid:=hs.lt;have D4:=zC0 a (by omega);replace E0:Hd _:=E0;refine zW tyF ?_;refine R1.dS fun K k1 k2 k3 k4=>?_;refine R1.loop (fun z A H3=>∃ (i:Nat) (dc:Array α),z≤5∧a+1≤i∧i≤b∧Fr (fun k=>k=id) H H3∧Srt c H3 id gen n dc∧Hd (Go.Sort.partialIns (ltF cf) a b z i dc=R)∧slot A.tm 0=.one ((.o (.sl id gen 0 n 2)))∧slot A.tm 1=.one (.i .i64 (a:Int))∧slot A.tm 2=.one (.i .i64 (b:Int))∧slot A.tm 3=.one ((.o (.clo cl [])))∧slot A.tm 9=.one (.i .i64 (i:Int))∧slot A.tm 10=.one (.i .i64 ((5 - z:Nat):Int))∧A.nt=141∧A.dfr=[]) ?_ 5
  ⟨a+1,d,zA1 _,zA1 _,F4,Fr.refl _,hs,E0,zL⟩
 clear h0 h1 h2 h3 tm hs hid D4 E0 k3;rintro z A H3 ⟨i0,dc,hz5,u6,W9,f3,hs,hr,t0,t1,t2,t3,t9,t10,B0,C0⟩;have hid:=hs.lt;cases z with
 | zero=>
  have l8:¬(((5 - 0:Nat):Int))<5:=by decide
  have F0:(dc,false)=R:=hr;replace F0:Hd _:=F0;clear hr;refine zW tyF ?_;refine k2.out _ _ ?_;refine zW tyF ?_;exact fin _ _ false _ qp qe f3 hs F0.out
 | succ z=>
 have l8:(((5 - (z+1):Nat):Int))<5:=by omega
 have hwz:IntKind.i64.wrap (((5 - (z+1):Nat):Int)+1)=((5 - z:Nat):Int):=by rw[au (by omega) (by omega)];omega
 have F0:=hr.out;rw[Go.Sort.partialIns] at F0;clear hr;obtain ⟨I,hI⟩:∃ I,Hd (Go.Sort.scanSorted (ltF cf) dc b i0=I):=⟨_,rfl⟩;obtain ⟨hI1,O_⟩:=WL (lt:=ltF cf) (d:=dc) (b - i0) i0 (zA1 _) W9;rw[hI.out] at F0 hI1 O_;dsimp only at F0
 replace F0:Hd _:=F0;generalize hcz:((5 - (z+1):Nat):Int)=cz at l8 hwz t10;replace hcz:Hd _:=hcz;refine zW tyF ?_;refine R1.dS fun K2 q1 q2 q3 q4=>?_;refine R1.gW (fun B H4=>Fr (fun k=>k=id) H H4∧Srt c H4 id gen n dc∧slot B.tm 0=.one ((.o (.sl id gen 0 n 2)))∧slot B.tm 1=.one (.i .i64 (a:Int))∧slot B.tm 2=.one (.i .i64 (b:Int))∧slot B.tm 3=.one ((.o (.clo cl [])))∧slot B.tm 9=.one (.i .i64 (I:Int))∧slot B.tm 10=.one (.i .i64 (cz:Int))∧B.nt=141∧B.dfr=[]) (fun K3 m1 m2 m3=>?_) ?_
 ·refine R1.dM fun K4 u1 u2 u3 u4=>?_;refine R1.loop (fun z A H4=>∃ ii:Nat,z=b - ii∧a+1≤ii∧ii≤b∧Fr (fun k=>k=id) H H4∧Srt c H4 id gen n dc∧Hd (Go.Sort.scanSorted (ltF cf) dc b ii=I)∧slot A.tm 0=.one ((.o (.sl id gen 0 n 2)))∧slot A.tm 1=.one (.i .i64 (a:Int))∧slot A.tm 2=.one (.i .i64 (b:Int))∧slot A.tm 3=.one ((.o (.clo cl [])))∧slot A.tm 9=.one (.i .i64 (ii:Int))∧slot A.tm 10=.one (.i .i64 (cz:Int))∧A.nt=141∧A.dfr=[]) ?_ (b - i0)
   ⟨i0,rfl,u6,W9,f3,hs,hI,zL⟩
  clear t0 t1 t2 t3 t9 t10 B0 C0 A hs f3 H3 hid hI u3 l8 hwz;rintro z A H4 ⟨ii,rfl,u6,W9,f4,hs,hr,t0,t1,t2,t3,t9,t10,B0,C0⟩;have hid:=hs.lt;by_cases hib:ii<b
  ·have hibi:(ii:Int)<(b:Int):=by omega
   obtain ⟨k,rfl⟩:∃ k,ii=k+1:=⟨ii - 1,by omega⟩;have hwk:IntKind.i64.wrap (((k+1:Nat):Int) - 1)=(k:Int):=by rw[au (by omega) (by omega)];omega
   have M0:=hs.sz;obtain ⟨lo,B2,hg⟩:=hs.row;have lv:=hm.ltH (zA2 hN f4.nx);have R0:=hm.len;have b1:k+1<n:=by omega
   have b2:k<n:=by omega
   have d1:k+1<Array.size dc:=by omega
   have d2:k<Array.size dc:=by omega
   replace M0:Hd _:=M0;replace d1:Hd _:=d1;replace d2:Hd _:=d2;refine zG (qA tyF (qA (ixC b1) (qA (ixC b2) (rdQ hm.len d1.out d2.out)))) fun K hK=>?_;refine WE.con (hm.con H4 dc[k+1]! dc[k]! (zA2 hN f4.nx)) fun w' H5 g5 hq=>?_;subst hq;have X0:=hs.fr g5 zB2;have hg:=(g5.get _ hid zB2).trans hg;have hid:=zA0 hid g5.nx;have f5:=f4.then g5 fun _ h=>h.elim;by_cases B3:cf dc[k+1]! dc[k]!<0
   ·have J0:=hr.out;rw[pT (.inr (by show ltF cf dc[k+1]! dc[k]! = true;exact decide_eq_true B3))] at J0;clear hr;subst J0;refine zK tyF ?_;refine u2.out _ _ (m1.out _ _ ?_);exact ⟨f5,X0,zL⟩
   have J0:=hr.out;rw[Qb hib (by show ltF cf dc[k+1]! dc[k]! = false;exact decide_eq_false B3)] at J0;clear hr;replace J0:Hd _:=J0;have hwi:IntKind.i64.wrap (((k+1:Nat):Int)+1)=((k+1+1:Nat):Int):=by rw[au (by omega) (by omega)];omega
   refine zK tyF ?_;refine R1.dM fun K4 v1 v2 v3 v4=>?_;refine zW tyF ?_;refine v1.out _ _ ?_;exact ⟨b - (k+1+1),by omega,k+1+1,rfl,by omega,by omega,f5,X0,J0,zL⟩
  have hibi:¬(ii:Int)<(b:Int):=by omega
  have J0:=hr.out;rw[pT (.inl hib)] at J0;clear hr;subst J0;refine zW tyF ?_;refine u2.out _ _ (m1.out _ _ ?_);exact ⟨f4,hs,zL⟩
 clear t0 t1 t2 t3 t9 t10 B0 C0 A hs f3 hid hI H3 l8;rintro A H3 ⟨f3,hs,t0,t1,t2,t3,t9,t10,B0,C0⟩;have hid:=hs.lt;have I0:=F0.out;clear F0;by_cases hIb:I=b
 ·rw[zB0 hIb] at I0;have hIbi:((I:Int)==(b:Int))=true:=by rw[hIb];exact beq_self_eq_true _
  replace I0:Hd _:=I0;replace hIb:Hd _:=hIb;refine zW tyF ?_;exact q4.out _ _ (k4.out _ _ (fin _ _ true _ qp qe f3 hs I0.out))
 rw[zB1 hIb] at I0;have hIbi:((I:Int)==(b:Int))=false:=zB5 (by omega);have hwba:IntKind.i64.wrap ((b:Int) - (a:Int))=((b - a:Nat):Int):=by rw[au (by omega) (by omega)];omega
 by_cases h50:b - a<50
 ·rw[zB0 h50] at I0;have h50i:((b - a:Nat):Int)<50:=by omega
  replace I0:Hd _:=I0;replace hIb:Hd _:=hIb;refine zW tyF ?_;exact q4.out _ _ (k4.out _ _ (fin _ _ false _ qp qe f3 hs I0.out))
 rw[zB1 h50] at I0;have h50i:¬((b - a:Nat):Int)<50:=by omega
 have hwI:IntKind.i64.wrap ((I:Int) - 1)=((I - 1:Nat):Int):=by rw[au (by omega) (by omega)];omega
 have hwIa:IntKind.i64.wrap ((I:Int) - (a:Int))=((I - a:Nat):Int):=by rw[au (by omega) (by omega)];omega
 have hwbI:IntKind.i64.wrap ((b:Int) - (I:Int))=((b - I:Nat):Int):=by rw[au (by omega) (by omega)];omega
 have M0:=hs.sz;obtain ⟨lo,B2,hg⟩:=hs.row;have lv:=hm.ltH (zA2 hN f3.nx);have R0:=hm.len;have hIn:I<n:=by omega
 have hIn1:I - 1<n:=by omega
 have d1:I<dc.size:=by omega
 have d2:I - 1<dc.size:=by omega
 replace I0:Hd _:=I0;replace M0:Hd _:=M0;replace d1:Hd _:=d1;replace d2:Hd _:=d2;refine zW (qA tyF (qA (ixC hIn) (qA (ixC hIn1) (swQ hm.len d1.out d2.out)))) ?_;obtain ⟨e1,z6⟩:∃ e1,Hd (Go.Sort.swp dc I (I - 1)=e1):=⟨_,rfl⟩;have P3:=I0.out;rw[z6.out] at P3;obtain ⟨e2,o7⟩:∃ e2,Hd ((if I - a≥2 then Go.Sort.shiftDown (ltF cf) (I - 1) e1 else e1)=e2):=⟨_,rfl⟩;rw[o7.out] at P3;obtain ⟨e3,S8⟩:∃ e3,Hd ((if b - I≥2 then Go.Sort.shiftUp (ltF cf) b (I+1) e2 else e2)=e3):=⟨_,rfl⟩;rw[S8.out] at P3;clear I0;replace P3:Hd _:=P3;have V1:Srt c ((H3.mod id (.arr (dW c (dc.setIfInBounds I dc[I - 1]!)) 92 gen gen)).mod id (.arr (dW c (Go.Sort.swp dc I (I - 1))) 92 gen gen)) id gen n e1:=by
  rw[←z6.out];exact ⟨by rw[swp_size];exact M0.out,⟨gen,zA1 _,aj rfl⟩,hid⟩
 have f4:Fr (fun k=>k=id) H ((H3.mod id (.arr (dW c (dc.setIfInBounds I dc[I - 1]!)) 92 gen gen)).mod id (.arr (dW c (Go.Sort.swp dc I (I - 1))) 92 gen gen)):=(f3.mod _ (.inr rfl)).mod _ (.inr rfl);refine R1.gen (fun A4 H4=>Fr (fun k=>k=id) H H4∧Srt c H4 id gen n e1∧slot A4.tm 0=.one ((.o (.sl id gen 0 n 2)))∧slot A4.tm 1=.one (.i .i64 (a:Int))∧slot A4.tm 2=.one (.i .i64 (b:Int))∧slot A4.tm 3=.one ((.o (.clo cl [])))∧slot A4.tm 9=.one (.i .i64 (I:Int))∧slot A4.tm 10=.one (.i .i64 (cz:Int))∧slot A4.tm 65=.one (.b (decide ((2:Int)≤((I - a:Nat):Int))))∧A4.nt=141∧A4.dfr=[]) ⟨f4,V1,zL⟩ ?_;clear t0 t1 t2 t3 t9 t10 B0 C0 A hs f3 hid hg B2 lo lv V1 f4 z6 M0 d1 d2 H3;rintro A H3 ⟨f3,hs,t0,t1,t2,t3,t9,t10,t65,B0,C0⟩;have hid:=hs.lt;refine R1.gW (fun B H4=>Fr (fun k=>k=id) H H4∧Srt c H4 id gen n e2∧slot B.tm 0=.one ((.o (.sl id gen 0 n 2)))∧slot B.tm 1=.one (.i .i64 (a:Int))∧slot B.tm 2=.one (.i .i64 (b:Int))∧slot B.tm 3=.one ((.o (.clo cl [])))∧slot B.tm 9=.one (.i .i64 (I:Int))∧slot B.tm 10=.one (.i .i64 (cz:Int))∧B.nt=141∧B.dfr=[]) (fun K3 m1 m2 m3=>?_) ?_
 ·by_cases hIa:2≤I - a
  case neg=>
   have hIai:¬(2:Int)≤((I - a:Nat):Int):=by omega
   have he:=o7.out;rw[zB1 hIa] at he;subst he;clear o7;refine zW tyF ?_;refine m1.out _ _ ?_;exact ⟨f3,hs,zL⟩
  have hIai:(2:Int)≤((I - a:Nat):Int):=by omega
  have he:=o7.out;rw[zB0 hIa] at he;clear o7;replace he:Hd _:=he;refine zW tyF ?_;refine R1.dM fun K4 u1 u2 u3 u4=>?_;refine R1.loop (fun z A H4=>∃ (j:Nat) (dj:Array α),z=j∧j≤I - 1∧Fr (fun k=>k=id) H H4∧Srt c H4 id gen n dj∧Hd (Go.Sort.shiftDown (ltF cf) j dj=e2)∧slot A.tm 0=.one ((.o (.sl id gen 0 n 2)))∧slot A.tm 1=.one (.i .i64 (a:Int))∧slot A.tm 2=.one (.i .i64 (b:Int))∧slot A.tm 3=.one ((.o (.clo cl [])))∧slot A.tm 9=.one (.i .i64 (I:Int))∧slot A.tm 10=.one (.i .i64 (cz:Int))∧slot A.tm 11=.one (.i .i64 (j:Int))∧A.nt=141∧A.dfr=[]) ?_ (I - 1)
   ⟨I - 1,e1,rfl,zA1 _,f3,hs,he,zL⟩
  clear t0 t1 t2 t3 t9 t10 t65 B0 C0 A hs f3 hid he u3 H3;rintro j A H4 ⟨_,dj,rfl,hj,f4,hs,hr,t0,t1,t2,t3,t9,t10,t11,B0,C0⟩;have hid:=hs.lt;cases j with
  | zero=>
   have l8:¬(1:Int)≤((0:Nat):Int):=by decide
   have J0:dj=e2:=hr;subst J0;clear hr;refine zW tyF ?_;refine u2.out _ _ (m1.out _ _ ?_);exact ⟨f4,hs,zL⟩
  | succ k=>
   have l8:(1:Int)≤((k+1:Nat):Int):=by omega
   have hwk:IntKind.i64.wrap (((k+1:Nat):Int) - 1)=(k:Int):=by rw[au (by omega) (by omega)];omega
   have M0:=hs.sz;obtain ⟨lo,B2,hg⟩:=hs.row;have lv:=hm.ltH (zA2 hN f4.nx);have b1:k+1<n:=by omega
   have b2:k<n:=by omega
   have d1:k+1<Array.size dj:=by omega
   have d2:k<Array.size dj:=by omega
   replace M0:Hd _:=M0;replace d1:Hd _:=d1;replace d2:Hd _:=d2;refine zW tyF ?_;refine R1.dS fun K5 v1 v2 v3 v4=>?_;refine zG (qA tyF (qA (ixC b1) (qA (ixC b2) (rdQ hm.len d1.out d2.out)))) fun K hK=>?_;refine WE.con (hm.con H4 dj[k+1]! dj[k]! (zA2 hN f4.nx)) fun w' H5 g5 hq=>?_;subst hq;have X0:=hs.fr g5 zB2;have hg:=(g5.get _ hid zB2).trans hg;have hid:=zA0 hid g5.nx;have lv:=hm.ltH (zA2 hN (zA2 f4.nx g5.nx));have f5:=f4.then g5 fun _ h=>h.elim;have J0:=hr.out;rw[Go.Sort.shiftDown] at J0;by_cases B3:cf dj[k+1]! dj[k]!<0
   ·rw[zB1 (by unfold ltF;rw[decide_eq_true B3];decide)] at J0;clear hr hs X0;replace J0:Hd _:=J0;refine zK (qA tyF (qA (ixC b1) (qA (ixC b2) (swQ hm.len d1.out d2.out)))) ?_;refine v1.out _ _ ?_;refine zW tyF ?_;exact ⟨k,zA6 _,k,Go.Sort.swp dj (k+1) k,rfl,by omega,(f5.mod _ (.inr rfl)).mod _ (.inr rfl),⟨by rw[swp_size];exact M0.out,⟨gen,zA1 _,aj rfl⟩,hid⟩,J0,zL⟩
   rw[zB0 (by unfold ltF;rw[decide_eq_false B3];rfl)] at J0;subst J0;clear hr;refine zK tyF ?_;refine v3.out _ _ _ (by decide) (u2.out _ _ (m1.out _ _ ?_));exact ⟨f5,X0,zL⟩
 clear t0 t1 t2 t3 t9 t10 t65 B0 C0 A hs f3 hid o7 H3;rintro A H3 ⟨f3,hs,t0,t1,t2,t3,t9,t10,B0,C0⟩;have hid:=hs.lt;refine zW tyF ?_;refine R1.YD (fun B H4=>Fr (fun k=>k=id) H H4∧Srt c H4 id gen n e3∧slot B.tm 0=.one ((.o (.sl id gen 0 n 2)))∧slot B.tm 1=.one (.i .i64 (a:Int))∧slot B.tm 2=.one (.i .i64 (b:Int))∧slot B.tm 3=.one ((.o (.clo cl [])))∧slot B.tm 9=.one (.i .i64 (I:Int))∧slot B.tm 10=.one (.i .i64 (cz:Int))∧B.nt=141∧B.dfr=[]) (fun K3 m1 m2 m3=>?_) ?_
 ·by_cases hIa:2≤b - I
  case neg=>
   have hIai:¬(2:Int)≤((b - I:Nat):Int):=by omega
   have he:=S8.out;rw[zB1 hIa] at he;subst he;clear S8;refine zW tyF ?_;refine m1.out _ _ ?_;exact ⟨f3,hs,zL⟩
  have hIai:(2:Int)≤((b - I:Nat):Int):=by omega
  have hwI1:=zC0 I (by omega);have he:=S8.out;rw[zB0 hIa] at he;clear S8;replace he:Hd _:=he;refine zW tyF ?_;refine R1.dM fun K4 u1 u2 u3 u4=>?_;refine R1.loop (fun z A H4=>∃ (j:Nat) (dj:Array α),z=b - j∧1≤j∧j≤b∧Fr (fun k=>k=id) H H4∧Srt c H4 id gen n dj∧Hd (Go.Sort.shiftUp (ltF cf) b j dj=e3)∧slot A.tm 0=.one ((.o (.sl id gen 0 n 2)))∧slot A.tm 1=.one (.i .i64 (a:Int))∧slot A.tm 2=.one (.i .i64 (b:Int))∧slot A.tm 3=.one ((.o (.clo cl [])))∧slot A.tm 9=.one (.i .i64 (I:Int))∧slot A.tm 10=.one (.i .i64 (cz:Int))∧slot A.tm 12=.one (.i .i64 (j:Int))∧A.nt=141∧A.dfr=[]) ?_ (b - (I+1))
   ⟨I+1,e2,rfl,by omega,by omega,f3,hs,he,zL⟩
  clear t0 t1 t2 t3 t9 t10 B0 C0 A hs f3 hid he u3 H3 hwI1;rintro z A H4 ⟨j,dj,rfl,F',hj,f4,hs,hr,t0,t1,t2,t3,t9,t10,t12,B0,C0⟩;have hid:=hs.lt;have J0:=hr.out;rw[Go.Sort.shiftUp] at J0;by_cases hjb:j<b
  case neg=>
   have l8:¬(j:Int)<(b:Int):=by omega
   rw[zB1 hjb] at J0;subst J0;clear hr;refine zW tyF ?_;refine u2.out _ _ (m1.out _ _ ?_);exact ⟨f4,hs,zL⟩
  have l8:(j:Int)<(b:Int):=by omega
  rw[zB0 hjb] at J0;obtain ⟨k,rfl⟩:∃ k,j=k+1:=⟨j - 1,by omega⟩;have hwk:IntKind.i64.wrap (((k+1:Nat):Int) - 1)=(k:Int):=by rw[au (by omega) (by omega)];omega
  have hwk1:IntKind.i64.wrap (((k+1:Nat):Int)+1)=((k+1+1:Nat):Int):=by rw[au (by omega) (by omega)];omega
  have M0:=hs.sz;obtain ⟨lo,B2,hg⟩:=hs.row;have lv:=hm.ltH (zA2 hN f4.nx);have b1:k+1<n:=by omega
  have b2:k<n:=by omega
  have d1:k+1<Array.size dj:=by omega
  have d2:k<Array.size dj:=by omega
  replace M0:Hd _:=M0;replace d1:Hd _:=d1;replace d2:Hd _:=d2;replace J0:Hd ((if (!ltF cf dj[k+1]! dj[k]!)=true then dj else Go.Sort.shiftUp (ltF cf) b (k+1+1) (Go.Sort.swp dj (k+1) k))=e3):=J0;clear hr;refine zW tyF ?_;refine R1.dS fun K5 v1 v2 v3 v4=>?_;refine zG (qA tyF (qA (ixC b1) (qA (ixC b2) (rdQ hm.len d1.out d2.out)))) fun K hK=>?_;refine WE.con (hm.con H4 dj[k+1]! dj[k]! (zA2 hN f4.nx)) fun w' H5 g5 hq=>?_;subst hq;have X0:=hs.fr g5 zB2;have hg:=(g5.get _ hid zB2).trans hg;have hid:=zA0 hid g5.nx;have lv:=hm.ltH (zA2 hN (zA2 f4.nx g5.nx));have f5:=f4.then g5 fun _ h=>h.elim;have b7:=J0.out;clear J0;by_cases B3:cf dj[k+1]! dj[k]!<0
  ·rw[zB1 (by unfold ltF;rw[decide_eq_true B3];decide)] at b7;clear hs X0;replace b7:Hd _:=b7;refine zK (qA tyF (qA (ixC b1) (qA (ixC b2) (swQ hm.len d1.out d2.out)))) ?_;refine v1.out _ _ ?_;refine zW tyF ?_;exact ⟨b - (k+1+1),by omega,k+1+1,Go.Sort.swp dj (k+1) k,rfl,by omega,by omega,(f5.mod _ (.inr rfl)).mod _ (.inr rfl),⟨by rw[swp_size];exact M0.out,⟨gen,zA1 _,aj rfl⟩,hid⟩,b7,zL⟩
  rw[zB0 (by unfold ltF;rw[decide_eq_false B3];rfl)] at b7;subst b7;refine zK tyF ?_;refine v3.out _ _ _ (by decide) (u2.out _ _ (m1.out _ _ ?_));exact ⟨f5,X0,zL⟩
 clear t0 t1 t2 t3 t9 t10 B0 C0 A hs f3 hid S8 H3;rintro A H3 ⟨f3,hs,t0,t1,t2,t3,t9,t10,B0,C0⟩;replace hs:Hd _:=hs;refine q1.out _ _ ?_;refine zW tyF ?_;exact ⟨z,zA6 _,I,e3,by omega,by omega,O_,f3,hs.out,P3,zL⟩
end
end Go.Proofs.YtnhbkodnmkojpaaGreat
