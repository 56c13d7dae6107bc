/- A part of the proof: BkSw4, BkSw5, BkSw6, BkSw7, BkSw8. No conditions. -/
import Derived.Test.YtnhbkodnmkojpaaGreatRAq
import Derived.Sort.LotD5
import Derived.Sort.LotC
set_option maxRecDepth 100000
set_option maxHeartbeats 64000000
set_option linter.unusedVariables false
set_option linter.unusedSimpArgs false
namespace Go.Proofs.YtnhbkodnmkojpaaGreat
open Go Go.Eng
theorem BK:ak Tryz.prog 196=true:=by kernel_rfl
theorem BG:ak Tryz.prog 183=true:=by kernel_rfl
theorem CZ:ak Tryz.prog 182=true:=by kernel_rfl
theorem UM:ak Tryz.prog 149=true:=by kernel_rfl
def Ctr (H:Hp) (q k:Nat):Prop:=H.get q=some (.arr [.i .i64 (k:Int)] 3 0 0)∧q<H.nx
section
variable {α:Type} [Inhabited α] {c:α→List AC} {cf:α→α→Int} {cl N:Nat}
theorem vF (hm:Cmp c cf cl N) (H:Hp) (id gen n:Nat) (d:Array α) (a b q k:Nat) (hs:Srt c H id gen n d) (hq:Ctr H q k) (hqi:q≠id) (hN:N≤H.nx) (ha:a<n) (hb:b<n) (hn:n≤1099511627776) (hk:k≤1000):
  Con E2 196 [.one (.o (.sl id gen 0 n 2)),.one (.i .i64 a),.one (.i .i64 b),.one (.o (.ptr q 0 0 1)),.one (.o (.clo cl []))] H (fun j=>j=q) fun r H'=>r=.tup [(false,[.i .i64 ((Go.Sort.order2 (ltF cf) d a b k).1:Int)]),(false,[.i .i64 ((Go.Sort.order2 (ltF cf) d a b k).2.1:Int)])]∧Ctr H' q (Go.Sort.order2 (ltF cf) d a b k).2.2:=by
 have j5:=hm.bd;refine Con.of rfl fun lg=>?_;have hs:Srt c ⟨H.t,H.nx,lg⟩ id gen n d:=hs;have hN:N≤(⟨H.t,H.nx,lg⟩:Hp).nx:=hN;have hq:Ctr ⟨H.t,H.nx,lg⟩ q k:=hq;generalize (⟨H.t,H.nx,lg⟩:Hp)=H at hs hN hq ⊢;refine C1.body (E:=E2) (nt:=32) (res:=[.tmp 10,.tmp 11]) Tryz.func196 rfl rfl rfl rfl rfl fun tm A0=>?_;have h0:=A0 0 _ rfl;have h1:=A0 1 _ rfl;have h2:=A0 2 _ rfl;have h3:=A0 3 _ rfl;have h4:=A0 4 _ rfl;clear A0;generalize E0:Go.Sort.order2 (ltF cf) d a b k=R;have fin:∀ (A:ab) (H3:Hp) (x y:Nat),slot A.tm 10=.one (.i .i64 (x:Int))→slot A.tm 11=.one (.i .i64 (y:Int))→A.dfr=[]→Fr (fun j=>j=q) H H3→Ctr H3 q R.2.2→x=R.1→y=R.2.1→∃ w H4,an E2 [.tmp 10,.tmp 11] (.ret,A,H3)=.ok [(w,H4)]∧Fr (fun j=>j=q) H H4∧∀ lg':List Nat,w=.tup [(false,[.i .i64 (R.1:Int)]),(false,[.i .i64 (R.2.1:Int)])]∧Ctr ⟨H4.t,H4.nx,lg'⟩ q R.2.2:=fun A H3 x y h1 h2 hd h3 h4 h5 h6=>⟨_,H3,aQ (.i .i64 x) (.i .i64 y) (.inr rfl) hd h1 h2,h3,fun _=>⟨by rw[h5,h6],h4⟩⟩;have hid:=hs.lt;have R0:=hs.sz;obtain ⟨lo,P2,hg⟩:=hs.row;obtain ⟨u7,W1⟩:=hq;have lv:=hm.ltH hN;have W0:=hm.len;have d1:a<d.size:=by omega
 have d2:b<d.size:=by omega
 replace E0:Hd _:=E0;replace R0:Hd _:=R0;replace d1:Hd _:=d1;replace d2:Hd _:=d2;refine zW tyF ?_;refine zG (qA tyF (qA (ixC ha) (qA (ixC hb) (rdQ hm.len d1.out d2.out)))) fun K hK=>?_;refine WE.con (hm.con H d[b]! d[a]! hN) fun w' H5 g5 Z2=>?_;subst Z2;have hg:=(g5.get _ hid zB2).trans hg;have hid:=zA0 hid g5.nx;have u7:=(g5.get _ W1 zB2).trans u7;have W1:=zA0 W1 g5.nx;have f5:Fr (fun j=>j=q) H H5:=(Fr.refl _).then g5 fun _ h=>h.elim;have F0:=E0.out;unfold Go.Sort.order2 at F0;by_cases T3:cf d[b]! d[a]!<0
 ·rw[zB0 (show ltF cf d[b]! d[a]! = true from decide_eq_true T3)] at F0;have hwk:=zC0 k (by omega);clear E0;replace F0:Hd _:=F0;refine zK tyF ?_;exact fin _ _ b a qp qp qe (f5.mod _ (.inr rfl)) ⟨by rw[←F0.out];exact al rfl,W1⟩ (by rw[←F0.out]) (by rw[←F0.out])
 rw[zB1 (by unfold ltF;rw[decide_eq_false T3];decide)] at F0;clear E0;replace F0:Hd _:=F0;refine zK tyF ?_;exact fin _ _ a b qp qp qe f5 ⟨by rw[←F0.out];exact u7,W1⟩ (by rw[←F0.out]) (by rw[←F0.out])
theorem ux {lt:α→α→Bool} {d:Array α} {a b k n:Nat} (ha:a<n) (hb:b<n):(Go.Sort.order2 lt d a b k).1<n∧(Go.Sort.order2 lt d a b k).2.1<n∧(Go.Sort.order2 lt d a b k).2.2≤k+1:=by
 unfold Go.Sort.order2;split
 ·exact ⟨hb,ha,zA1 _⟩
 exact ⟨ha,hb,Nat.le_succ _⟩
theorem wy (hm:Cmp c cf cl N) (H:Hp) (id gen n:Nat) (d:Array α) (a b e q k:Nat) (hs:Srt c H id gen n d) (hq:Ctr H q k) (hqi:q≠id) (hN:N≤H.nx) (ha:a<n) (hb:b<n) (he:e<n) (hn:n≤1099511627776) (hk:k≤100):
  Con E2 183 [.one (.o (.sl id gen 0 n 2)),.one (.i .i64 a),.one (.i .i64 b),.one (.i .i64 e),.one (.o (.ptr q 0 0 1)),.one (.o (.clo cl []))] H (fun j=>j=q) fun r H'=>r=.one (.i .i64 ((Go.Sort.median (ltF cf) d a b e k).1:Int))∧Ctr H' q (Go.Sort.median (ltF cf) d a b e k).2:=by
 refine Con.of rfl fun lg=>?_;have hs:Srt c ⟨H.t,H.nx,lg⟩ id gen n d:=hs;have hN:N≤(⟨H.t,H.nx,lg⟩:Hp).nx:=hN;have hq:Ctr ⟨H.t,H.nx,lg⟩ q k:=hq;generalize (⟨H.t,H.nx,lg⟩:Hp)=H at hs hN hq ⊢;refine C1.body (E:=E2) (nt:=41) (res:=[.tmp 12]) Tryz.func183 rfl rfl rfl rfl rfl fun tm A0=>?_;have h0:=A0 0 _ rfl;have h1:=A0 1 _ rfl;have h2:=A0 2 _ rfl;have h3:=A0 3 _ rfl;have h4:=A0 4 _ rfl;have h5:=A0 5 _ rfl;clear A0;generalize E0:Go.Sort.median (ltF cf) d a b e k=R;unfold Go.Sort.median at E0;have hid:=hs.lt;have T':=hq.2;replace E0:Hd _:=E0;refine zW tyF ?_;refine zG (qA tyF BK) fun K hK=>?_;refine WE.con (vF hm H id gen n d a b q k hs hq hqi hN ha hb hn (by omega)) fun w' H1 g1 ⟨hw,u7⟩=>?_;subst hw;obtain ⟨x1,x2,x3⟩:=@ux α _ (ltF cf) d a b k n ha hb;generalize Go.Sort.order2 (ltF cf) d a b k=r1 at E0 u7 x1 x2 x3 ⊢;have D5:=hs.fr g1 (fun h=>hqi h.symm);have hid1:=D5.lt;have hql1:=u7.2;have hN1:=zA2 hN g1.nx;refine zK tyF ?_;refine zG (qA tyF BK) fun K hK=>?_;refine WE.con (vF hm H1 id gen n d r1.2.1 e q r1.2.2 D5 u7 hqi hN1 x2 he hn (by omega)) fun w' H2 g2 ⟨hw,W1⟩=>?_;subst hw;obtain ⟨y1,y2,y3⟩:=@ux α _ (ltF cf) d r1.2.1 e r1.2.2 n x2 he;have F0:(let r3:=Go.Sort.order2 (ltF cf) d r1.1 (Go.Sort.order2 (ltF cf) d r1.2.1 e r1.2.2).1 (Go.Sort.order2 (ltF cf) d r1.2.1 e r1.2.2).2.2;(r3.2.1,r3.2.2))=R:=E0.out;clear E0;generalize Go.Sort.order2 (ltF cf) d r1.2.1 e r1.2.2=r2 at F0 W1 y1 y2 y3 ⊢;have I4:=D5.fr g2 (fun h=>hqi h.symm);have U_:=I4.lt;have hql2:=W1.2;have hN2:=zA2 hN1 g2.nx;replace F0:Hd _:=F0;refine zK tyF ?_;refine zG (qA tyF BK) fun K hK=>?_;refine WE.con (vF hm H2 id gen n d r1.1 r2.1 q r2.2.2 I4 W1 hqi hN2 x1 y1 hn (by omega)) fun w' H3 g3 ⟨hw,S4⟩=>?_;subst hw;have J0:=F0.out;clear F0;generalize Go.Sort.order2 (ltF cf) d r1.1 r2.1 r2.2.2=r3 at J0 S4 ⊢
 replace J0:(r3.2.1,r3.2.2)=R:=J0;replace J0:Hd _:=J0;refine zK tyF ?_;exact ⟨_,_,ah (.i .i64 (r3.2.1:Int)) (.inr rfl) qe qp,(g1.then g2 fun _ h=>.inr h).then g3 (fun _ h=>.inr h),fun _=>by rw[←J0.out];exact ⟨rfl,S4⟩⟩
theorem Jh {lt:α→α→Bool} {d:Array α} {a b e k n:Nat} (ha:a<n) (hb:b<n) (he:e<n):(Go.Sort.median lt d a b e k).1<n∧(Go.Sort.median lt d a b e k).2≤k+3:=by
 obtain ⟨x1,x2,x3⟩:=@ux α _ lt d a b k n ha hb;obtain ⟨y1,y2,y3⟩:=@ux α _ lt d (Go.Sort.order2 lt d a b k).2.1 e (Go.Sort.order2 lt d a b k).2.2 n x2 he;obtain ⟨z1,z2,z3⟩:=@ux α _ lt d (Go.Sort.order2 lt d a b k).1 (Go.Sort.order2 lt d (Go.Sort.order2 lt d a b k).2.1 e (Go.Sort.order2 lt d a b k).2.2).1 (Go.Sort.order2 lt d (Go.Sort.order2 lt d a b k).2.1 e (Go.Sort.order2 lt d a b k).2.2).2.2 n x1 y1;exact ⟨z2,by unfold Go.Sort.median;show _≤_;dsimp only;omega⟩
theorem xx (hm:Cmp c cf cl N) (H:Hp) (id gen n:Nat) (d:Array α) (a q k:Nat) (hs:Srt c H id gen n d) (hq:Ctr H q k) (hqi:q≠id) (hN:N≤H.nx) (h1:1≤a) (ha:a+1<n) (hn:n≤1099511627776) (hk:k≤100):
  Con E2 182 [.one (.o (.sl id gen 0 n 2)),.one (.i .i64 a),.one (.o (.ptr q 0 0 1)),.one (.o (.clo cl []))] H (fun j=>j=q) fun r H'=>r=.one (.i .i64 ((Go.Sort.medianAdjacent (ltF cf) d a k).1:Int))∧Ctr H' q (Go.Sort.medianAdjacent (ltF cf) d a k).2:=by
 have h1a:=h1;clear h1;refine Con.of rfl fun lg=>?_;have hs:Srt c ⟨H.t,H.nx,lg⟩ id gen n d:=hs;have hN:N≤(⟨H.t,H.nx,lg⟩:Hp).nx:=hN;have hq:Ctr ⟨H.t,H.nx,lg⟩ q k:=hq;generalize (⟨H.t,H.nx,lg⟩:Hp)=H at hs hN hq ⊢;refine C1.body (E:=E2) (nt:=18) (res:=[.tmp 8]) Tryz.func182 rfl rfl rfl rfl rfl fun tm A0=>?_;have h0:=A0 0 _ rfl;have h1:=A0 1 _ rfl;have h2:=A0 2 _ rfl;have h3:=A0 3 _ rfl;clear A0;unfold Go.Sort.medianAdjacent;generalize E0:Go.Sort.median (ltF cf) d (a - 1) a (a+1) k=R;replace E0:Hd _:=E0;have hid:=hs.lt;have T':=hq.2;have R3:IntKind.i64.wrap ((a:Int) - 1)=((a - 1:Nat):Int):=by rw[ao (by omega) (by omega)];omega
 have V0:=zC0 a (by omega);refine zW tyF ?_;refine zG (qA tyF BG) fun K hK=>?_;refine WE.con (wy hm H id gen n d (a - 1) a (a+1) q k hs hq hqi hN (by omega) (by omega) ha hn hk) fun w' H1 g1 ⟨hw,u7⟩=>?_;subst hw;rw[E0.out] at u7 ⊢;refine zK tyF ?_;exact ⟨_,_,ah (.i .i64 (R.1:Int)) (.inr rfl) qe qp,g1,fun _=>⟨rfl,u7⟩⟩
theorem Je {lt:α→α→Bool} {d:Array α} {a k n:Nat} (ha:a+1<n):(Go.Sort.medianAdjacent lt d a k).1<n∧(Go.Sort.medianAdjacent lt d a k).2≤k+3:=Jh (by omega) (by omega) ha
def vX:Go.Sort.Hint→Int
 | .unknown=>0
 | .increasing=>1
 | .decreasing=>2
theorem Tl (hm:Cmp c cf cl N) (H:Hp) (id gen n:Nat) (d:Array α) (a b:Nat) (hs:Srt c H id gen n d) (hN:N≤H.nx) (Y5:a<b) (hb:b≤n) (hn:n≤1099511627776):
  Con E2 149 [.one (.o (.sl id gen 0 n 2)),.one (.i .i64 a),.one (.i .i64 b),.one (.o (.clo cl []))] H (fun _=>False) fun r H'=>r=.tup [(false,[.i .i64 ((Go.Sort.choosePivot (ltF cf) d a b).1:Int)]),(false,[.i .i64 (vX (Go.Sort.choosePivot (ltF cf) d a b).2)])]:=by
 refine Con.of rfl fun lg=>?_;have hs:Srt c ⟨H.t,H.nx,lg⟩ id gen n d:=hs;have hN:N≤(⟨H.t,H.nx,lg⟩:Hp).nx:=hN;generalize (⟨H.t,H.nx,lg⟩:Hp)=H at hs hN ⊢;refine C1.body (E:=E2) (nt:=63) (res:=[.tmp 8,.tmp 9]) Tryz.func149 rfl rfl rfl rfl rfl fun tm A0=>?_;have h0:=A0 0 _ rfl;have h1:=A0 1 _ rfl;have h2:=A0 2 _ rfl;have h3:=A0 3 _ rfl;clear A0;generalize E0:Go.Sort.choosePivot (ltF cf) d a b=R;unfold Go.Sort.choosePivot at E0;dsimp only at E0
 have fin:∀ (A:ab) (H3:Hp) (x:Nat) (y:Int) (h:Go.Sort.Hint),slot A.tm 8=.one (.i .i64 (x:Int))→slot A.tm 9=.one (.i .i64 y)→y=vX h→A.dfr=[]→Gr H H3→(x,h)=R→∃ w H4,an E2 [.tmp 8,.tmp 9] (.ret,A,H3)=.ok [(w,H4)]∧Gr H H4∧∀ lg':List Nat,w=.tup [(false,[.i .i64 (R.1:Int)]),(false,[.i .i64 (vX R.2)])]:=fun A H3 x y h h1 h2 hy hd h3 h4=>⟨_,H3,aQ (.i .i64 x) (.i .i64 y) (.inr rfl) hd h1 h2,h3,fun _=>by rw[←h4,hy]⟩;have hid:=hs.lt;obtain ⟨w,hw⟩:∃ w,w=b - a:=⟨_,rfl⟩;have hw0:IntKind.i64.wrap ((b:Int) - (a:Int))=(w:Int):=by rw[ao (by omega) (by omega)];omega
 have hwq:IntKind.i64.wrap ((w:Int).tdiv 4)=((w / 4:Nat):Int):=by rw[Int.tdiv_eq_ediv_of_nonneg (by omega),ao (by omega) (by omega)];omega
 have R3:IntKind.i64.wrap (((w / 4:Nat):Int)*1)=((w / 4*1:Nat):Int):=by rw[ao (by omega) (by omega)];omega
 have V0:IntKind.i64.wrap (((w / 4:Nat):Int)*2)=((w / 4*2:Nat):Int):=by rw[ao (by omega) (by omega)];omega
 have l6:IntKind.i64.wrap (((w / 4:Nat):Int)*3)=((w / 4*3:Nat):Int):=by rw[ao (by omega) (by omega)];omega
 have B2:IntKind.i64.wrap ((a:Int)+((w / 4*1:Nat):Int))=((a+w / 4*1:Nat):Int):=by rw[ao (by omega) (by omega)];omega
 have X1:IntKind.i64.wrap ((a:Int)+((w / 4*2:Nat):Int))=((a+w / 4*2:Nat):Int):=by rw[ao (by omega) (by omega)];omega
 have G5:IntKind.i64.wrap ((a:Int)+((w / 4*3:Nat):Int))=((a+w / 4*3:Nat):Int):=by rw[ao (by omega) (by omega)];omega
 rw[←hw] at E0;generalize I5:a+w / 4*1=i1 at E0 B2;generalize s_:a+w / 4*2=i2 at E0 X1;generalize hi3:a+w / 4*3=i3 at E0 G5;have c1:i1<n:=by omega
 have c2:i2<n:=by omega
 have c3:i3<n:=by omega
 replace E0:Hd _:=E0;replace hw:Hd _:=hw;replace I5:Hd _:=I5;replace s_:Hd _:=s_;replace hi3:Hd _:=hi3;refine zW (qA tyF (qA arQ (JF (show (4:Int)≠0 by decide)))) ?_;have gA:Gr H (H.new (.arr [.i .i64 0] 3 0 0)):=(Fr.refl _).new _;have hsA:Srt c (H.new (.arr [.i .i64 0] 3 0 0)) id gen n d:=hs.fr gA zB2;have hqA:Ctr (H.new (.arr [.i .i64 0] 3 0 0)) H.nx 0:=⟨aB rfl,zA6 _⟩;have U9:H.nx≠id:=by omega
 have hqH:H.nx≤H.nx:=zA1 _;generalize V9:H.nx=q at hqA U9 ⊢;replace hqH:H.nx≤q:=by omega
 refine R1.gen (fun A1 H1=>Gr H H1∧Srt c H1 id gen n d∧Ctr H1 q 0∧slot A1.tm 0=.one ((.o (.sl id gen 0 n 2)))∧slot A1.tm 3=.one ((.o (.clo cl [])))∧slot A1.tm 10=.one (.i .i64 (w:Int))∧slot A1.tm 11=.one ((.o (.ptr q 0 0 1)))∧slot A1.tm 12=.one (.i .i64 (i1:Int))∧slot A1.tm 13=.one (.i .i64 (i2:Int))∧slot A1.tm 14=.one (.i .i64 (i3:Int))∧slot A1.tm 34=.one (.b (decide ((8:Int)≤(w:Int))))∧A1.nt=63∧A1.dfr=[]) ⟨gA,hsA,hqA,zL⟩ ?_;clear h0 h1 h2 h3 tm hs hid B2 X1 G5 hw0 R3 V0 l6 hwq gA hsA hqA V9;rintro A H1 ⟨g1,hs,hq,t0,t3,t10,t11,t12,t13,t14,t34,B0,C0⟩;have hN1:=zA2 hN g1.nx;have hid:=hs.lt;have T':=hq.2;refine R1.gX (fun B H3=>∃ x k:Nat,Gr H H3∧Ctr H3 q k∧k≤100∧Hd ((x,if k=0 then Go.Sort.Hint.increasing else if k=12 then Go.Sort.Hint.decreasing else Go.Sort.Hint.unknown)=R)∧slot B.tm 11=.one ((.o (.ptr q 0 0 1)))∧slot B.tm 13=.one (.i .i64 (x:Int))∧B.nt=63∧B.dfr=[]) (fun K m1 m2 m3=>?_) ?_
 ·have F0:=E0.out;by_cases h8:8≤w
  ·rw[zB0 h8] at F0;have h8i:(8:Int)≤(w:Int):=by omega
   by_cases h50:50≤w
   ·rw[zB0 h50] at F0;have h50i:(50:Int)≤(w:Int):=by omega
    have e1:=I5.out;have e2:=s_.out;have e3:=hi3.out;have ew:=hw.out;have p1:1≤i1∧i1+1<n:=by omega
    have p2:1≤i2∧i2+1<n:=by omega
    have p3:1≤i3∧i3+1<n:=by omega
    clear e1 e2 e3 ew E0;obtain ⟨x1,y1⟩:=@Je α _ (ltF cf) d i1 0 n p1.2;have k1:=xx hm H1 id gen n d i1 q 0 hs hq U9 hN1 p1.1 p1.2 hn (by omega);generalize Go.Sort.medianAdjacent (ltF cf) d i1 0=r1 at F0 x1 y1 k1;replace F0:Hd _:=F0;replace p1:Hd _:=p1;replace p2:Hd _:=p2;replace p3:Hd _:=p3;replace k1:Hd (Con E2 _ _ _ _ _):=k1;refine zW tyF ?_;refine zG (qA tyF CZ) fun K5 x8=>?_;refine WE.con k1.out fun w' H2 g2 ⟨S1,W1⟩=>?_;subst S1;clear k1;have I4:=hs.fr g2 (fun h=>U9 h.symm);have U_:=I4.lt;have hql2:=W1.2;have hN2:=zA2 hN1 g2.nx;obtain ⟨x2,y2⟩:=@Je α _ (ltF cf) d i2 r1.2 n p2.out.2;have k2:=xx hm H2 id gen n d i2 q r1.2 I4 W1 U9 hN2 p2.out.1 p2.out.2 hn (by omega);have F0:=F0.out;generalize Go.Sort.medianAdjacent (ltF cf) d i2 r1.2=r2 at F0 x2 y2 k2;replace F0:Hd _:=F0;replace k2:Hd (Con E2 _ _ _ _ _):=k2;refine zK tyF ?_;refine zG (qA tyF CZ) fun K5 x8=>?_;refine WE.con k2.out fun w' H3 g3 ⟨S1,S4⟩=>?_;subst S1;clear k2;have hs3:=I4.fr g3 (fun h=>U9 h.symm);have j_:=hs3.lt;have hql3:=S4.2;have hN3:=zA2 hN2 g3.nx;obtain ⟨x3,y3⟩:=@Je α _ (ltF cf) d i3 r2.2 n p3.out.2;have k3:=xx hm H3 id gen n d i3 q r2.2 hs3 S4 U9 hN3 p3.out.1 p3.out.2 hn (by omega);have F0:=F0.out;generalize Go.Sort.medianAdjacent (ltF cf) d i3 r2.2=r3 at F0 x3 y3 k3;replace F0:Hd _:=F0;replace k3:Hd (Con E2 _ _ _ _ _):=k3;refine zK tyF ?_;refine zG (qA tyF CZ) fun K5 x8=>?_;refine WE.con k3.out fun w' H4 g4 ⟨S1,X6⟩=>?_;subst S1;clear k3;have W3:=hs3.fr g4 (fun h=>U9 h.symm);have O2:=W3.lt;have hql4:=X6.2;have hN4:=zA2 hN3 g4.nx;obtain ⟨x4,y4⟩:=@Jh α _ (ltF cf) d r1.1 r2.1 r3.1 r3.2 n x1 x2 x3;have k4:=wy hm H4 id gen n d r1.1 r2.1 r3.1 q r3.2 W3 X6 U9 hN4 x1 x2 x3 hn (by omega);have F0:=F0.out;generalize Go.Sort.median (ltF cf) d r1.1 r2.1 r3.1 r3.2=r4 at F0 x4 y4 k4;replace F0:Hd _:=F0
    replace k4:Hd (Con E2 _ _ _ _ _):=k4;refine zK tyF ?_;refine zG (qA tyF BG) fun K5 x8=>?_;refine WE.con k4.out fun w' H5 g5 ⟨S1,E5⟩=>?_;subst S1;clear k4;refine zK tyF ?_;refine m1.out _ _ ?_;exact ⟨r4.1,r4.2,g1.then ((((g2.then g3 fun _ h=>.inr h).then g4 fun _ h=>.inr h).then g5 fun _ h=>.inr h)) (fun j h=>by subst h;exact .inl hqH),E5,by omega,F0,zL⟩
   rw[zB1 h50] at F0;have h50i:¬(50:Int)≤(w:Int):=by omega
   obtain ⟨x4,y4⟩:=@Jh α _ (ltF cf) d i1 i2 i3 0 n c1 c2 c3;have k4:=wy hm H1 id gen n d i1 i2 i3 q 0 hs hq U9 hN1 c1 c2 c3 hn (by omega);generalize Go.Sort.median (ltF cf) d i1 i2 i3 0=r4 at F0 x4 y4 k4;clear E0;replace F0:Hd _:=F0;replace k4:Hd (Con E2 _ _ _ _ _):=k4;refine zW tyF ?_;refine zG (qA tyF BG) fun K5 x8=>?_;refine WE.con k4.out fun w' H5 g5 ⟨S1,E5⟩=>?_;subst S1;clear k4;refine zK tyF ?_;refine m1.out _ _ ?_;exact ⟨r4.1,r4.2,g1.then g5 (fun j h=>by subst h;exact .inl hqH),E5,by omega,F0,zL⟩
  rw[zB1 h8] at F0;have h8i:¬(8:Int)≤(w:Int):=by omega
  clear E0;replace F0:Hd _:=F0;refine zW tyF ?_;refine m1.out _ _ ?_;exact ⟨i2,0,g1,hq,by omega,F0,zL⟩
 clear t0 t3 t10 t11 t12 t13 t14 t34 B0 C0 A E0 hs hq hid T' g1 H1 hN1;rintro A H3 ⟨x,k,g3,hq,hk,hr,t11,t13,B0,C0⟩;obtain ⟨q1,q2⟩:=hq;have F0:=hr.out;clear hr;by_cases k0:k=0
 ·rw[zB0 k0] at F0;have kb:((k:Int)==0)=true:=by rw[k0];rfl
  replace F0:Hd _:=F0;replace k0:Hd _:=k0;refine zW tyF ?_;refine R1.dZ fun K2 u1 u2 u3 u4=>?_;refine zW tyF ?_;refine u4.out _ _ ?_;exact fin _ _ x 1 .increasing qp qp rfl qe g3 F0.out
 rw[zB1 k0] at F0;have kb:((k:Int)==0)=false:=zB5 (by omega);replace k0:Hd _:=k0;by_cases k12:k=12
 ·rw[zB0 k12] at F0;have kc:((k:Int)==12)=true:=by rw[k12];rfl
  replace F0:Hd _:=F0;replace k12:Hd _:=k12;refine zW tyF ?_;refine R1.dZ fun K2 u1 u2 u3 u4=>?_;refine zW tyF ?_;refine u4.out _ _ ?_;exact fin _ _ x 2 .decreasing qp qp rfl qe g3 F0.out
 rw[zB1 k12] at F0;have kc:((k:Int)==12)=false:=zB5 (by omega);replace F0:Hd _:=F0;replace k12:Hd _:=k12;refine zW tyF ?_;refine R1.dZ fun K2 u1 u2 u3 u4=>?_;refine zW tyF ?_;refine u4.out _ _ ?_;exact fin _ _ x 0 .unknown qp qp rfl qe g3 F0.out
end
theorem XA:ak Tryz.prog 150=true:=by kernel_rfl
theorem JA:ak Tryz.prog 87=true:=by kernel_rfl
theorem TB:ak Tryz.prog 155=true:=by kernel_rfl
theorem Wf:ak Tryz.prog 180=true:=by kernel_rfl
theorem Vt:ak Tryz.prog 181=true:=by kernel_rfl
theorem XK:ak Tryz.prog 148=true:=by kernel_rfl
theorem tyU:type_of% (qA tyF (qA Qn (qA Qv (qA Rp (qA QB (qA QC (qA PY (qA Qt (qA PE (qA LH (qA MI (qA LW (qA Ls (qA WH (qA WX (qA arQ YJ)))))))))))))))):=qA tyF (qA Qn (qA Qv (qA Rp (qA QB (qA QC (qA PY (qA Qt (qA PE (qA LH (qA MI (qA LW (qA Ls (qA WH (qA WX (qA arQ YJ)))))))))))))))
theorem cvQ {s t:TypeId} {ks kt:IntKind} (hs:Tryz.prog.underlying s=some (.int ks)) (ht:Tryz.prog.underlying t=some (.int kt)):(∀ (tm:PT AV) (H:Hp) (d:Option Tmp) (ty:TypeId) (pos:String) (af:Array Edge) (g:Option (Nat×Bool)) (x:Operand),aq Tryz.prog tm H ⟨d,.convert s t x,ty,pos,af,g⟩=UB (fun _ a=>.i kt (kt.wrap a)) H (bH Tryz.prog tm H ⟨d,.convert s t x,ty,pos,af,g⟩) (ev tm x)) ∧
  (∀ (H:Hp) (alt:ae) (k:IntKind) (a:Int),UB (fun _ a=>.i kt (kt.wrap a)) H alt (.one (.i k a))=.val (.one (.i kt (kt.wrap a))) H):=⟨fun _ _ _ _ _ _ _ _=>IW hs ht,fun _ _ _ _=>rfl⟩
theorem ixS:(∀ {st:Bool} {E:Env} {A:ab} {d:Option Tmp} {H:Hp} {next:ab→Hp→Prop} {ty:TypeId} {pos:String} {af:Array Edge} {gd:Option (Nat×Bool)} {t:TypeId} {x i:Operand},SK st E ⟨d,.index t x i,ty,pos,af,gd⟩ A H next=vN next A d (iI H (nq E.P t) (ev A.tm x) (ev A.tm i) (aq E.P A.tm H ⟨d,.index t x i,ty,pos,af,gd⟩)))∧nq Tryz.prog 9=true ∧
  (∀ {st:Bool} {E:Env} {A:ab} {d:Option Tmp} {H:Hp} {next:ab→Hp→Prop} {ty:TypeId} {pos:String} {af:Array Edge} {gd:Option (Nat×Bool)} {a b:TypeId} {x:Operand},SK st E ⟨d,.convert a b x,ty,pos,af,gd⟩ A H next=vN next A d (aq E.P A.tm H ⟨d,.convert a b x,ty,pos,af,gd⟩)):=⟨mF,vv,Ja⟩
section
variable {α:Type} [Inhabited α] {c:α→List AC} {cf:α→α→Int} {cl N:Nat}
theorem VG (hm:Cmp c cf cl N) (H:Hp) (id gen n:Nat) (d:Array α) (a b:Nat) (hs:Srt c H id gen n d) (hN:N≤H.nx) (Y5:a<b) (hb:b≤n) (hn:n≤1099511627776):
  Con E2 150 [.one (.o (.sl id gen 0 n 2)),.one (.i .i64 a),.one (.i .i64 b),.one (.o (.clo cl []))] H (fun k=>k=id) fun r H'=>r=.tup []∧Srt c H' id gen n (Go.Sort.reverseRange d a b):=by
 refine Con.of rfl fun lg=>?_;have hs:Srt c ⟨H.t,H.nx,lg⟩ id gen n d:=hs;have hN:N≤(⟨H.t,H.nx,lg⟩:Hp).nx:=hN;generalize (⟨H.t,H.nx,lg⟩:Hp)=H at hs hN ⊢;refine C1.body (E:=E2) (nt:=34) (res:=[]) Tryz.func150 rfl rfl rfl rfl rfl fun tm A0=>?_;have h0:=A0 0 _ rfl;have h1:=A0 1 _ rfl;have h2:=A0 2 _ rfl;have h3:=A0 3 _ rfl;clear A0;unfold Go.Sort.reverseRange;generalize E0:Go.Sort.reverseLoop a (b - 1) d=R;have fin:∀ (e:aA) (A:ab) (H3:Hp) (dc:Array α),(e=.normal∨e=.ret)→A.dfr=[]→Fr (fun k=>k=id) H H3→Srt c H3 id gen n dc→dc=R→∃ w H4,an E2 [] (e,A,H3)=.ok [(w,H4)]∧Fr (fun k=>k=id) H H4∧∀ lg':List Nat,w=.tup []∧Srt c ⟨H4.t,H4.nx,lg'⟩ id gen n R:=fun e A H3 dc he h1 h2 h3 h4=>⟨_,H3,cN he h1,h2,fun _=>⟨rfl,by rw[←h4];exact h3⟩⟩;have hid:=hs.lt;have R3:IntKind.i64.wrap ((b:Int) - 1)=((b - 1:Nat):Int):=by rw[ao (by omega) (by omega)];omega
 replace E0:Hd _:=E0;refine zW tyF ?_;refine R1.dZ fun K k1 k2 k3 k4=>?_;refine R1.loop (fun z A H3=>∃ (i j:Nat) (dc:Array α),z=j - i∧i≤n∧j<n∧Fr (fun k=>k=id) H H3∧Srt c H3 id gen n dc∧Hd (Go.Sort.reverseLoop i j dc=R)∧slot A.tm 0=.one ((.o (.sl id gen 0 n 2)))∧slot A.tm 8=.one (.i .i64 (i:Int))∧slot A.tm 9=.one (.i .i64 (j:Int))∧A.nt=34∧A.dfr=[]) ?_ (b - 1 - a)
  ⟨a,b - 1,d,rfl,by omega,by omega,Fr.refl _,hs,E0,zL⟩
 clear h0 h1 h2 h3 tm hs E0 hid R3 k3;rintro z A H3 ⟨i,j,dc,rfl,hi,hj,f3,hs,hr,t0,t8,t9,B0,C0⟩;have hid:=hs.lt;have R0:=hs.sz;obtain ⟨lo,P2,hg⟩:=hs.row;have F0:=hr.out;rw[Go.Sort.reverseLoop] at F0;clear hr;by_cases L4:i<j
 ·rw[zB0 L4] at F0;have L5:(i:Int)<(j:Int):=by omega
  have s_:i<n:=by omega
  have hwi:=zC0 i (by omega);have hwj:IntKind.i64.wrap ((j:Int) - 1)=((j - 1:Nat):Int):=by rw[ao (by omega) (by omega)];omega
  have lv:=hm.ltH (zA2 hN f3.nx);have W0:=hm.len;have d1:i<dc.size:=by omega
  have d2:j<dc.size:=by omega
  replace F0:Hd _:=F0;replace R0:Hd _:=R0;replace d1:Hd _:=d1;replace d2:Hd _:=d2;refine zW tyF ?_;refine R1.dZ fun K2 q1 q2 q3 q4=>?_;refine zW (qA tyF (qA (ixC s_) (qA (ixC hj) (swQ hm.len d1.out d2.out)))) ?_;refine q1.out _ _ ?_;exact ⟨j - 1 - (i+1),by omega,i+1,j - 1,Go.Sort.swp dc i j,rfl,by omega,by omega,(f3.mod _ (.inr rfl)).mod _ (.inr rfl),⟨by rw[swp_size];exact R0.out,⟨gen,zA1 _,al rfl⟩,hid⟩,F0,zL⟩
 rw[zB1 L4] at F0;have L5:¬(i:Int)<(j:Int):=by omega
 replace F0:Hd _:=F0;replace R0:Hd _:=R0;refine zW tyF ?_;refine k2.out _ _ ?_;exact fin _ _ _ _ (.inl rfl) qe f3 hs F0.out
end
def Yn:List UInt8:=(List.range 256).map fun m=>UInt8.ofNat (Go.Sort.bitsLen m)
theorem JW {next:ab→Hp→Prop} {A:ab} {d:Option Tmp} {H:Hp} {s:List UInt8} {k:IntKind} {m:Nat} {alt:ae} (hs:s=Yn) (hm:m<256) (hn:vN next A d (.val (.one (.i .u8 (Go.Sort.bitsLen m:Int))) H)):vN next A d (iI H true (.one (.o (.str s))) (.one (.i k (m:Int))) alt):=by
 have h:s[m]?=some (UInt8.ofNat (Go.Sort.bitsLen m)):=by
  rw[hs];unfold Yn;rw[List.getElem?_map,List.getElem?_range hm];rfl
 rw[Ui h];have e:((UInt8.ofNat (Go.Sort.bitsLen m)).toNat:Int)=(Go.Sort.bitsLen m:Int):=by
  have:Go.Sort.bitsLen m≤8:=(Go.Sort.bitsLen_le_iff m 8).2 (by omega);rw[UInt8.toNat_ofNat'];omega
 rw[e];exact hn
theorem jB {x:Nat} (h:256≤x):Go.Sort.bitsLen x=8+Go.Sort.bitsLen (x / 256):=by
 have a:∀ k,Go.Sort.bitsLen x≤8+k↔Go.Sort.bitsLen (x / 256)≤k:=fun k=>by
  rw[Go.Sort.bitsLen_le_iff,Go.Sort.bitsLen_le_iff,Nat.pow_add,Nat.div_lt_iff_lt_mul (by decide),Nat.mul_comm]
 have b:=(a (Go.Sort.bitsLen (x / 256))).2 (zA1 _);have c:8≤Go.Sort.bitsLen x:=by
  by_cases h8:Go.Sort.bitsLen x≤7
  ·have:=(Go.Sort.bitsLen_le_iff x 7).1 h8;omega
  omega
 have d:=(a (Go.Sort.bitsLen x - 8)).1 (by omega);omega
theorem ld {x:Nat} (h:x≤65536):Go.Sort.bitsLen x≤17:=(Go.Sort.bitsLen_le_iff x 17).2 (by omega)
theorem OB (H:Hp) (x:Nat) (hx:x≤65536):Con E2 155 [.one (.i .u64 x)] H (fun _=>False) fun r _=>r=.one (.i .i64 (Go.Sort.bitsLen x:Int)):=by
 refine Con.of rfl fun lg=>?_;generalize (⟨H.t,H.nx,lg⟩:Hp)=H;refine C1.body (E:=E2) (nt:=25) (res:=[.tmp 2]) Tryz.func155 rfl rfl rfl rfl rfl fun tm A0=>?_;have h0:=A0 0 _ rfl;clear A0;have c1:¬(4294967296:Int)≤(x:Int):=by omega
 have hb:=ld hx;by_cases c16:65536≤x
 ·have c2:(65536:Int)≤(x:Int):=by omega
  have e0:shF .shr .u64 (x:Int) 16=((x / 65536:Nat):Int):=RY (k:=16) (by decide);have hy:x / 65536=1:=by omega
  have hbx:Go.Sort.bitsLen x=16+Go.Sort.bitsLen (x / 65536):=by
   have h1:=jB (x:=x) (by omega);have h2:=jB (x:=x / 256) (by omega);rw[Nat.div_div_eq_div_mul,show 256*256=65536 from rfl] at h2;omega
  generalize x / 65536=y at e0 hy hbx;have e2:IntKind.i64.wrap (0+16)=16:=by decide
  have c3i:¬(256:Int)≤(y:Int):=by omega
  have e3:IntKind.u8.wrap (y:Int)=(y:Int):=by rw[IntKind.wrap_u8];omega
  have e4:IntKind.i64.wrap (Go.Sort.bitsLen y:Int)=(Go.Sort.bitsLen y:Int):=ao (by omega) (by omega);have e5:IntKind.i64.wrap (16+(Go.Sort.bitsLen y:Int))=(Go.Sort.bitsLen x:Int):=by
   rw[ao (by omega) (by omega)];omega
  have hy2:y<256:=by omega
  clear hy hbx;refine zW (qA tyU (shI (op:=.shr) (show (0:Int)≤16 by decide))) ?_;refine zG (qA tyU (qA ixS (qA (cvQ sB lO) (cvQ lO jm)))) fun K hK=>?_;refine JW (by kernel_rfl) hy2 ?_;refine zK (qA tyU (qA ixS (qA (cvQ sB lO) (cvQ lO jm)))) ?_;exact ⟨_,_,ah (.i .i64 (Go.Sort.bitsLen x:Int)) (.inr rfl) qe qp,Fr.refl _,fun _=>rfl⟩
 have c2:¬(65536:Int)≤(x:Int):=by omega
 by_cases c3:256≤x
 ·have c3i:(256:Int)≤(x:Int):=by omega
  have e1:shF .shr .u64 (x:Int) 8=((x / 256:Nat):Int):=RY (k:=8) (by decide);have e2:IntKind.i64.wrap (0+8)=8:=by decide
  have e3:IntKind.u8.wrap ((x / 256:Nat):Int)=((x / 256:Nat):Int):=by rw[IntKind.wrap_u8];omega
  have e4:IntKind.i64.wrap (Go.Sort.bitsLen (x / 256):Int)=(Go.Sort.bitsLen (x / 256):Int):=ao (by omega) (by have:=jB c3;omega);have e5:IntKind.i64.wrap (8+(Go.Sort.bitsLen (x / 256):Int))=(Go.Sort.bitsLen x:Int):=by
   have:=jB c3;rw[ao (by omega) (by omega)];omega
  refine zW (qA tyU (shI (op:=.shr) (show (0:Int)≤8 by decide))) ?_;refine zG (qA tyU (qA ixS (qA (cvQ sB lO) (cvQ lO jm)))) fun K hK=>?_;refine JW (by kernel_rfl) (by omega) ?_;refine zK (qA tyU (qA ixS (qA (cvQ sB lO) (cvQ lO jm)))) ?_;exact ⟨_,_,ah (.i .i64 (Go.Sort.bitsLen x:Int)) (.inr rfl) qe qp,Fr.refl _,fun _=>rfl⟩
 have c3i:¬(256:Int)≤(x:Int):=by omega
 have e3:IntKind.u8.wrap (x:Int)=(x:Int):=by rw[IntKind.wrap_u8];omega
 have e4:IntKind.i64.wrap (Go.Sort.bitsLen x:Int)=(Go.Sort.bitsLen x:Int):=ao (by omega) (by omega);have e5:IntKind.i64.wrap (0+(Go.Sort.bitsLen x:Int))=(Go.Sort.bitsLen x:Int):=by
  rw[ao (by omega) (by omega)];omega
 refine zW (qA tyU (shI (op:=.shr) (show (0:Int)≤8 by decide))) ?_;refine zG (qA tyU (qA ixS (qA (cvQ sB lO) (cvQ lO jm)))) fun K hK=>?_;refine JW (by kernel_rfl) (by omega) ?_;refine zK (qA tyU (qA ixS (qA (cvQ sB lO) (cvQ lO jm)))) ?_;exact ⟨_,_,ah (.i .i64 (Go.Sort.bitsLen x:Int)) (.inr rfl) qe qp,Fr.refl _,fun _=>rfl⟩
theorem BW (H:Hp) (x:Nat) (hx:x≤65536):Con E2 87 [.one (.i .u64 x)] H (fun _=>False) fun r _=>r=.one (.i .i64 (Go.Sort.bitsLen x:Int)):=by
 refine Con.of rfl fun lg=>?_;generalize (⟨H.t,H.nx,lg⟩:Hp)=H;refine C1.body (E:=E2) (nt:=8) (res:=[.tmp 2]) Tryz.func87 rfl rfl rfl rfl rfl fun tm A0=>?_;have h0:=A0 0 _ rfl;clear A0;refine zW tyF ?_;refine zG (qA tyF TB) fun K hK=>?_;refine WE.con (OB H x hx) fun w' H1 g1 hw=>?_;subst hw;refine zK tyF ?_;exact ⟨_,_,ah (.i .i64 (Go.Sort.bitsLen x:Int)) (.inr rfl) qe qp,g1,fun _=>rfl⟩
theorem TC (H:Hp) (x:Nat) (hx:x≤65536):Con E2 180 [.one (.i .i64 x)] H (fun _=>False) fun r _=>r=.one (.i .u64 ((1 <<< Go.Sort.bitsLen x:Nat):Int)):=by
 refine Con.of rfl fun lg=>?_;generalize (⟨H.t,H.nx,lg⟩:Hp)=H;refine C1.body (E:=E2) (nt:=7) (res:=[.tmp 2]) Tryz.func180 rfl rfl rfl rfl rfl fun tm A0=>?_;have h0:=A0 0 _ rfl;clear A0;have e1:IntKind.u64.wrap (x:Int)=(x:Int):=uB (by omega);have hb:=ld hx;have e2:shF .shl .u64 1 (Go.Sort.bitsLen x:Int)=((1 <<< Go.Sort.bitsLen x:Nat):Int):=by
  have:=Rm (x:=1) (k:=Go.Sort.bitsLen x) (by omega);rw[show ((1:Nat):Int)=1 from rfl] at this;rw[this,Nat.one_shiftLeft,Nat.one_mul,Nat.mod_eq_of_lt (Nat.lt_of_le_of_lt (Nat.pow_le_pow_right (by decide) hb) (by decide))]
 have e3:(0:Int)≤(Go.Sort.bitsLen x:Int):=by omega
 refine zW tyF ?_;refine zG (qA tyU (qA ixS (qA (cvQ jm BP) JA))) fun K hK=>?_;refine WE.con (BW H x hx) fun w' H1 g1 hw=>?_;subst hw;refine zK (qA tyU (shI (op:=.shl) e3)) ?_;exact ⟨_,_,ah (.i .u64 ((1 <<< Go.Sort.bitsLen x:Nat):Int)) (.inr rfl) qe qp,g1,fun _=>rfl⟩
theorem Su (H:Hp) (q x:Nat) (hx:x<18446744073709551616) (hg:H.get q=some (.arr [.i .u64 (x:Int)] 250 0 0)) (hq:q<H.nx):
  Con E2 181 [.one (.o (.ptr q 0 0 1))] H (fun k=>k=q) fun r H'=>r=.one (.i .u64 (Go.Sort.xorNextN x:Int))∧H'.get q=some (.arr [.i .u64 (Go.Sort.xorNextN x:Int)] 250 0 0):=by
 refine Con.of rfl fun lg=>?_;have hg:(⟨H.t,H.nx,lg⟩:Hp).get q=some (.arr [.i .u64 (x:Int)] 250 0 0):=hg;have hq:q<(⟨H.t,H.nx,lg⟩:Hp).nx:=hq;generalize (⟨H.t,H.nx,lg⟩:Hp)=H at hg hq ⊢;refine C1.body (E:=E2) (nt:=33) (res:=[.tmp 2]) Tryz.func181 rfl rfl rfl rfl rfl fun tm A0=>?_;have h0:=A0 0 _ rfl;clear A0;have p64:(18446744073709551616:Nat)=2 ^ 64:=by decide
 obtain ⟨y,hy⟩:∃ y,y=x ^^^ (x*8192 % 18446744073709551616):=⟨_,rfl⟩;obtain ⟨z,hz⟩:∃ z,z=y ^^^ (y / 128):=⟨_,rfl⟩;obtain ⟨u,hu⟩:∃ u,u=z ^^^ (z*131072 % 18446744073709551616):=⟨_,rfl⟩;have ly:y<18446744073709551616:=by rw[hy,p64];exact Nat.xor_lt_two_pow (by omega) (by omega)
 have lz:z<18446744073709551616:=by rw[hz,p64];exact Nat.xor_lt_two_pow (by omega) (by omega)
 have lu:u<18446744073709551616:=by rw[hu,p64];exact Nat.xor_lt_two_pow (by omega) (by omega)
 have hR:Go.Sort.xorNextN x=u:=by
  unfold Go.Sort.xorNextN;rw[hu,hz,hy]
 rw[hR];have a1:shF .shl .u64 (x:Int) 13=((x*8192 % 18446744073709551616:Nat):Int):=Rm (k:=13) (by decide);have a2:oY .xor .u64 (x:Int) ((x*8192 % 18446744073709551616:Nat):Int)=(y:Int):=by rw[RK hx (by omega),hy]
 have a3:shF .shr .u64 (y:Int) 7=((y / 128:Nat):Int):=RY (k:=7) (by decide);have a4:oY .xor .u64 (y:Int) ((y / 128:Nat):Int)=(z:Int):=by rw[RK ly (by omega),hz]
 have a5:shF .shl .u64 (z:Int) 17=((z*131072 % 18446744073709551616:Nat):Int):=Rm (k:=17) (by decide);have a6:oY .xor .u64 (z:Int) ((z*131072 % 18446744073709551616:Nat):Int)=(u:Int):=by rw[RK lz (by omega),hu]
 clear hR hu hz hy p64;refine zW (qA tyU (qA (shI (op:=.shl) (show (0:Int)≤13 by decide)) (qA (shI (op:=.shr) (show (0:Int)≤7 by decide)) (shI (op:=.shl) (show (0:Int)≤17 by decide))))) ?_;exact ⟨_,_,ah (.i .u64 (u:Int)) (.inr rfl) qe qp,(((Fr.refl (X:=fun k=>k=q) H).mod _ (.inr rfl)).mod _ (.inr rfl)).mod _ (.inr rfl),fun _=>⟨rfl,al rfl⟩⟩
section
variable {α:Type} [Inhabited α] {c:α→List AC} {cf:α→α→Int} {cl N:Nat}
def TH (a L M:Nat):Nat→Nat→UInt64×Array α→Array α
 | 0,_,st=>st.2
 | k+1,i,st=>TH a L M k (i+1) (Go.Sort.breakStep a L M st i)
theorem Xg (d:Array α) (a b:Nat) (h:8≤b - a):Go.Sort.breakPatterns d a b=TH a (b - a) (1 <<< Go.Sort.bitsLen (b - a)) 3 (a+(b - a) / 4*2 - 1) (UInt64.ofNat (b - a),d):=by
 unfold Go.Sort.breakPatterns;rw[zB0 h];rfl
theorem Uv (hm:Cmp c cf cl N) (H:Hp) (id gen n:Nat) (d:Array α) (a b:Nat) (hs:Srt c H id gen n d) (hN:N≤H.nx) (Y5:a<b) (hb:b≤n) (hn:n≤65536):
  Con E2 148 [.one (.o (.sl id gen 0 n 2)),.one (.i .i64 a),.one (.i .i64 b),.one (.o (.clo cl []))] H (fun k=>k=id) fun r H'=>r=.tup []∧Srt c H' id gen n (Go.Sort.breakPatterns d a b):=by
 refine Con.of rfl fun lg=>?_;have hs:Srt c ⟨H.t,H.nx,lg⟩ id gen n d:=hs;have hN:N≤(⟨H.t,H.nx,lg⟩:Hp).nx:=hN;generalize (⟨H.t,H.nx,lg⟩:Hp)=H at hs hN ⊢;refine C1.body (E:=E2) (nt:=67) (res:=[]) Tryz.func148 rfl rfl rfl rfl rfl fun tm A0=>?_;have h0:=A0 0 _ rfl;have h1:=A0 1 _ rfl;have h2:=A0 2 _ rfl;have h3:=A0 3 _ rfl;clear A0;generalize E0:Go.Sort.breakPatterns d a b=R;have fin:∀ (e:aA) (A:ab) (H3:Hp) (dc:Array α),(e=.normal∨e=.ret)→A.dfr=[]→Fr (fun k=>k=id) H H3→Srt c H3 id gen n dc→dc=R→∃ w H4,an E2 [] (e,A,H3)=.ok [(w,H4)]∧Fr (fun k=>k=id) H H4∧∀ lg':List Nat,w=.tup []∧Srt c ⟨H4.t,H4.nx,lg'⟩ id gen n R:=fun e A H3 dc he h1 h2 h3 h4=>⟨_,H3,cN he h1,h2,fun _=>⟨rfl,by rw[←h4];exact h3⟩⟩;have hid:=hs.lt;obtain ⟨L,hL⟩:∃ L,L=b - a:=⟨_,rfl⟩;have hw0:IntKind.i64.wrap ((b:Int) - (a:Int))=(L:Int):=by rw[ao (by omega) (by omega)];omega
 by_cases h8:8≤L
 case neg=>
  have h8i:¬(8:Int)≤(L:Int):=by omega
  have F0:d=R:=by
   rw[←E0];unfold Go.Sort.breakPatterns;rw[zB1 (by omega)]
  clear E0;replace F0:Hd _:=F0;replace hL:Hd _:=hL;refine zW tyF ?_;exact fin _ _ _ _ (.inl rfl) qe (Fr.refl _) hs F0.out
 have h8i:(8:Int)≤(L:Int):=by omega
 rw[Xg d a b (by omega),←hL] at E0;obtain ⟨M,hM⟩:∃ M:Nat,M=1 <<< Go.Sort.bitsLen L:=⟨_,rfl⟩;have hM1:1≤M:=by rw[hM,Nat.one_shiftLeft];exact Nat.two_pow_pos _
 have hM2:M≤2*L:=by rw[hM,Nat.one_shiftLeft];exact Go.Sort.two_pow_bitsLen_le (by omega)
 rw[←hM] at E0;have hLu:IntKind.u64.wrap (L:Int)=(L:Int):=uB (by omega);have hqq:IntKind.i64.wrap ((L:Int).tdiv 4)=((L / 4:Nat):Int):=by rw[Int.tdiv_eq_ediv_of_nonneg (by omega),ao (by omega) (by omega)];omega
 have W1:IntKind.i64.wrap (((L / 4:Nat):Int)*2)=((L / 4*2:Nat):Int):=by rw[ao (by omega) (by omega)];omega
 have S4:IntKind.i64.wrap ((a:Int)+((L / 4*2:Nat):Int))=((a+L / 4*2:Nat):Int):=by rw[ao (by omega) (by omega)];omega
 have X6:IntKind.i64.wrap (((a+L / 4*2:Nat):Int) - 1)=((a+L / 4*2 - 1:Nat):Int):=by rw[ao (by omega) (by omega)];omega
 have E5:IntKind.i64.wrap (((a+L / 4*2:Nat):Int)+1)=((a+L / 4*2+1:Nat):Int):=by rw[ao (by omega) (by omega)];omega
 replace E0:Hd _:=E0;replace hL:Hd _:=hL;replace hM:Hd _:=hM;refine zW (qA tyU (qA ixS (cvQ jm UZ))) ?_;have gA:Gr H ((H.new (.arr [.i .u64 0] 250 0 0)).mod H.nx (.arr [.i .u64 (L:Int)] 250 0 0)):=((Fr.refl _).new _).mod _ (.inl (zA1 _));have hsA:=hs.fr gA zB2;have hqA:((H.new (.arr [.i .u64 0] 250 0 0)).mod H.nx (.arr [.i .u64 (L:Int)] 250 0 0)).get H.nx=some (.arr [.i .u64 (L:Int)] 250 0 0):=al rfl;have U9:H.nx≠id:=by omega
 have hqH:H.nx≤H.nx:=zA1 _;generalize V9:H.nx=q at hqA U9 ⊢;have hqlt:q<((H.new (.arr [.i .u64 0] 250 0 0)).mod q (.arr [.i .u64 (L:Int)] 250 0 0)).nx:=by
  show q<H.nx+1;omega
 refine R1.gen (fun A1 H1=>Gr H H1∧Srt c H1 id gen n d∧H1.get q=some (.arr [.i .u64 (L:Int)] 250 0 0)∧q<H1.nx∧slot A1.tm 0=.one ((.o (.sl id gen 0 n 2)))∧slot A1.tm 1=.one (.i .i64 (a:Int))∧slot A1.tm 3=.one ((.o (.clo cl [])))∧slot A1.tm 8=.one (.i .i64 (L:Int))∧slot A1.tm 9=.one ((.o (.ptr q 0 0 1)))∧A1.nt=67∧A1.dfr=[])
  ⟨by rw[←V9];exact gA,by rw[←V9];exact hsA,hqA,hqlt,zL⟩ ?_
 replace hqH:H.nx≤q:=by omega
 clear h0 h1 h2 h3 tm hs hid hw0 hLu gA hsA hqA hqlt V9;rintro A H1 ⟨g1,hs,hg,T',t0,t1,t3,t8,t9,B0,C0⟩;have hid:=hs.lt;refine zG (qA tyF Wf) fun K hK=>?_;have l7:=hL.out;refine WE.con (TC H1 L (by omega)) fun w' H2 g2 hw=>?_;rw[←hM.out] at hw;subst hw;have I4:=hs.fr g2 zB2;have U_:=I4.lt;have hg:=(g2.get _ T' zB2).trans hg;have T':=zA0 T' g2.nx;have f2:Fr (fun k=>k=id) H H2:=(Fr.refl _).then (g1.gr g2) fun _ h=>h.elim;clear g1 g2 hs hid;replace l7:Hd _:=l7;replace f2:Hd _:=f2;have h4:(4:Int)≠0:=by decide
 refine zK (qA tyU (JF h4)) ?_;clear X6 W1 S4;refine R1.dZ fun K2 k1 k2 k3 k4=>?_;refine R1.loop (fun z A H3=>∃ (t:Nat) (x:UInt64) (dc:Array α),z=3 - t∧t≤3∧Fr (fun k=>k=id) H H3∧Srt c H3 id gen n dc∧H3.get q=some (.arr [.i .u64 (x.toNat:Int)] 250 0 0)∧q<H3.nx∧Hd (TH a L M (3 - t) (a+L / 4*2 - 1+t) (x,dc)=R) ∧
   slot A.tm 0=.one ((.o (.sl id gen 0 n 2)))∧slot A.tm 1=.one (.i .i64 (a:Int))∧slot A.tm 3=.one ((.o (.clo cl [])))∧slot A.tm 8=.one (.i .i64 (L:Int))∧slot A.tm 9=.one ((.o (.ptr q 0 0 1)))∧slot A.tm 10=.one ((.i .u64 (M:Int)))∧slot A.tm 11=.one (.i .i64 ((a+L / 4*2 - 1+t:Nat):Int))∧A.nt=67∧A.dfr=[]) ?_ 3
  ⟨0,UInt64.ofNat L,d,rfl,by decide,f2.out,I4,by rw[hg,UInt64.toNat_ofNat'];rw[Nat.mod_eq_of_lt (by have:=l7.out;omega)],T',E0,zL⟩
 clear t0 t1 t3 t8 t9 B0 C0 A I4 U_ hg T' f2 E0 k3 hK K;rintro z A H3 ⟨t,x,dc,rfl,ht,f3,hs,hg,T',hr,t0,t1,t3,t8,t9,t10,t11,B0,C0⟩;have hid:=hs.lt;have l7:=hL.out;have W1:IntKind.i64.wrap (((L / 4:Nat):Int)*2)=((L / 4*2:Nat):Int):=by rw[ao (by omega) (by omega)];omega
 have S4:IntKind.i64.wrap ((a:Int)+((L / 4*2:Nat):Int))=((a+L / 4*2:Nat):Int):=by rw[ao (by omega) (by omega)];omega
 by_cases ht3:t<3
 case neg=>
  have p9:¬((a+L / 4*2 - 1+t:Nat):Int)≤((a+L / 4*2+1:Nat):Int):=by omega
  have ht4:3 - t=0:=by omega
  have F0:=hr.out;rw[ht4,TH] at F0;replace F0:dc=R:=F0;clear hr ht4;replace F0:Hd _:=F0;replace l7:Hd _:=l7;refine zW (qA tyU (JF h4)) ?_;refine k2.out _ _ ?_;exact fin _ _ _ _ (.inl rfl) qe f3 hs F0.out
 have p9:((a+L / 4*2 - 1+t:Nat):Int)≤((a+L / 4*2+1:Nat):Int):=by omega
 have F0:=hr.out;rw[show 3 - t=(3 - (t+1))+1 from by omega,TH] at F0;unfold Go.Sort.breakStep at F0;dsimp only at F0
 clear hr;have hxn:Go.Sort.xorNextN x.toNat=(Go.Sort.xorNext x).toNat:=(Go.Sort.xorNext_toNat x).symm;have lx:=x.toNat_lt;have ly:=(Go.Sort.xorNext x).toNat_lt;generalize hy:Go.Sort.xorNext x=y at F0 hxn ly;obtain ⟨o,ho⟩:∃ o,o=y.toNat &&& (M - 1):=⟨_,rfl⟩;have U':o≤M - 1:=by rw[ho];exact Nat.and_le_right
 rw[←ho] at F0;have hMu:IntKind.u64.wrap ((M:Int) - 1)=((M - 1:Nat):Int):=by
  rw[show ((M:Int) - 1)=((M - 1:Nat):Int) from by omega];exact uB (by omega)
 have hand:oY .and .u64 (y.toNat:Int) ((M - 1:Nat):Int)=(o:Int):=by rw[Yv ly (by omega),ho]
 have hcv:IntKind.i64.wrap (o:Int)=(o:Int):=ao (by omega) (by omega);have r_:IntKind.i64.wrap ((o:Int) - (L:Int))=((o:Int) - (L:Int)):=ao (by omega) (by omega);have hwi:IntKind.i64.wrap (((a+L / 4*2 - 1+t:Nat):Int)+1)=((a+L / 4*2 - 1+(t+1):Nat):Int):=by rw[ao (by omega) (by omega)];omega
 clear ho hy;have C7:=Su H3 q x.toNat lx hg T';rw[hxn] at C7;clear hxn;have b1:a+L / 4*2 - 1+t<n:=by omega
 generalize E7:a+L / 4*2 - 1+t=ix at p9 hwi b1 F0 t11;replace F0:Hd _:=F0;replace l7:Hd _:=l7;replace E7:Hd _:=E7;replace C7:Hd (Con E2 _ _ _ _ _):=C7;refine zW (qA tyU (JF h4)) ?_;refine R1.cy fun K3 q1 q2 q3 q4=>?_;refine zG (qA tyF Vt) fun K5 x8=>?_;refine WE.con C7.out fun w' H4 g4 ⟨hw,hg4⟩=>?_;subst hw;clear C7;have W3:=hs.fr g4 (fun h=>U9 h.symm);have O2:=W3.lt;have hql4:=zA0 T' g4.nx;have f4:Fr (fun k=>k=id) H H4:=f3.then g4 fun j h=>by subst h;exact .inl hqH
 clear hs hg T' hid f3 g4;refine zS (qA tyU (qA ixS (cvQ BP jm))) ?_;refine x8.out _ _ ?_;clear x8 K5;obtain ⟨o2,B8⟩:∃ o2,o2=if o≥L then o - L else o:=⟨_,rfl⟩;have J0:=F0.out;rw[←B8] at J0;clear F0;have ho2L:o2<L:=by have:=l7.out;rw[B8];split <;> omega
 replace J0:Hd _:=J0;refine R1.gen (fun A5 H5=>H4=H5∧slot A5.tm 0=.one ((.o (.sl id gen 0 n 2)))∧slot A5.tm 1=.one (.i .i64 (a:Int))∧slot A5.tm 3=.one ((.o (.clo cl [])))∧slot A5.tm 8=.one (.i .i64 (L:Int))∧slot A5.tm 9=.one ((.o (.ptr q 0 0 1)))∧slot A5.tm 10=.one ((.i .u64 (M:Int)))∧slot A5.tm 11=.one (.i .i64 (ix:Int))∧slot A5.tm 12=.one (.i .i64 (o:Int))∧A5.nt=67∧A5.dfr=[]) ⟨rfl,zL⟩ ?_;clear t0 t1 t3 t8 t9 t10 t11 B0 C0 A;rintro A _ ⟨rfl,t0,t1,t3,t8,t9,t10,t11,t12,B0,C0⟩;have hwa:IntKind.i64.wrap ((a:Int)+(o2:Int))=((a+o2:Nat):Int):=by have:=l7.out;rw[ao (by omega) (by omega)];omega
 refine zW tyF ?_;refine R1.gX (fun B H5=>H4=H5∧slot B.tm 0=.one ((.o (.sl id gen 0 n 2)))∧slot B.tm 1=.one (.i .i64 (a:Int))∧slot B.tm 3=.one ((.o (.clo cl [])))∧slot B.tm 8=.one (.i .i64 (L:Int))∧slot B.tm 9=.one ((.o (.ptr q 0 0 1)))∧slot B.tm 10=.one ((.i .u64 (M:Int)))∧slot B.tm 11=.one (.i .i64 (ix:Int))∧slot B.tm 12=.one (.i .i64 (o2:Int))∧B.nt=67∧B.dfr=[]) (fun K4 m1 m2 m3=>?_) ?_
 ·by_cases hoL:L≤o
  ·have m8:(L:Int)≤(o:Int):=by omega
   clear r_;have r_:IntKind.i64.wrap ((o:Int) - (L:Int))=(o2:Int):=by
    have:=l7.out;rw[B8,zB0 hoL,ao (by omega) (by omega)];omega
   replace B8:Hd _:=B8;refine zW tyF ?_;refine m1.out _ _ ?_;exact ⟨rfl,zL⟩
  have m8:¬(L:Int)≤(o:Int):=by omega
  rw[zB1 hoL] at B8;subst B8;refine zW tyF ?_;refine m1.out _ _ ?_;exact ⟨rfl,zL⟩
 clear t0 t1 t3 t8 t9 t10 t11 t12 B0 C0 A r_ B8 hcv hand hMu p9;rintro A _ ⟨rfl,t0,t1,t3,t8,t9,t10,t11,t12,B0,C0⟩;have R0:=W3.sz;obtain ⟨lo,P2,hg⟩:=W3.row;have lv:=hm.ltH (zA2 hN f4.nx);have W0:=hm.len;have b2:a+o2<n:=by have:=l7.out;omega
 have d1:ix<dc.size:=by omega
 have d2:a+o2<dc.size:=by omega
 replace R0:Hd _:=R0;replace d1:Hd _:=d1;replace d2:Hd _:=d2;refine zW (qA tyF (qA (ixC b1) (qA (ixC b2) (swQ hm.len d1.out d2.out)))) ?_;refine q1.out _ _ ?_;refine zW tyF ?_;exact ⟨3 - (t+1),by omega,t+1,y,Go.Sort.swp dc ix (a+o2),rfl,by omega,(f4.mod _ (.inr rfl)).mod _ (.inr rfl),⟨by rw[swp_size];exact R0.out,⟨gen,zA1 _,al rfl⟩,O2⟩,by rw[aI U9,aI U9];exact hg4,hql4,by rw[show a+L / 4*2 - 1+(t+1)=ix+1 from by have:=E7.out;omega];exact J0,zL⟩
end
theorem Vg:ak Tryz.prog 153=true:=by kernel_rfl
theorem Xd:ak Tryz.prog 152=true:=by kernel_rfl
section
variable {α:Type} [Inhabited α]
theorem nI {p:α→Bool} {d:Array α} {i j:Nat} (h:i≤j) (hp:p d[i]! = true):Go.Sort.scanUp p d j i=Go.Sort.scanUp p d j (i+1):=by
 rw[Go.Sort.scanUp,zB0 (by rw[decide_eq_true h,hp];rfl)]
theorem dz {p:α→Bool} {d:Array α} {i j:Nat} (h:¬i≤j∨p d[i]! = false):Go.Sort.scanUp p d j i=i:=by
 rw[Go.Sort.scanUp,zB1];rcases h with h|h
 ·rw[decide_eq_false h,Bool.false_and];exact zA8
 rw[h,Bool.and_false];decide
theorem jy {p:α→Bool} {d:Array α} {i j:Nat} (h:i≤j) (h0:j≠0) (hp:p d[j]! = true):Go.Sort.scanDown p d i j=Go.Sort.scanDown p d i (j - 1):=by
 obtain ⟨k,rfl⟩:∃ k,j=k+1:=⟨j - 1,by omega⟩;rw[Go.Sort.scanDown,zB0 (by rw[decide_eq_true h,hp];rfl)];rfl
theorem db {p:α→Bool} {d:Array α} {i j:Nat} (h:¬i≤j∨p d[j]! = false):Go.Sort.scanDown p d i j=j:=by
 cases j with
 | zero=>rfl
 | succ k=>
  rw[Go.Sort.scanDown,zB1];rcases h with h|h
  ·rw[decide_eq_false h,Bool.false_and];exact zA8
  rw[h,Bool.and_false];decide
theorem yM {p:α→Bool} {d:Array α} {j:Nat}:∀ {i:Nat},i≤j+1→Go.Sort.scanUp p d j i≤j+1:=by
 intro i h;obtain ⟨m,hm⟩:∃ m,m=j+1 - i:=⟨_,rfl⟩;induction m generalizing i with
 | zero=>rw[dz (.inl (by omega))];exact h
 | succ m ih=>
  by_cases hp:p d[i]! = true
  ·rw[nI (by omega) hp];exact ih (by omega) (by omega)
  rw[dz (.inr (by simpa using hp))];exact h
theorem oP {p:α→Bool} {d:Array α} {i j:Nat} (h:i≤j+2):Go.Sort.scanUp p d j i≤j+2:=by
 by_cases h1:i≤j+1
 ·exact zA7 (yM h1)
 rw[dz (.inl (by omega))];exact h
theorem mB {p:α→Bool} {d:Array α} {i:Nat}:∀ {j:Nat},i≤j+1→i≤Go.Sort.scanDown p d i j+1
 | 0,h=>h
 | j+1,h=>by
  by_cases hp:i≤j+1∧p d[j+1]! = true
  ·rw[jy hp.1 (by omega) hp.2];exact mB (by omega)
  rw[db (by
   by_cases hq:i≤j+1
   ·exact .inr (by have:=fun h=>hp ⟨hq,h⟩;simpa using this)
   exact .inl hq)]
  exact h
theorem qn {p:α→Bool} {d:Array α} {i j:Nat} (h:i≤j+2):i≤Go.Sort.scanDown p d i j+2:=by
 by_cases h1:i≤j+1
 ·exact zA7 (mB h1)
 rw[db (.inl (by omega))];exact h
variable {c:α→List AC} {cf:α→α→Int} {cl N:Nat}
theorem Qw (hm:Cmp c cf cl N) (H:Hp) (id gen n:Nat) (d:Array α) (a b pv:Nat) (hs:Srt c H id gen n d) (hN:N≤H.nx) (Y5:a<b) (hb:b≤n) (hp:pv<n) (hn:n≤65536):
  Con E2 153 [.one (.o (.sl id gen 0 n 2)),.one (.i .i64 a),.one (.i .i64 b),.one (.i .i64 pv),.one (.o (.clo cl []))] H (fun k=>k=id) fun r H'=>r=.tup [(false,[.i .i64 ((Go.Sort.partition (ltF cf) d a b pv).1:Int)]),(false,[.b (Go.Sort.partition (ltF cf) d a b pv).2.1])]∧Srt c H' id gen n (Go.Sort.partition (ltF cf) d a b pv).2.2:=by
 have j5:=hm.bd;refine Con.of rfl fun lg=>?_;have hs:Srt c ⟨H.t,H.nx,lg⟩ id gen n d:=hs;have hN:N≤(⟨H.t,H.nx,lg⟩:Hp).nx:=hN;generalize (⟨H.t,H.nx,lg⟩:Hp)=H at hs hN ⊢;refine C1.body (E:=E2) (nt:=178) (res:=[.tmp 10,.tmp 11]) Tryz.func153 rfl rfl rfl rfl rfl fun tm A0=>?_;have h0:=A0 0 _ rfl;have h1:=A0 1 _ rfl;have h2:=A0 2 _ rfl;have h3:=A0 3 _ rfl;have h4:=A0 4 _ rfl;clear A0;generalize E0:Go.Sort.partition (ltF cf) d a b pv=R;unfold Go.Sort.partition at E0;dsimp only at E0
 have fin:∀ (A:ab) (H3:Hp) (x:Nat) (y:Bool) (dc:Array α),slot A.tm 10=.one (.i .i64 (x:Int))→slot A.tm 11=.one (.b y)→A.dfr=[]→Fr (fun k=>k=id) H H3→Srt c H3 id gen n dc→(x,y,dc)=R→∃ w H4,an E2 [.tmp 10,.tmp 11] (.ret,A,H3)=.ok [(w,H4)]∧Fr (fun k=>k=id) H H4∧∀ lg':List Nat,w=.tup [(false,[.i .i64 (R.1:Int)]),(false,[.b R.2.1])]∧Srt c ⟨H4.t,H4.nx,lg'⟩ id gen n R.2.2:=fun A H3 x y dc h1 h2 hd h3 h4 h5=>⟨_,H3,aQ (.i .i64 x) (.b y) (.inr rfl) hd h1 h2,h3,fun _=>by rw[←h5];exact ⟨rfl,h4⟩⟩;have hid:=hs.lt;have R0:=hs.sz;obtain ⟨lo,P2,hg⟩:=hs.row;have lv:=hm.ltH hN;have W0:=hm.len;have b2:a<n:=by omega
 have d1:a<d.size:=by omega
 have d2:pv<d.size:=by omega
 have R3:=zC0 a (by omega);have V0:IntKind.i64.wrap ((b:Int) - 1)=((b - 1:Nat):Int):=by rw[ao (by omega) (by omega)];omega
 replace E0:Hd _:=E0;replace R0:Hd _:=R0;replace d1:Hd _:=d1;replace d2:Hd _:=d2;refine zW (qA tyF (qA (ixC b2) (qA (ixC hp) (swQ hm.len d1.out d2.out)))) ?_;refine R1.gen (fun A1 H1=>Fr (fun k=>k=id) H H1∧Srt c H1 id gen n (Go.Sort.swp d a pv)∧slot A1.tm 0=.one ((.o (.sl id gen 0 n 2)))∧slot A1.tm 1=.one (.i .i64 (a:Int))∧slot A1.tm 4=.one ((.o (.clo cl [])))∧slot A1.tm 12=.one (.i .i64 ((a+1:Nat):Int))∧slot A1.tm 13=.one (.i .i64 ((b - 1:Nat):Int))∧A1.nt=178∧A1.dfr=[])
  ⟨((Fr.refl (X:=fun k=>k=id) H).mod _ (.inr rfl)).mod _ (.inr rfl),⟨by rw[swp_size];exact R0.out,⟨gen,zA1 _,al rfl⟩,hid⟩,zL⟩ ?_
 clear h0 h1 h2 h3 h4 tm hs hid R3 V0 hg P2 lo lv W0 R0 d1 d2;generalize hd1:Go.Sort.swp d a pv=dd at E0;replace hd1:Hd _:=hd1;rintro A1 H1 ⟨f1,hs,t0,t1,t4,t12,t13,B0,C0⟩;obtain ⟨i0,V2⟩:∃ i,i=a+1:=⟨_,rfl⟩;obtain ⟨j0,hj0⟩:∃ j,j=b - 1:=⟨_,rfl⟩;rw[←V2] at t12 E0;rw[←hj0] at t13 E0;have I5:a+1≤i0:=by omega
 have C_:j0<n:=by omega
 have h_:i0≤j0+1:=by omega
 clear V2 hj0;obtain ⟨I,hI⟩:∃ I,Hd (Go.Sort.scanUp (fun x=>ltF cf x dd[a]!) dd j0 i0=I):=⟨_,rfl⟩;obtain ⟨J,hJ⟩:∃ J,Hd (Go.Sort.scanDown (fun x=>!ltF cf x dd[a]!) dd I j0=J):=⟨_,rfl⟩;have F0:=E0.out;rw[hI.out,hJ.out] at F0;clear E0;replace F0:Hd _:=F0;have hI1:i0≤I:=by rw[←hI.out];exact Go.Sort.scanUp_ge _ _ _ _
 have hI2:I≤j0+1:=by rw[←hI.out];exact yM h_
 have hJ1:J≤j0:=by rw[←hJ.out];exact Go.Sort.scanDown_le _ _ _ _
 have hJ2:I≤J+1:=by rw[←hJ.out];exact mB hI2
 refine R1.gX (fun B H4=>Fr (fun k=>k=id) H H4∧Srt c H4 id gen n dd∧slot B.tm 0=.one ((.o (.sl id gen 0 n 2)))∧slot B.tm 1=.one (.i .i64 (a:Int))∧slot B.tm 4=.one ((.o (.clo cl [])))∧slot B.tm 12=.one (.i .i64 (I:Int))∧slot B.tm 13=.one (.i .i64 (j0:Int))∧B.nt=178∧B.dfr=[]) (fun K5 m1 m2 m3=>?_) ?_
 ·refine R1.dZ fun K5b u1 u2 u3 u4=>?_;refine R1.loop (fun z A H4=>∃ ii:Nat,z=j0+1 - ii∧i0≤ii∧ii≤n+2∧Fr (fun k=>k=id) H H4∧Srt c H4 id gen n dd∧Hd (Go.Sort.scanUp (fun x=>ltF cf x dd[a]!) dd j0 ii=I)∧slot A.tm 0=.one ((.o (.sl id gen 0 n 2)))∧slot A.tm 1=.one (.i .i64 (a:Int))∧slot A.tm 4=.one ((.o (.clo cl [])))∧slot A.tm 12=.one (.i .i64 (ii:Int))∧slot A.tm 13=.one (.i .i64 (j0:Int))∧A.nt=178∧A.dfr=[]) ?_ (j0+1 - i0)
   ⟨i0,rfl,zA1 _,by omega,f1,hs,hI,zL⟩
  clear t0 t1 t4 t12 t13 B0 C0 hs f1 A1 hI u3;rintro z A H4 ⟨ii,rfl,I5,s_,f4,hs,hr,t0,t1,t4,t12,t13,B0,C0⟩;have hid:=hs.lt;by_cases L4:ii≤j0
  ·have L5:(ii:Int)≤(j0:Int):=by omega
   have R0:=hs.sz;obtain ⟨lo,P2,hg⟩:=hs.row;have lv:=hm.ltH (zA2 hN f4.nx);have W0:=hm.len;have b1:ii<n:=by omega
   have b2:a<n:=by omega
   have d1:ii<Array.size dd:=by omega
   have d2:a<Array.size dd:=by omega
   replace R0:Hd _:=R0;replace d1:Hd _:=d1;replace d2:Hd _:=d2;refine zG (qA tyF (qA (ixC b1) (qA (ixC b2) (rdQ hm.len d1.out d2.out)))) fun K hK=>?_;refine WE.con (hm.con H4 dd[ii]! dd[a]! (zA2 hN f4.nx)) fun w' H5 g5 hq=>?_;subst hq;have V1:=hs.fr g5 zB2;have hg:=(g5.get _ hid zB2).trans hg;have hid:=zA0 hid g5.nx;have f5:=f4.then g5 fun _ h=>h.elim;by_cases T3:cf dd[ii]! dd[a]!<0
   ·have N0:=hr.out;rw[nI L4 (by show ltF cf _ _=true;exact decide_eq_true T3)] at N0;clear hr;replace N0:Hd _:=N0;have hwi:=zC0 ii (by omega);refine zK tyF ?_;refine R1.dZ fun K4 v1 v2 v3 v4=>?_;refine zW tyF ?_;refine v1.out _ _ ?_;exact ⟨j0+1 - (ii+1),by omega,ii+1,rfl,by omega,by omega,f5,V1,N0,zL⟩
   have N0:=hr.out;rw[dz (.inr (by show ltF cf _ _=false;exact decide_eq_false T3))] at N0;clear hr;subst N0;refine zK tyF ?_;refine u2.out _ _ (m1.out _ _ ?_);exact ⟨f5,V1,zL⟩
  have L5:¬(ii:Int)≤(j0:Int):=by omega
  have N0:=hr.out;rw[dz (.inl L4)] at N0;clear hr;subst N0;refine zW tyF ?_;refine u2.out _ _ (m1.out _ _ ?_);exact ⟨f4,hs,zL⟩
 clear t0 t1 t4 t12 t13 B0 C0 hs f1 A1 H1 hI;rintro A H1 ⟨f1,hs,t0,t1,t4,t12,t13,B0,C0⟩;refine R1.gX (fun B H4=>Fr (fun k=>k=id) H H4∧Srt c H4 id gen n dd∧slot B.tm 0=.one ((.o (.sl id gen 0 n 2)))∧slot B.tm 1=.one (.i .i64 (a:Int))∧slot B.tm 4=.one ((.o (.clo cl [])))∧slot B.tm 12=.one (.i .i64 (I:Int))∧slot B.tm 13=.one (.i .i64 (J:Int))∧B.nt=178∧B.dfr=[]) (fun K6 m1 m2 m3=>?_) ?_
 ·refine R1.dZ fun K6b u1 u2 u3 u4=>?_;refine R1.loop (fun z A H4=>∃ jj:Nat,z=jj∧jj≤j0∧Fr (fun k=>k=id) H H4∧Srt c H4 id gen n dd∧Hd (Go.Sort.scanDown (fun x=>!ltF cf x dd[a]!) dd I jj=J)∧slot A.tm 0=.one ((.o (.sl id gen 0 n 2)))∧slot A.tm 1=.one (.i .i64 (a:Int))∧slot A.tm 4=.one ((.o (.clo cl [])))∧slot A.tm 12=.one (.i .i64 (I:Int))∧slot A.tm 13=.one (.i .i64 (jj:Int))∧A.nt=178∧A.dfr=[]) ?_ j0
   ⟨j0,rfl,zA1 _,f1,hs,hJ,zL⟩
  clear t0 t1 t4 t12 t13 B0 C0 hs f1 A hJ u3;rintro jj A H4 ⟨_,rfl,C_,f4,hs,hr,t0,t1,t4,t12,t13,B0,C0⟩;have hid:=hs.lt;by_cases L4:I≤jj
  ·have L5:(I:Int)≤(jj:Int):=by omega
   have R0:=hs.sz;obtain ⟨lo,P2,hg⟩:=hs.row;have lv:=hm.ltH (zA2 hN f4.nx);have W0:=hm.len;have b1:jj<n:=by omega
   have b2:a<n:=by omega
   have d1:jj<Array.size dd:=by omega
   have d2:a<Array.size dd:=by omega
   replace R0:Hd _:=R0;replace d1:Hd _:=d1;replace d2:Hd _:=d2;refine zG (qA tyF (qA (ixC b1) (qA (ixC b2) (rdQ hm.len d1.out d2.out)))) fun K hK=>?_;refine WE.con (hm.con H4 dd[jj]! dd[a]! (zA2 hN f4.nx)) fun w' H5 g5 hq=>?_;subst hq;have V1:=hs.fr g5 zB2;have hg:=(g5.get _ hid zB2).trans hg;have hid:=zA0 hid g5.nx;have f5:=f4.then g5 fun _ h=>h.elim;have hjn:jj≠0:=by omega
   by_cases T3:cf dd[jj]! dd[a]!<0
   ·have N0:=hr.out;rw[db (.inr (by show (!ltF cf _ _)=false;unfold ltF;rw[decide_eq_true T3];rfl))] at N0;clear hr;subst N0;refine zK tyF ?_;refine u2.out _ _ (m1.out _ _ ?_);exact ⟨f5,V1,zL⟩
   have N0:=hr.out;rw[jy L4 hjn (by show (!ltF cf _ _)=true;unfold ltF;rw[decide_eq_false T3];rfl)] at N0;clear hr;replace N0:Hd _:=N0;have hwj:IntKind.i64.wrap ((jj:Int) - 1)=((jj - 1:Nat):Int):=by rw[ao (by omega) (by omega)];omega
   refine zK tyF ?_;refine R1.dZ fun K4 v1 v2 v3 v4=>?_;refine zW tyF ?_;refine v1.out _ _ ?_;exact ⟨jj - 1,by omega,jj - 1,rfl,by omega,f5,V1,N0,zL⟩
  have L5:¬(I:Int)≤(jj:Int):=by omega
  have N0:=hr.out;rw[db (.inl L4)] at N0;clear hr;subst N0;refine zW tyF ?_;refine u2.out _ _ (m1.out _ _ ?_);exact ⟨f4,hs,zL⟩
 clear t0 t1 t4 t12 t13 B0 C0 hs f1 A H1 hJ;rintro A H1 ⟨f1,hs,t0,t1,t4,t12,t13,B0,C0⟩;have hid:=hs.lt;have R0:=hs.sz;obtain ⟨lo,P2,hg⟩:=hs.row;have lv:=hm.ltH (zA2 hN f1.nx);have W0:=hm.len;have J0:=F0.out;clear F0;by_cases x9:J<I
 ·rw[zB0 x9] at J0;have P9:(J:Int)<(I:Int):=by omega
  have b1:J<n:=by omega
  have d1:J<dd.size:=by omega
  have d2:a<dd.size:=by omega
  replace J0:Hd _:=J0;replace R0:Hd _:=R0;replace d1:Hd _:=d1;replace d2:Hd _:=d2;refine zW (qA tyF (qA (ixC b1) (qA (ixC b2) (swQ hm.len d1.out d2.out)))) ?_;exact fin _ _ J true (Go.Sort.swp dd J a) qp qp qe ((f1.mod _ (.inr rfl)).mod _ (.inr rfl)) ⟨by rw[swp_size];exact R0.out,⟨gen,zA1 _,al rfl⟩,hid⟩ J0.out
 rw[zB1 x9] at J0;have P9:¬(J:Int)<(I:Int):=by omega
 have b1:I<n:=by omega
 have b3:J<n:=by omega
 have d1:I<dd.size:=by omega
 have d2:J<dd.size:=by omega
 have hwI:=zC0 I (by omega);have hwJ:IntKind.i64.wrap ((J:Int) - 1)=((J - 1:Nat):Int):=by rw[ao (by omega) (by omega)];omega
 replace J0:Hd _:=J0;replace R0:Hd _:=R0;replace d1:Hd _:=d1;replace d2:Hd _:=d2;refine zW (qA tyF (qA (ixC b1) (qA (ixC b3) (swQ hm.len d1.out d2.out)))) ?_;refine R1.gX (fun B H4=>Fr (fun k=>k=id) H H4∧Srt c H4 id gen n (Go.Sort.partLoop (ltF cf) a (I+1) (J - 1) (Go.Sort.swp dd I J)).2∧(Go.Sort.partLoop (ltF cf) a (I+1) (J - 1) (Go.Sort.swp dd I J)).1<n∧slot B.tm 0=.one ((.o (.sl id gen 0 n 2)))∧slot B.tm 1=.one (.i .i64 (a:Int))∧slot B.tm 13=.one (.i .i64 ((Go.Sort.partLoop (ltF cf) a (I+1) (J - 1) (Go.Sort.swp dd I J)).1:Int))∧B.nt=178∧B.dfr=[]) (fun K7 m1 m2 m3=>?_) ?_
 ·generalize N2:Go.Sort.partLoop (ltF cf) a (I+1) (J - 1) (Go.Sort.swp dd I J)=Z at m1;replace N2:Hd _:=N2;refine R1.dZ fun K8 k1 k2 k3 k4=>?_;refine R1.loop (fun z A H4=>∃ (i j:Nat) (dc:Array α),z=j+1 - i∧a+1≤i∧j<n∧i≤j+2∧Fr (fun k=>k=id) H H4∧Srt c H4 id gen n dc∧Hd (Go.Sort.partLoop (ltF cf) a i j dc=Z)∧slot A.tm 0=.one ((.o (.sl id gen 0 n 2)))∧slot A.tm 1=.one (.i .i64 (a:Int))∧slot A.tm 4=.one ((.o (.clo cl [])))∧slot A.tm 12=.one (.i .i64 (i:Int))∧slot A.tm 13=.one (.i .i64 (j:Int))∧A.nt=178∧A.dfr=[]) ?_ (J - 1+1 - (I+1))
   ⟨I+1,J - 1,Go.Sort.swp dd I J,rfl,by omega,by omega,by omega,(f1.mod _ (.inr rfl)).mod _ (.inr rfl),⟨by rw[swp_size];exact R0.out,⟨gen,zA1 _,al rfl⟩,hid⟩,N2,zL⟩
  clear t0 t1 t4 t12 t13 B0 C0 hs f1 A N2 k3 hg hid lv P2 d1 d2 R0 P9 hwI hwJ J0 b1 b3 x9 hI1 hI2 hJ1 hJ2 h_ I5 C_;rintro z A1 H1 ⟨i0,j0,dd,rfl,I5,C_,h_,f1,hs,hr,t0,t1,t4,t12,t13,B0,C0⟩;obtain ⟨I,hI⟩:∃ I,Hd (Go.Sort.scanUp (fun x=>ltF cf x dd[a]!) dd j0 i0=I):=⟨_,rfl⟩;obtain ⟨J,hJ⟩:∃ J,Hd (Go.Sort.scanDown (fun x=>!ltF cf x dd[a]!) dd I j0=J):=⟨_,rfl⟩;have F0:=hr.out;rw[Go.Sort.partLoop] at F0;have O7:=@Go.Sort.partLoop_guard α _ (ltF cf) a i0 j0 dd;rw[hI.out,hJ.out] at O7;rw[hI.out,hJ.out] at F0;clear hr;replace F0:Hd _:=F0;have hI1:i0≤I:=by rw[←hI.out];exact Go.Sort.scanUp_ge _ _ _ _
  have hI2:I≤j0+2:=by rw[←hI.out];exact oP h_
  have hJ1:J≤j0:=by rw[←hJ.out];exact Go.Sort.scanDown_le _ _ _ _
  have hJ2:I≤J+2:=by rw[←hJ.out];exact qn hI2
  replace O7:Hd _:=O7;refine R1.dZ fun K9 q1 q2 q3 q4=>?_;refine R1.gX (fun B H4=>Fr (fun k=>k=id) H H4∧Srt c H4 id gen n dd∧slot B.tm 0=.one ((.o (.sl id gen 0 n 2)))∧slot B.tm 1=.one (.i .i64 (a:Int))∧slot B.tm 4=.one ((.o (.clo cl [])))∧slot B.tm 12=.one (.i .i64 (I:Int))∧slot B.tm 13=.one (.i .i64 (j0:Int))∧B.nt=178∧B.dfr=[]) (fun Ka m1 m2 m3=>?_) ?_
  ·refine R1.dZ fun Kab u1 u2 u3 u4=>?_;refine R1.loop (fun z A H4=>∃ ii:Nat,z=j0+1 - ii∧i0≤ii∧ii≤n+2∧Fr (fun k=>k=id) H H4∧Srt c H4 id gen n dd∧Hd (Go.Sort.scanUp (fun x=>ltF cf x dd[a]!) dd j0 ii=I)∧slot A.tm 0=.one ((.o (.sl id gen 0 n 2)))∧slot A.tm 1=.one (.i .i64 (a:Int))∧slot A.tm 4=.one ((.o (.clo cl [])))∧slot A.tm 12=.one (.i .i64 (ii:Int))∧slot A.tm 13=.one (.i .i64 (j0:Int))∧A.nt=178∧A.dfr=[]) ?_ (j0+1 - i0)
    ⟨i0,rfl,zA1 _,by omega,f1,hs,hI,zL⟩
   clear t0 t1 t4 t12 t13 B0 C0 hs f1 A1 hI u3;rintro z A H4 ⟨ii,rfl,I5,s_,f4,hs,hr,t0,t1,t4,t12,t13,B0,C0⟩;have hid:=hs.lt;by_cases L4:ii≤j0
   ·have L5:(ii:Int)≤(j0:Int):=by omega
    have R0:=hs.sz;obtain ⟨lo,P2,hg⟩:=hs.row;have lv:=hm.ltH (zA2 hN f4.nx);have W0:=hm.len;have b1:ii<n:=by omega
    have b2:a<n:=by omega
    have d1:ii<Array.size dd:=by omega
    have d2:a<Array.size dd:=by omega
    replace R0:Hd _:=R0;replace d1:Hd _:=d1;replace d2:Hd _:=d2;refine zG (qA tyF (qA (ixC b1) (qA (ixC b2) (rdQ hm.len d1.out d2.out)))) fun K hK=>?_;refine WE.con (hm.con H4 dd[ii]! dd[a]! (zA2 hN f4.nx)) fun w' H5 g5 hq=>?_;subst hq;have V1:=hs.fr g5 zB2;have hg:=(g5.get _ hid zB2).trans hg;have hid:=zA0 hid g5.nx;have f5:=f4.then g5 fun _ h=>h.elim;by_cases T3:cf dd[ii]! dd[a]!<0
    ·have N0:=hr.out;rw[nI L4 (by show ltF cf _ _=true;exact decide_eq_true T3)] at N0;clear hr;replace N0:Hd _:=N0;have hwi:=zC0 ii (by omega);refine zK tyF ?_;refine R1.dZ fun K4 v1 v2 v3 v4=>?_;refine zW tyF ?_;refine v1.out _ _ ?_;exact ⟨j0+1 - (ii+1),by omega,ii+1,rfl,by omega,by omega,f5,V1,N0,zL⟩
    have N0:=hr.out;rw[dz (.inr (by show ltF cf _ _=false;exact decide_eq_false T3))] at N0;clear hr;subst N0;refine zK tyF ?_;refine u2.out _ _ (m1.out _ _ ?_);exact ⟨f5,V1,zL⟩
   have L5:¬(ii:Int)≤(j0:Int):=by omega
   have N0:=hr.out;rw[dz (.inl L4)] at N0;clear hr;subst N0;refine zW tyF ?_;refine u2.out _ _ (m1.out _ _ ?_);exact ⟨f4,hs,zL⟩
  clear t0 t1 t4 t12 t13 B0 C0 hs f1 A1 H1 hI;rintro A H1 ⟨f1,hs,t0,t1,t4,t12,t13,B0,C0⟩;refine R1.gX (fun B H4=>Fr (fun k=>k=id) H H4∧Srt c H4 id gen n dd∧slot B.tm 0=.one ((.o (.sl id gen 0 n 2)))∧slot B.tm 1=.one (.i .i64 (a:Int))∧slot B.tm 4=.one ((.o (.clo cl [])))∧slot B.tm 12=.one (.i .i64 (I:Int))∧slot B.tm 13=.one (.i .i64 (J:Int))∧B.nt=178∧B.dfr=[]) (fun Kb m1 m2 m3=>?_) ?_
  ·refine R1.dZ fun Kbb u1 u2 u3 u4=>?_;refine R1.loop (fun z A H4=>∃ jj:Nat,z=jj∧jj≤j0∧Fr (fun k=>k=id) H H4∧Srt c H4 id gen n dd∧Hd (Go.Sort.scanDown (fun x=>!ltF cf x dd[a]!) dd I jj=J)∧slot A.tm 0=.one ((.o (.sl id gen 0 n 2)))∧slot A.tm 1=.one (.i .i64 (a:Int))∧slot A.tm 4=.one ((.o (.clo cl [])))∧slot A.tm 12=.one (.i .i64 (I:Int))∧slot A.tm 13=.one (.i .i64 (jj:Int))∧A.nt=178∧A.dfr=[]) ?_ j0
    ⟨j0,rfl,zA1 _,f1,hs,hJ,zL⟩
   clear t0 t1 t4 t12 t13 B0 C0 hs f1 A hJ u3;rintro jj A H4 ⟨_,rfl,C_,f4,hs,hr,t0,t1,t4,t12,t13,B0,C0⟩;have hid:=hs.lt;by_cases L4:I≤jj
   ·have L5:(I:Int)≤(jj:Int):=by omega
    have R0:=hs.sz;obtain ⟨lo,P2,hg⟩:=hs.row;have lv:=hm.ltH (zA2 hN f4.nx);have W0:=hm.len;have b1:jj<n:=by omega
    have b2:a<n:=by omega
    have d1:jj<Array.size dd:=by omega
    have d2:a<Array.size dd:=by omega
    replace R0:Hd _:=R0;replace d1:Hd _:=d1;replace d2:Hd _:=d2;refine zG (qA tyF (qA (ixC b1) (qA (ixC b2) (rdQ hm.len d1.out d2.out)))) fun K hK=>?_;refine WE.con (hm.con H4 dd[jj]! dd[a]! (zA2 hN f4.nx)) fun w' H5 g5 hq=>?_;subst hq;have V1:=hs.fr g5 zB2;have hg:=(g5.get _ hid zB2).trans hg;have hid:=zA0 hid g5.nx;have f5:=f4.then g5 fun _ h=>h.elim;have hjn:jj≠0:=by omega
    by_cases T3:cf dd[jj]! dd[a]!<0
    ·have N0:=hr.out;rw[db (.inr (by show (!ltF cf _ _)=false;unfold ltF;rw[decide_eq_true T3];rfl))] at N0;clear hr;subst N0;refine zK tyF ?_;refine u2.out _ _ (m1.out _ _ ?_);exact ⟨f5,V1,zL⟩
    have N0:=hr.out;rw[jy L4 hjn (by show (!ltF cf _ _)=true;unfold ltF;rw[decide_eq_false T3];rfl)] at N0;clear hr;replace N0:Hd _:=N0;have hwj:IntKind.i64.wrap ((jj:Int) - 1)=((jj - 1:Nat):Int):=by rw[ao (by omega) (by omega)];omega
    refine zK tyF ?_;refine R1.dZ fun K4 v1 v2 v3 v4=>?_;refine zW tyF ?_;refine v1.out _ _ ?_;exact ⟨jj - 1,by omega,jj - 1,rfl,by omega,f5,V1,N0,zL⟩
   have L5:¬(I:Int)≤(jj:Int):=by omega
   have N0:=hr.out;rw[db (.inl L4)] at N0;clear hr;subst N0;refine zW tyF ?_;refine u2.out _ _ (m1.out _ _ ?_);exact ⟨f4,hs,zL⟩
  clear t0 t1 t4 t12 t13 B0 C0 hs f1 A H1 hJ;rintro A H1 ⟨f1,hs,t0,t1,t4,t12,t13,B0,C0⟩;have hid:=hs.lt;have R0:=hs.sz;obtain ⟨lo,P2,hg⟩:=hs.row;have lv:=hm.ltH (zA2 hN f1.nx);have J0:=F0.out;clear F0;by_cases x9:J<I
  ·rw[zB0 x9] at J0;have P9:(J:Int)<(I:Int):=by omega
   replace J0:Hd _:=J0;replace hs:Hd _:=hs;refine zW tyF ?_;refine q3.out _ _ _ (by decide) (k2.out _ _ (m1.out _ _ ?_));rw[←J0.out];exact ⟨f1,hs.out,Nat.lt_of_le_of_lt hJ1 C_,zL⟩
  rw[zB1 x9,dif_pos (O7.out x9)] at J0;have P9:¬(J:Int)<(I:Int):=by omega
  have b1:I<n:=by omega
  have b3:J<n:=by omega
  have d1:I<dd.size:=by omega
  have d2:J<dd.size:=by omega
  have hwI:=zC0 I (by omega);have hwJ:IntKind.i64.wrap ((J:Int) - 1)=((J - 1:Nat):Int):=by rw[ao (by omega) (by omega)];omega
  replace J0:Hd _:=J0;replace R0:Hd _:=R0;replace d1:Hd _:=d1;replace d2:Hd _:=d2;refine zW (qA tyF (qA (ixC b1) (qA (ixC b3) (swQ hm.len d1.out d2.out)))) ?_;refine q1.out _ _ ?_;exact ⟨J - 1+1 - (I+1),by omega,I+1,J - 1,Go.Sort.swp dd I J,rfl,by omega,by omega,by omega,(f1.mod _ (.inr rfl)).mod _ (.inr rfl),⟨by rw[swp_size];exact R0.out,⟨gen,zA1 _,al rfl⟩,hid⟩,J0,zL⟩
 generalize N2:Go.Sort.partLoop (ltF cf) a (I+1) (J - 1) (Go.Sort.swp dd I J)=Z at J0;clear t0 t1 t4 t12 t13 B0 C0 hs f1 A hg hid lv P2 d1 d2 R0 P9 hwI hwJ b1 b3 N2;rintro A H1 ⟨f1,hs,hZ,t0,t1,t13,B0,C0⟩;have hid:=hs.lt;have R0:=hs.sz;obtain ⟨lo,P2,hg⟩:=hs.row;have lv:=hm.ltH (zA2 hN f1.nx);have d1:Z.1<Z.2.size:=by omega
 have d2:a<Z.2.size:=by omega
 replace R0:Hd _:=R0;replace d1:Hd _:=d1;replace d2:Hd _:=d2;refine zW (qA tyF (qA (ixC hZ) (qA (ixC b2) (swQ hm.len d1.out d2.out)))) ?_;exact fin _ _ Z.1 false (Go.Sort.swp Z.2 Z.1 a) qp qp qe ((f1.mod _ (.inr rfl)).mod _ (.inr rfl)) ⟨by rw[swp_size];exact R0.out,⟨gen,zA1 _,al rfl⟩,hid⟩ J0.out
end
section
variable {α:Type} [Inhabited α] {c:α→List AC} {cf:α→α→Int} {cl N:Nat}
theorem GO {lt:α→α→Bool} {a n:Nat}:∀ (m i j:Nat) (d:Array α),j+1 - i≤m→i≤j+2→j<n→(Go.Sort.partEqLoop lt a i j d).1≤n+1
 | m,i,j,d,hm,L4,hj=>by
  have h2:=oP (p:=fun x=>!lt d[a]! x) (d:=d) L4;rw[Go.Sort.partEqLoop_eq];by_cases x9:Go.Sort.scanUp (fun x=>!lt d[a]! x) d j i>Go.Sort.scanDown (fun x=>lt d[a]! x) d (Go.Sort.scanUp (fun x=>!lt d[a]! x) d j i) j
  ·rw[zB0 x9];show Go.Sort.scanUp _ d j i≤_;omega
  rw[zB1 x9];have hg:=Go.Sort.partEqLoop_guard lt a i j d x9;have h3:=Go.Sort.scanDown_le (fun x=>lt d[a]! x) d (Go.Sort.scanUp (fun x=>!lt d[a]! x) d j i) j;cases m with
  | zero=>omega
  | succ m=>exact GO m _ _ _ (by omega) (by omega) (by omega)
theorem UH (hm:Cmp c cf cl N) (H:Hp) (id gen n:Nat) (d:Array α) (a b pv:Nat) (hs:Srt c H id gen n d) (hN:N≤H.nx) (Y5:a<b) (hb:b≤n) (hp:pv<n) (hn:n≤65536):
  Con E2 152 [.one (.o (.sl id gen 0 n 2)),.one (.i .i64 a),.one (.i .i64 b),.one (.i .i64 pv),.one (.o (.clo cl []))] H (fun k=>k=id) fun r H'=>r=.one (.i .i64 ((Go.Sort.partitionEqual (ltF cf) d a b pv).1:Int))∧Srt c H' id gen n (Go.Sort.partitionEqual (ltF cf) d a b pv).2:=by
 have j5:=hm.bd;refine Con.of rfl fun lg=>?_;have hs:Srt c ⟨H.t,H.nx,lg⟩ id gen n d:=hs;have hN:N≤(⟨H.t,H.nx,lg⟩:Hp).nx:=hN;generalize (⟨H.t,H.nx,lg⟩:Hp)=H at hs hN ⊢;refine C1.body (E:=E2) (nt:=90) (res:=[.tmp 10]) Tryz.func152 rfl rfl rfl rfl rfl fun tm A0=>?_;have h0:=A0 0 _ rfl;have h1:=A0 1 _ rfl;have h2:=A0 2 _ rfl;have h3:=A0 3 _ rfl;have h4:=A0 4 _ rfl;clear A0;generalize E0:Go.Sort.partitionEqual (ltF cf) d a b pv=R;unfold Go.Sort.partitionEqual at E0;have fin:∀ (A:ab) (H3:Hp),slot A.tm 10=.one (.i .i64 (R.1:Int))→A.dfr=[]→Fr (fun k=>k=id) H H3→Srt c H3 id gen n R.2→∃ w H4,an E2 [.tmp 10] (.ret,A,H3)=.ok [(w,H4)]∧Fr (fun k=>k=id) H H4∧∀ lg':List Nat,w=.one (.i .i64 (R.1:Int))∧Srt c ⟨H4.t,H4.nx,lg'⟩ id gen n R.2:=fun A H3 h1 hd h3 h4=>⟨_,H3,ah (.i .i64 (R.1:Int)) (.inr rfl) hd h1,h3,fun _=>⟨rfl,h4⟩⟩;have hid:=hs.lt;have R0:=hs.sz;obtain ⟨lo,P2,hg⟩:=hs.row;have lv:=hm.ltH hN;have W0:=hm.len;have b2:a<n:=by omega
 have d1:a<d.size:=by omega
 have d2:pv<d.size:=by omega
 have R3:=zC0 a (by omega);have V0:IntKind.i64.wrap ((b:Int) - 1)=((b - 1:Nat):Int):=by rw[ao (by omega) (by omega)];omega
 have hRn:R.1≤n+1:=by
  rw[←E0];exact GO _ _ _ _ (zA1 _) (by omega) (by omega)
 replace E0:Hd _:=E0;replace R0:Hd _:=R0;replace d1:Hd _:=d1;replace d2:Hd _:=d2;refine zW (qA tyF (qA (ixC b2) (qA (ixC hp) (swQ hm.len d1.out d2.out)))) ?_;refine R1.gX (fun B H4=>Fr (fun k=>k=id) H H4∧Srt c H4 id gen n R.2∧slot B.tm 11=.one (.i .i64 (R.1:Int))∧B.nt=90∧B.dfr=[]) (fun K7 m1 m2 m3=>?_) ?_
 ·refine R1.dZ fun K8 k1 k2 k3 k4=>?_;refine R1.loop (fun z A H4=>∃ (i j:Nat) (dc:Array α),z=j+1 - i∧a+1≤i∧j<n∧i≤j+2∧Fr (fun k=>k=id) H H4∧Srt c H4 id gen n dc∧Hd (Go.Sort.partEqLoop (ltF cf) a i j dc=R)∧slot A.tm 0=.one ((.o (.sl id gen 0 n 2)))∧slot A.tm 1=.one (.i .i64 (a:Int))∧slot A.tm 4=.one ((.o (.clo cl [])))∧slot A.tm 11=.one (.i .i64 (i:Int))∧slot A.tm 12=.one (.i .i64 (j:Int))∧A.nt=90∧A.dfr=[]) ?_ (b - 1+1 - (a+1))
   ⟨a+1,b - 1,Go.Sort.swp d a pv,rfl,by omega,by omega,by omega,((Fr.refl (X:=fun k=>k=id) H).mod _ (.inr rfl)).mod _ (.inr rfl),⟨by rw[swp_size];exact R0.out,⟨gen,zA1 _,al rfl⟩,hid⟩,E0,zL⟩
  clear h0 h1 h2 h3 h4 tm hs hid R3 V0 hg P2 lo lv R0 d1 d2 E0 k3;rintro z A1 H1 ⟨i0,j0,dd,rfl,I5,C_,h_,f1,hs,hr,t0,t1,t4,t11,t12,B0,C0⟩;obtain ⟨I,hI⟩:∃ I,Hd (Go.Sort.scanUp (fun x=>!ltF cf dd[a]! x) dd j0 i0=I):=⟨_,rfl⟩;obtain ⟨J,hJ⟩:∃ J,Hd (Go.Sort.scanDown (fun x=>ltF cf dd[a]! x) dd I j0=J):=⟨_,rfl⟩;have F0:=hr.out;rw[Go.Sort.partEqLoop_eq] at F0;have O7:=@Go.Sort.partEqLoop_guard α _ (ltF cf) a i0 j0 dd;rw[hI.out,hJ.out] at O7;rw[hI.out,hJ.out] at F0;clear hr;replace F0:Hd _:=F0;have hI1:i0≤I:=by rw[←hI.out];exact Go.Sort.scanUp_ge _ _ _ _
  have hI2:I≤j0+2:=by rw[←hI.out];exact oP h_
  have hJ1:J≤j0:=by rw[←hJ.out];exact Go.Sort.scanDown_le _ _ _ _
  have hJ2:I≤J+2:=by rw[←hJ.out];exact qn hI2
  replace O7:Hd _:=O7;refine R1.dZ fun K9 q1 q2 q3 q4=>?_;refine R1.gX (fun B H4=>Fr (fun k=>k=id) H H4∧Srt c H4 id gen n dd∧slot B.tm 0=.one ((.o (.sl id gen 0 n 2)))∧slot B.tm 1=.one (.i .i64 (a:Int))∧slot B.tm 4=.one ((.o (.clo cl [])))∧slot B.tm 11=.one (.i .i64 (I:Int))∧slot B.tm 12=.one (.i .i64 (j0:Int))∧B.nt=90∧B.dfr=[]) (fun Ka m1 m2 m3=>?_) ?_
  ·refine R1.dZ fun Kab u1 u2 u3 u4=>?_;refine R1.loop (fun z A H4=>∃ ii:Nat,z=j0+1 - ii∧i0≤ii∧ii≤n+2∧Fr (fun k=>k=id) H H4∧Srt c H4 id gen n dd∧Hd (Go.Sort.scanUp (fun x=>!ltF cf dd[a]! x) dd j0 ii=I)∧slot A.tm 0=.one ((.o (.sl id gen 0 n 2)))∧slot A.tm 1=.one (.i .i64 (a:Int))∧slot A.tm 4=.one ((.o (.clo cl [])))∧slot A.tm 11=.one (.i .i64 (ii:Int))∧slot A.tm 12=.one (.i .i64 (j0:Int))∧A.nt=90∧A.dfr=[]) ?_ (j0+1 - i0)
    ⟨i0,rfl,zA1 _,by omega,f1,hs,hI,zL⟩
   clear t0 t1 t4 t11 t12 B0 C0 hs f1 A1 hI u3;rintro z A H4 ⟨ii,rfl,I5,s_,f4,hs,hr,t0,t1,t4,t11,t12,B0,C0⟩;have hid:=hs.lt;by_cases L4:ii≤j0
   ·have L5:(ii:Int)≤(j0:Int):=by omega
    have R0:=hs.sz;obtain ⟨lo,P2,hg⟩:=hs.row;have lv:=hm.ltH (zA2 hN f4.nx);have W0:=hm.len;have b1:ii<n:=by omega
    have b2:a<n:=by omega
    have d1:ii<Array.size dd:=by omega
    have d2:a<Array.size dd:=by omega
    replace R0:Hd _:=R0;replace d1:Hd _:=d1;replace d2:Hd _:=d2;refine zG (qA tyF (qA (ixC b1) (qA (ixC b2) (rdQ hm.len d1.out d2.out)))) fun K hK=>?_;refine WE.con (hm.con H4 dd[a]! dd[ii]! (zA2 hN f4.nx)) fun w' H5 g5 hq=>?_;subst hq;have V1:=hs.fr g5 zB2;have hg:=(g5.get _ hid zB2).trans hg;have hid:=zA0 hid g5.nx;have f5:=f4.then g5 fun _ h=>h.elim;by_cases T3:cf dd[a]! dd[ii]!<0
    ·have N0:=hr.out;rw[dz (.inr (by show (!ltF cf _ _)=false;unfold ltF;rw[decide_eq_true T3];rfl))] at N0;clear hr;subst N0;refine zK tyF ?_;refine u2.out _ _ (m1.out _ _ ?_);exact ⟨f5,V1,zL⟩
    have N0:=hr.out;rw[nI L4 (by show (!ltF cf _ _)=true;unfold ltF;rw[decide_eq_false T3];rfl)] at N0;clear hr;replace N0:Hd _:=N0;have hwi:=zC0 ii (by omega);refine zK tyF ?_;refine R1.dZ fun K4 v1 v2 v3 v4=>?_;refine zW tyF ?_;refine v1.out _ _ ?_;exact ⟨j0+1 - (ii+1),by omega,ii+1,rfl,by omega,by omega,f5,V1,N0,zL⟩
   have L5:¬(ii:Int)≤(j0:Int):=by omega
   have N0:=hr.out;rw[dz (.inl L4)] at N0;clear hr;subst N0;refine zW tyF ?_;refine u2.out _ _ (m1.out _ _ ?_);exact ⟨f4,hs,zL⟩
  clear t0 t1 t4 t11 t12 B0 C0 hs f1 A1 H1 hI;rintro A H1 ⟨f1,hs,t0,t1,t4,t11,t12,B0,C0⟩;refine R1.gX (fun B H4=>Fr (fun k=>k=id) H H4∧Srt c H4 id gen n dd∧slot B.tm 0=.one ((.o (.sl id gen 0 n 2)))∧slot B.tm 1=.one (.i .i64 (a:Int))∧slot B.tm 4=.one ((.o (.clo cl [])))∧slot B.tm 11=.one (.i .i64 (I:Int))∧slot B.tm 12=.one (.i .i64 (J:Int))∧B.nt=90∧B.dfr=[]) (fun Kb m1 m2 m3=>?_) ?_
  ·refine R1.dZ fun Kbb u1 u2 u3 u4=>?_;refine R1.loop (fun z A H4=>∃ jj:Nat,z=jj∧jj≤j0∧Fr (fun k=>k=id) H H4∧Srt c H4 id gen n dd∧Hd (Go.Sort.scanDown (fun x=>ltF cf dd[a]! x) dd I jj=J)∧slot A.tm 0=.one ((.o (.sl id gen 0 n 2)))∧slot A.tm 1=.one (.i .i64 (a:Int))∧slot A.tm 4=.one ((.o (.clo cl [])))∧slot A.tm 11=.one (.i .i64 (I:Int))∧slot A.tm 12=.one (.i .i64 (jj:Int))∧A.nt=90∧A.dfr=[]) ?_ j0
    ⟨j0,rfl,zA1 _,f1,hs,hJ,zL⟩
   clear t0 t1 t4 t11 t12 B0 C0 hs f1 A hJ u3;rintro jj A H4 ⟨_,rfl,C_,f4,hs,hr,t0,t1,t4,t11,t12,B0,C0⟩;have hid:=hs.lt;by_cases L4:I≤jj
   ·have L5:(I:Int)≤(jj:Int):=by omega
    have R0:=hs.sz;obtain ⟨lo,P2,hg⟩:=hs.row;have lv:=hm.ltH (zA2 hN f4.nx);have W0:=hm.len;have b1:jj<n:=by omega
    have b2:a<n:=by omega
    have d1:jj<Array.size dd:=by omega
    have d2:a<Array.size dd:=by omega
    replace R0:Hd _:=R0;replace d1:Hd _:=d1;replace d2:Hd _:=d2;refine zG (qA tyF (qA (ixC b1) (qA (ixC b2) (rdQ hm.len d1.out d2.out)))) fun K hK=>?_;refine WE.con (hm.con H4 dd[a]! dd[jj]! (zA2 hN f4.nx)) fun w' H5 g5 hq=>?_;subst hq;have V1:=hs.fr g5 zB2;have hg:=(g5.get _ hid zB2).trans hg;have hid:=zA0 hid g5.nx;have f5:=f4.then g5 fun _ h=>h.elim;have hjn:jj≠0:=by omega
    by_cases T3:cf dd[a]! dd[jj]!<0
    ·have N0:=hr.out;rw[jy L4 hjn (by show ltF cf _ _=true;exact decide_eq_true T3)] at N0;clear hr;replace N0:Hd _:=N0;have hwj:IntKind.i64.wrap ((jj:Int) - 1)=((jj - 1:Nat):Int):=by rw[ao (by omega) (by omega)];omega
     refine zK tyF ?_;refine R1.dZ fun K4 v1 v2 v3 v4=>?_;refine zW tyF ?_;refine v1.out _ _ ?_;exact ⟨jj - 1,by omega,jj - 1,rfl,by omega,f5,V1,N0,zL⟩
    have N0:=hr.out;rw[db (.inr (by show ltF cf _ _=false;exact decide_eq_false T3))] at N0;clear hr;subst N0;refine zK tyF ?_;refine u2.out _ _ (m1.out _ _ ?_);exact ⟨f5,V1,zL⟩
   have L5:¬(I:Int)≤(jj:Int):=by omega
   have N0:=hr.out;rw[db (.inl L4)] at N0;clear hr;subst N0;refine zW tyF ?_;refine u2.out _ _ (m1.out _ _ ?_);exact ⟨f4,hs,zL⟩
  clear t0 t1 t4 t11 t12 B0 C0 hs f1 A H1 hJ;rintro A H1 ⟨f1,hs,t0,t1,t4,t11,t12,B0,C0⟩;have hid:=hs.lt;have R0:=hs.sz;obtain ⟨lo,P2,hg⟩:=hs.row;have lv:=hm.ltH (zA2 hN f1.nx);have J0:=F0.out;clear F0;by_cases x9:J<I
  ·rw[zB0 x9] at J0;have P9:(J:Int)<(I:Int):=by omega
   replace J0:Hd _:=J0;replace hs:Hd _:=hs;refine zW tyF ?_;refine q3.out _ _ _ (by decide) (k2.out _ _ (m1.out _ _ ?_));rw[←J0.out];exact ⟨f1,hs.out,zL⟩
  rw[zB1 x9] at J0;have P9:¬(J:Int)<(I:Int):=by omega
  have hgd2:=O7.out x9;have b1:I<n:=by omega
  have b3:J<n:=by omega
  have d1:I<dd.size:=by omega
  have d2:J<dd.size:=by omega
  have hwI:=zC0 I (by omega);have hwJ:IntKind.i64.wrap ((J:Int) - 1)=((J - 1:Nat):Int):=by rw[ao (by omega) (by omega)];omega
  replace J0:Hd _:=J0;replace R0:Hd _:=R0;replace d1:Hd _:=d1;replace d2:Hd _:=d2;replace hgd2:Hd _:=hgd2;refine zW (qA tyF (qA (ixC b1) (qA (ixC b3) (swQ hm.len d1.out d2.out)))) ?_;refine q1.out _ _ ?_;exact ⟨J - 1+1 - (I+1),hgd2.out,I+1,J - 1,Go.Sort.swp dd I J,rfl,by omega,by omega,by omega,(f1.mod _ (.inr rfl)).mod _ (.inr rfl),⟨by rw[swp_size];exact R0.out,⟨gen,zA1 _,al rfl⟩,hid⟩,J0,zL⟩
 clear h0 h1 h2 h3 h4 tm hs hid R3 V0 hg P2 lo lv R0 d1 d2 E0;rintro A H1 ⟨f1,hs,t11,B0,C0⟩;replace hs:Hd _:=hs;refine zW tyF ?_;exact fin _ _ qp qe f1 hs.out
end
theorem Vi:ak Tryz.prog 151=true:=by kernel_rfl
section
variable {α:Type} [Inhabited α]
theorem Qi {lt:α→α→Bool} {d:Array α} {b i:Nat} (h:i<b) (hp:lt d[i]! d[i - 1]! = false):Go.Sort.scanSorted lt d b i=Go.Sort.scanSorted lt d b (i+1):=by
 rw[Go.Sort.scanSorted,zB0 (by rw[decide_eq_true h,hp];rfl)]
theorem pW {lt:α→α→Bool} {d:Array α} {b i:Nat} (h:¬i<b∨lt d[i]! d[i - 1]! = true):Go.Sort.scanSorted lt d b i=i:=by
 rw[Go.Sort.scanSorted,zB1];rcases h with h|h
 ·rw[decide_eq_false h,Bool.false_and];exact zA8
 rw[h,Bool.not_true,Bool.and_false];exact zA8
theorem Wy {lt:α→α→Bool} {d:Array α} {b:Nat}:∀ (m i:Nat),b - i≤m→i≤b→i≤Go.Sort.scanSorted lt d b i∧Go.Sort.scanSorted lt d b i≤b
 | 0,i,h,hi=>by rw[pW (.inl (by omega))];exact ⟨zA1 _,hi⟩
 | m+1,i,h,hi=>by
  by_cases hp:i<b∧lt d[i]! d[i - 1]! = false
  ·rw[Qi hp.1 hp.2];have J4:=hp.1;have:=Wy (lt:=lt) (d:=d) (b:=b) m (i+1) (by omega) (by omega);exact ⟨by omega,this.2⟩
  rw[pW (by
   by_cases hq:i<b
   ·exact .inr (by have:=fun h=>hp ⟨hq,h⟩;simpa using this)
   exact .inl hq)]
  exact ⟨zA1 _,hi⟩
variable {c:α→List AC} {cf:α→α→Int} {cl N:Nat}
theorem Sp (hm:Cmp c cf cl N) (H:Hp) (id gen n:Nat) (d:Array α) (a b:Nat) (hs:Srt c H id gen n d) (hN:N≤H.nx) (Y5:a<b) (hb:b≤n) (hn:n≤65536):
  Con E2 151 [.one (.o (.sl id gen 0 n 2)),.one (.i .i64 a),.one (.i .i64 b),.one (.o (.clo cl []))] H (fun k=>k=id) fun r H'=>r=.one (.b (Go.Sort.partialInsertionSort (ltF cf) d a b).2)∧Srt c H' id gen n (Go.Sort.partialInsertionSort (ltF cf) d a b).1:=by
 have j5:=hm.bd;refine Con.of rfl fun lg=>?_;have hs:Srt c ⟨H.t,H.nx,lg⟩ id gen n d:=hs;have hN:N≤(⟨H.t,H.nx,lg⟩:Hp).nx:=hN;generalize (⟨H.t,H.nx,lg⟩:Hp)=H at hs hN ⊢;refine C1.body (E:=E2) (nt:=141) (res:=[.tmp 8]) Tryz.func151 rfl rfl rfl rfl rfl fun tm A0=>?_;have h0:=A0 0 _ rfl;have h1:=A0 1 _ rfl;have h2:=A0 2 _ rfl;have h3:=A0 3 _ rfl;clear A0;generalize E0:Go.Sort.partialInsertionSort (ltF cf) d a b=R;unfold Go.Sort.partialInsertionSort at E0;have fin:∀ (A:ab) (H3:Hp) (x:Bool) (dc:Array α),slot A.tm 8=.one (.b x)→A.dfr=[]→Fr (fun k=>k=id) H H3→Srt c H3 id gen n dc→(dc,x)=R→∃ w H4,an E2 [.tmp 8] (.ret,A,H3)=.ok [(w,H4)]∧Fr (fun k=>k=id) H H4∧∀ lg':List Nat,w=.one (.b R.2)∧Srt c ⟨H4.t,H4.nx,lg'⟩ id gen n R.1:=fun A H3 x dc h1 hd h3 h4 h5=>⟨_,H3,ah (.b x) (.inr rfl) hd h1,h3,fun _=>by rw[←h5];exact ⟨rfl,h4⟩⟩;have hid:=hs.lt;have R3:=zC0 a (by omega);replace E0:Hd _:=E0;refine zW tyF ?_;refine R1.cy fun K k1 k2 k3 k4=>?_;refine R1.loop (fun z A H3=>∃ (i:Nat) (dc:Array α),z≤5∧a+1≤i∧i≤b∧Fr (fun k=>k=id) H H3∧Srt c H3 id gen n dc∧Hd (Go.Sort.partialIns (ltF cf) a b z i dc=R)∧slot A.tm 0=.one ((.o (.sl id gen 0 n 2)))∧slot A.tm 1=.one (.i .i64 (a:Int))∧slot A.tm 2=.one (.i .i64 (b:Int))∧slot A.tm 3=.one ((.o (.clo cl [])))∧slot A.tm 9=.one (.i .i64 (i:Int))∧slot A.tm 10=.one (.i .i64 ((5 - z:Nat):Int))∧A.nt=141∧A.dfr=[]) ?_ 5
  ⟨a+1,d,zA1 _,zA1 _,Y5,Fr.refl _,hs,E0,zL⟩
 clear h0 h1 h2 h3 tm hs hid R3 E0 k3;rintro z A H3 ⟨i0,dc,hz5,I5,s_,f3,hs,hr,t0,t1,t2,t3,t9,t10,B0,C0⟩;have hid:=hs.lt;cases z with
 | zero=>
  have p9:¬(((5 - 0:Nat):Int))<5:=by decide
  have F0:(dc,false)=R:=hr;replace F0:Hd _:=F0;clear hr;refine zW tyF ?_;refine k2.out _ _ ?_;refine zW tyF ?_;exact fin _ _ false _ qp qe f3 hs F0.out
 | succ z=>
 have p9:(((5 - (z+1):Nat):Int))<5:=by omega
 have hwz:IntKind.i64.wrap (((5 - (z+1):Nat):Int)+1)=((5 - z:Nat):Int):=by rw[ao (by omega) (by omega)];omega
 have F0:=hr.out;rw[Go.Sort.partialIns] at F0;clear hr;obtain ⟨I,hI⟩:∃ I,Hd (Go.Sort.scanSorted (ltF cf) dc b i0=I):=⟨_,rfl⟩;obtain ⟨hI1,hI2⟩:=Wy (lt:=ltF cf) (d:=dc) (b - i0) i0 (zA1 _) s_;rw[hI.out] at F0 hI1 hI2;dsimp only at F0
 replace F0:Hd _:=F0;generalize hcz:((5 - (z+1):Nat):Int)=cz at p9 hwz t10;replace hcz:Hd _:=hcz;refine zW tyF ?_;refine R1.cy fun K2 q1 q2 q3 q4=>?_;refine R1.gX (fun B H4=>Fr (fun k=>k=id) H H4∧Srt c H4 id gen n dc∧slot B.tm 0=.one ((.o (.sl id gen 0 n 2)))∧slot B.tm 1=.one (.i .i64 (a:Int))∧slot B.tm 2=.one (.i .i64 (b:Int))∧slot B.tm 3=.one ((.o (.clo cl [])))∧slot B.tm 9=.one (.i .i64 (I:Int))∧slot B.tm 10=.one (.i .i64 (cz:Int))∧B.nt=141∧B.dfr=[]) (fun K3 m1 m2 m3=>?_) ?_
 ·refine R1.dZ fun K4 u1 u2 u3 u4=>?_;refine R1.loop (fun z A H4=>∃ ii:Nat,z=b - ii∧a+1≤ii∧ii≤b∧Fr (fun k=>k=id) H H4∧Srt c H4 id gen n dc∧Hd (Go.Sort.scanSorted (ltF cf) dc b ii=I)∧slot A.tm 0=.one ((.o (.sl id gen 0 n 2)))∧slot A.tm 1=.one (.i .i64 (a:Int))∧slot A.tm 2=.one (.i .i64 (b:Int))∧slot A.tm 3=.one ((.o (.clo cl [])))∧slot A.tm 9=.one (.i .i64 (ii:Int))∧slot A.tm 10=.one (.i .i64 (cz:Int))∧A.nt=141∧A.dfr=[]) ?_ (b - i0)
   ⟨i0,rfl,I5,s_,f3,hs,hI,zL⟩
  clear t0 t1 t2 t3 t9 t10 B0 C0 A hs f3 H3 hid hI u3 p9 hwz;rintro z A H4 ⟨ii,rfl,I5,s_,f4,hs,hr,t0,t1,t2,t3,t9,t10,B0,C0⟩;have hid:=hs.lt;by_cases hib:ii<b
  ·have hibi:(ii:Int)<(b:Int):=by omega
   obtain ⟨k,rfl⟩:∃ k,ii=k+1:=⟨ii - 1,by omega⟩;have hwk:IntKind.i64.wrap (((k+1:Nat):Int) - 1)=(k:Int):=by rw[ao (by omega) (by omega)];omega
   have R0:=hs.sz;obtain ⟨lo,P2,hg⟩:=hs.row;have lv:=hm.ltH (zA2 hN f4.nx);have W0:=hm.len;have b1:k+1<n:=by omega
   have b2:k<n:=by omega
   have d1:k+1<Array.size dc:=by omega
   have d2:k<Array.size dc:=by omega
   replace R0:Hd _:=R0;replace d1:Hd _:=d1;replace d2:Hd _:=d2;refine zG (qA tyF (qA (ixC b1) (qA (ixC b2) (rdQ hm.len d1.out d2.out)))) fun K hK=>?_;refine WE.con (hm.con H4 dc[k+1]! dc[k]! (zA2 hN f4.nx)) fun w' H5 g5 hq=>?_;subst hq;have V1:=hs.fr g5 zB2;have hg:=(g5.get _ hid zB2).trans hg;have hid:=zA0 hid g5.nx;have f5:=f4.then g5 fun _ h=>h.elim;by_cases T3:cf dc[k+1]! dc[k]!<0
   ·have N0:=hr.out;rw[pW (.inr (by show ltF cf dc[k+1]! dc[k]! = true;exact decide_eq_true T3))] at N0;clear hr;subst N0;refine zK tyF ?_;refine u2.out _ _ (m1.out _ _ ?_);exact ⟨f5,V1,zL⟩
   have N0:=hr.out;rw[Qi hib (by show ltF cf dc[k+1]! dc[k]! = false;exact decide_eq_false T3)] at N0;clear hr;replace N0:Hd _:=N0;have hwi:IntKind.i64.wrap (((k+1:Nat):Int)+1)=((k+1+1:Nat):Int):=by rw[ao (by omega) (by omega)];omega
   refine zK tyF ?_;refine R1.dZ fun K4 v1 v2 v3 v4=>?_;refine zW tyF ?_;refine v1.out _ _ ?_;exact ⟨b - (k+1+1),by omega,k+1+1,rfl,by omega,by omega,f5,V1,N0,zL⟩
  have hibi:¬(ii:Int)<(b:Int):=by omega
  have N0:=hr.out;rw[pW (.inl hib)] at N0;clear hr;subst N0;refine zW tyF ?_;refine u2.out _ _ (m1.out _ _ ?_);exact ⟨f4,hs,zL⟩
 clear t0 t1 t2 t3 t9 t10 B0 C0 A hs f3 hid hI H3 p9;rintro A H3 ⟨f3,hs,t0,t1,t2,t3,t9,t10,B0,C0⟩;have hid:=hs.lt;have J0:=F0.out;clear F0;by_cases hIb:I=b
 ·rw[zB0 hIb] at J0;have hIbi:((I:Int)==(b:Int))=true:=by rw[hIb];exact beq_self_eq_true _
  replace J0:Hd _:=J0;replace hIb:Hd _:=hIb;refine zW tyF ?_;exact q4.out _ _ (k4.out _ _ (fin _ _ true _ qp qe f3 hs J0.out))
 rw[zB1 hIb] at J0;have hIbi:((I:Int)==(b:Int))=false:=zB5 (by omega);have hwba:IntKind.i64.wrap ((b:Int) - (a:Int))=((b - a:Nat):Int):=by rw[ao (by omega) (by omega)];omega
 by_cases h50:b - a<50
 ·rw[zB0 h50] at J0;have h50i:((b - a:Nat):Int)<50:=by omega
  replace J0:Hd _:=J0;replace hIb:Hd _:=hIb;refine zW tyF ?_;exact q4.out _ _ (k4.out _ _ (fin _ _ false _ qp qe f3 hs J0.out))
 rw[zB1 h50] at J0;have h50i:¬((b - a:Nat):Int)<50:=by omega
 have hwI:IntKind.i64.wrap ((I:Int) - 1)=((I - 1:Nat):Int):=by rw[ao (by omega) (by omega)];omega
 have hwIa:IntKind.i64.wrap ((I:Int) - (a:Int))=((I - a:Nat):Int):=by rw[ao (by omega) (by omega)];omega
 have hwbI:IntKind.i64.wrap ((b:Int) - (I:Int))=((b - I:Nat):Int):=by rw[ao (by omega) (by omega)];omega
 have R0:=hs.sz;obtain ⟨lo,P2,hg⟩:=hs.row;have lv:=hm.ltH (zA2 hN f3.nx);have W0:=hm.len;have hIn:I<n:=by omega
 have hIn1:I - 1<n:=by omega
 have d1:I<dc.size:=by omega
 have d2:I - 1<dc.size:=by omega
 replace J0:Hd _:=J0;replace R0:Hd _:=R0;replace d1:Hd _:=d1;replace d2:Hd _:=d2;refine zW (qA tyF (qA (ixC hIn) (qA (ixC hIn1) (swQ hm.len d1.out d2.out)))) ?_;obtain ⟨e1,X4⟩:∃ e1,Hd (Go.Sort.swp dc I (I - 1)=e1):=⟨_,rfl⟩;have N2:=J0.out;rw[X4.out] at N2;obtain ⟨e2,B6⟩:∃ e2,Hd ((if I - a≥2 then Go.Sort.shiftDown (ltF cf) (I - 1) e1 else e1)=e2):=⟨_,rfl⟩;rw[B6.out] at N2;obtain ⟨e3,i'⟩:∃ e3,Hd ((if b - I≥2 then Go.Sort.shiftUp (ltF cf) b (I+1) e2 else e2)=e3):=⟨_,rfl⟩;rw[i'.out] at N2;clear J0;replace N2:Hd _:=N2;have D5:Srt c ((H3.mod id (.arr (eI c (dc.setIfInBounds I dc[I - 1]!)) 92 gen gen)).mod id (.arr (eI c (Go.Sort.swp dc I (I - 1))) 92 gen gen)) id gen n e1:=by
  rw[←X4.out];exact ⟨by rw[swp_size];exact R0.out,⟨gen,zA1 _,al rfl⟩,hid⟩
 have f4:Fr (fun k=>k=id) H ((H3.mod id (.arr (eI c (dc.setIfInBounds I dc[I - 1]!)) 92 gen gen)).mod id (.arr (eI c (Go.Sort.swp dc I (I - 1))) 92 gen gen)):=(f3.mod _ (.inr rfl)).mod _ (.inr rfl);refine R1.gen (fun A4 H4=>Fr (fun k=>k=id) H H4∧Srt c H4 id gen n e1∧slot A4.tm 0=.one ((.o (.sl id gen 0 n 2)))∧slot A4.tm 1=.one (.i .i64 (a:Int))∧slot A4.tm 2=.one (.i .i64 (b:Int))∧slot A4.tm 3=.one ((.o (.clo cl [])))∧slot A4.tm 9=.one (.i .i64 (I:Int))∧slot A4.tm 10=.one (.i .i64 (cz:Int))∧slot A4.tm 65=.one (.b (decide ((2:Int)≤((I - a:Nat):Int))))∧A4.nt=141∧A4.dfr=[]) ⟨f4,D5,zL⟩ ?_;clear t0 t1 t2 t3 t9 t10 B0 C0 A hs f3 hid hg P2 lo lv D5 f4 X4 R0 d1 d2 H3;rintro A H3 ⟨f3,hs,t0,t1,t2,t3,t9,t10,t65,B0,C0⟩;have hid:=hs.lt;refine R1.gX (fun B H4=>Fr (fun k=>k=id) H H4∧Srt c H4 id gen n e2∧slot B.tm 0=.one ((.o (.sl id gen 0 n 2)))∧slot B.tm 1=.one (.i .i64 (a:Int))∧slot B.tm 2=.one (.i .i64 (b:Int))∧slot B.tm 3=.one ((.o (.clo cl [])))∧slot B.tm 9=.one (.i .i64 (I:Int))∧slot B.tm 10=.one (.i .i64 (cz:Int))∧B.nt=141∧B.dfr=[]) (fun K3 m1 m2 m3=>?_) ?_
 ·by_cases hIa:2≤I - a
  case neg=>
   have hIai:¬(2:Int)≤((I - a:Nat):Int):=by omega
   have he:=B6.out;rw[zB1 hIa] at he;subst he;clear B6;refine zW tyF ?_;refine m1.out _ _ ?_;exact ⟨f3,hs,zL⟩
  have hIai:(2:Int)≤((I - a:Nat):Int):=by omega
  have he:=B6.out;rw[zB0 hIa] at he;clear B6;replace he:Hd _:=he;refine zW tyF ?_;refine R1.dZ fun K4 u1 u2 u3 u4=>?_;refine R1.loop (fun z A H4=>∃ (j:Nat) (dj:Array α),z=j∧j≤I - 1∧Fr (fun k=>k=id) H H4∧Srt c H4 id gen n dj∧Hd (Go.Sort.shiftDown (ltF cf) j dj=e2)∧slot A.tm 0=.one ((.o (.sl id gen 0 n 2)))∧slot A.tm 1=.one (.i .i64 (a:Int))∧slot A.tm 2=.one (.i .i64 (b:Int))∧slot A.tm 3=.one ((.o (.clo cl [])))∧slot A.tm 9=.one (.i .i64 (I:Int))∧slot A.tm 10=.one (.i .i64 (cz:Int))∧slot A.tm 11=.one (.i .i64 (j:Int))∧A.nt=141∧A.dfr=[]) ?_ (I - 1)
   ⟨I - 1,e1,rfl,zA1 _,f3,hs,he,zL⟩
  clear t0 t1 t2 t3 t9 t10 t65 B0 C0 A hs f3 hid he u3 H3;rintro j A H4 ⟨_,dj,rfl,hj,f4,hs,hr,t0,t1,t2,t3,t9,t10,t11,B0,C0⟩;have hid:=hs.lt;cases j with
  | zero=>
   have p9:¬(1:Int)≤((0:Nat):Int):=by decide
   have N0:dj=e2:=hr;subst N0;clear hr;refine zW tyF ?_;refine u2.out _ _ (m1.out _ _ ?_);exact ⟨f4,hs,zL⟩
  | succ k=>
   have p9:(1:Int)≤((k+1:Nat):Int):=by omega
   have hwk:IntKind.i64.wrap (((k+1:Nat):Int) - 1)=(k:Int):=by rw[ao (by omega) (by omega)];omega
   have R0:=hs.sz;obtain ⟨lo,P2,hg⟩:=hs.row;have lv:=hm.ltH (zA2 hN f4.nx);have b1:k+1<n:=by omega
   have b2:k<n:=by omega
   have d1:k+1<Array.size dj:=by omega
   have d2:k<Array.size dj:=by omega
   replace R0:Hd _:=R0;replace d1:Hd _:=d1;replace d2:Hd _:=d2;refine zW tyF ?_;refine R1.cy fun K5 v1 v2 v3 v4=>?_;refine zG (qA tyF (qA (ixC b1) (qA (ixC b2) (rdQ hm.len d1.out d2.out)))) fun K hK=>?_;refine WE.con (hm.con H4 dj[k+1]! dj[k]! (zA2 hN f4.nx)) fun w' H5 g5 hq=>?_;subst hq;have V1:=hs.fr g5 zB2;have hg:=(g5.get _ hid zB2).trans hg;have hid:=zA0 hid g5.nx;have lv:=hm.ltH (zA2 hN (zA2 f4.nx g5.nx));have f5:=f4.then g5 fun _ h=>h.elim;have N0:=hr.out;rw[Go.Sort.shiftDown] at N0;by_cases T3:cf dj[k+1]! dj[k]!<0
   ·rw[zB1 (by unfold ltF;rw[decide_eq_true T3];decide)] at N0;clear hr hs V1;replace N0:Hd _:=N0;refine zK (qA tyF (qA (ixC b1) (qA (ixC b2) (swQ hm.len d1.out d2.out)))) ?_;refine v1.out _ _ ?_;refine zW tyF ?_;exact ⟨k,zA6 _,k,Go.Sort.swp dj (k+1) k,rfl,by omega,(f5.mod _ (.inr rfl)).mod _ (.inr rfl),⟨by rw[swp_size];exact R0.out,⟨gen,zA1 _,al rfl⟩,hid⟩,N0,zL⟩
   rw[zB0 (by unfold ltF;rw[decide_eq_false T3];rfl)] at N0;subst N0;clear hr;refine zK tyF ?_;refine v3.out _ _ _ (by decide) (u2.out _ _ (m1.out _ _ ?_));exact ⟨f5,V1,zL⟩
 clear t0 t1 t2 t3 t9 t10 t65 B0 C0 A hs f3 hid B6 H3;rintro A H3 ⟨f3,hs,t0,t1,t2,t3,t9,t10,B0,C0⟩;have hid:=hs.lt;refine zW tyF ?_;refine R1.Ys (fun B H4=>Fr (fun k=>k=id) H H4∧Srt c H4 id gen n e3∧slot B.tm 0=.one ((.o (.sl id gen 0 n 2)))∧slot B.tm 1=.one (.i .i64 (a:Int))∧slot B.tm 2=.one (.i .i64 (b:Int))∧slot B.tm 3=.one ((.o (.clo cl [])))∧slot B.tm 9=.one (.i .i64 (I:Int))∧slot B.tm 10=.one (.i .i64 (cz:Int))∧B.nt=141∧B.dfr=[]) (fun K3 m1 m2 m3=>?_) ?_
 ·by_cases hIa:2≤b - I
  case neg=>
   have hIai:¬(2:Int)≤((b - I:Nat):Int):=by omega
   have he:=i'.out;rw[zB1 hIa] at he;subst he;clear i';refine zW tyF ?_;refine m1.out _ _ ?_;exact ⟨f3,hs,zL⟩
  have hIai:(2:Int)≤((b - I:Nat):Int):=by omega
  have hwI1:=zC0 I (by omega);have he:=i'.out;rw[zB0 hIa] at he;clear i';replace he:Hd _:=he;refine zW tyF ?_;refine R1.dZ fun K4 u1 u2 u3 u4=>?_;refine R1.loop (fun z A H4=>∃ (j:Nat) (dj:Array α),z=b - j∧1≤j∧j≤b∧Fr (fun k=>k=id) H H4∧Srt c H4 id gen n dj∧Hd (Go.Sort.shiftUp (ltF cf) b j dj=e3)∧slot A.tm 0=.one ((.o (.sl id gen 0 n 2)))∧slot A.tm 1=.one (.i .i64 (a:Int))∧slot A.tm 2=.one (.i .i64 (b:Int))∧slot A.tm 3=.one ((.o (.clo cl [])))∧slot A.tm 9=.one (.i .i64 (I:Int))∧slot A.tm 10=.one (.i .i64 (cz:Int))∧slot A.tm 12=.one (.i .i64 (j:Int))∧A.nt=141∧A.dfr=[]) ?_ (b - (I+1))
   ⟨I+1,e2,rfl,by omega,by omega,f3,hs,he,zL⟩
  clear t0 t1 t2 t3 t9 t10 B0 C0 A hs f3 hid he u3 H3 hwI1;rintro z A H4 ⟨j,dj,rfl,C_,hj,f4,hs,hr,t0,t1,t2,t3,t9,t10,t12,B0,C0⟩;have hid:=hs.lt;have N0:=hr.out;rw[Go.Sort.shiftUp] at N0;by_cases hjb:j<b
  case neg=>
   have p9:¬(j:Int)<(b:Int):=by omega
   rw[zB1 hjb] at N0;subst N0;clear hr;refine zW tyF ?_;refine u2.out _ _ (m1.out _ _ ?_);exact ⟨f4,hs,zL⟩
  have p9:(j:Int)<(b:Int):=by omega
  rw[zB0 hjb] at N0;obtain ⟨k,rfl⟩:∃ k,j=k+1:=⟨j - 1,by omega⟩;have hwk:IntKind.i64.wrap (((k+1:Nat):Int) - 1)=(k:Int):=by rw[ao (by omega) (by omega)];omega
  have hwk1:IntKind.i64.wrap (((k+1:Nat):Int)+1)=((k+1+1:Nat):Int):=by rw[ao (by omega) (by omega)];omega
  have R0:=hs.sz;obtain ⟨lo,P2,hg⟩:=hs.row;have lv:=hm.ltH (zA2 hN f4.nx);have b1:k+1<n:=by omega
  have b2:k<n:=by omega
  have d1:k+1<Array.size dj:=by omega
  have d2:k<Array.size dj:=by omega
  replace R0:Hd _:=R0;replace d1:Hd _:=d1;replace d2:Hd _:=d2;replace N0:Hd ((if (!ltF cf dj[k+1]! dj[k]!)=true then dj else Go.Sort.shiftUp (ltF cf) b (k+1+1) (Go.Sort.swp dj (k+1) k))=e3):=N0;clear hr;refine zW tyF ?_;refine R1.cy fun K5 v1 v2 v3 v4=>?_;refine zG (qA tyF (qA (ixC b1) (qA (ixC b2) (rdQ hm.len d1.out d2.out)))) fun K hK=>?_;refine WE.con (hm.con H4 dj[k+1]! dj[k]! (zA2 hN f4.nx)) fun w' H5 g5 hq=>?_;subst hq;have V1:=hs.fr g5 zB2;have hg:=(g5.get _ hid zB2).trans hg;have hid:=zA0 hid g5.nx;have lv:=hm.ltH (zA2 hN (zA2 f4.nx g5.nx));have f5:=f4.then g5 fun _ h=>h.elim;have u6:=N0.out;clear N0;by_cases T3:cf dj[k+1]! dj[k]!<0
  ·rw[zB1 (by unfold ltF;rw[decide_eq_true T3];decide)] at u6;clear hs V1;replace u6:Hd _:=u6;refine zK (qA tyF (qA (ixC b1) (qA (ixC b2) (swQ hm.len d1.out d2.out)))) ?_;refine v1.out _ _ ?_;refine zW tyF ?_;exact ⟨b - (k+1+1),by omega,k+1+1,Go.Sort.swp dj (k+1) k,rfl,by omega,by omega,(f5.mod _ (.inr rfl)).mod _ (.inr rfl),⟨by rw[swp_size];exact R0.out,⟨gen,zA1 _,al rfl⟩,hid⟩,u6,zL⟩
  rw[zB0 (by unfold ltF;rw[decide_eq_false T3];rfl)] at u6;subst u6;refine zK tyF ?_;refine v3.out _ _ _ (by decide) (u2.out _ _ (m1.out _ _ ?_));exact ⟨f5,V1,zL⟩
 clear t0 t1 t2 t3 t9 t10 B0 C0 A hs f3 hid i' H3;rintro A H3 ⟨f3,hs,t0,t1,t2,t3,t9,t10,B0,C0⟩;replace hs:Hd _:=hs;refine q1.out _ _ ?_;refine zW tyF ?_;exact ⟨z,zA6 _,I,e3,by omega,by omega,hI2,f3,hs.out,N2,zL⟩
end
end Go.Proofs.YtnhbkodnmkojpaaGreat
