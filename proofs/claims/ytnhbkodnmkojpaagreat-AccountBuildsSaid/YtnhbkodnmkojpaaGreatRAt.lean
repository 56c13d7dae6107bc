/- A part of the proof: BkEn4, BkRr2, BkBu1, BkBuEnd, BkBuHold. No conditions. -/
import Derived.Test.YtnhbkodnmkojpaaGreatRAs
set_option maxRecDepth 100000
set_option maxHeartbeats 64000000
set_option linter.unusedVariables false
set_option linter.unusedSimpArgs false
namespace Go.Proofs.YtnhbkodnmkojpaaGreat
open Go Go.Eng
theorem Fp:ak Tryz.prog 13=true:=by kernel_rfl
theorem lP.mono {l:List Lot} {i j:Nat} (h:lP l i) (L4:i≤j):lP l j:=⟨h.pw,fun p hp=>by have:=h.bd p hp;omega,by have:=h.len;omega⟩
structure tD (gs:List Gd) (acc:List Lot) (sums:List Int):Prop where
 len:sums.length=gs.length
 at_:∀ s,0≤bp 0 gs s→sums.getD (bp 0 gs s).toNat 0=amt acc s
 nm:∀ p∈acc,0≤bp 0 gs p.1
theorem tD.nil (gs:List Gd):tD gs [] (List.replicate gs.length 0):=⟨List.length_replicate,fun s h=>by
 rw[List.getD_eq_getElem?_getD,List.getElem?_replicate];split <;> rfl,fun _ h=>absurd h List.not_mem_nil⟩
theorem EO {gs:List Gd} {s t:List UInt8} (hs:0≤bp 0 gs s) (h:bp 0 gs s=bp 0 gs t):s=t:=by
 obtain ⟨i,h1,h2,h3⟩:=jD hs;obtain ⟨j,k1,k2,k3⟩:=jD (s:=t) (by rw[←h];exact hs);have e:i=j:=by omega
 subst e;rw[h2] at k2;rw[←h3,←k3,Option.some.inj k2]
theorem tD.add {gs:List Gd} {acc:List Lot} {sums:List Int} (h:tD gs acc sums) {s:List UInt8} {i:Nat} (hi:bp 0 gs s=(i:Int)) (D0:i<gs.length) (n:Int):tD gs (jU acc s n) (sums.set i (amt acc s+n)):=by
 refine ⟨by rw[List.length_set];exact h.len,fun t ht=>?_,fun p hp=>?_⟩
 ·rw[HT,List.getD_eq_getElem?_getD];by_cases e:s=t
  ·subst e;rw[zB0 rfl,hi,Int.toNat_natCast,List.getElem?_set_self (by rw[h.len];exact D0)];rfl
  have Z0:i≠(bp 0 gs t).toNat:=fun hh=>e (EO (gs:=gs) (by omega) (by omega));rw[zB1 e,List.getElem?_set_ne Z0,Int.add_zero,←List.getD_eq_getElem?_getD];exact h.at_ t ht
 rcases FC s n acc p hp with hk|⟨q,hq,e⟩
 ·rw[hk];omega
 rw[←e];exact h.nm q hq
theorem NY (x:Cl×Int) (l:List (Cl×Int)):mP (x::l)=if x.2=1 then x.1::mP l else mP l:=by
 unfold mP;rw[List.filter_cons];by_cases hx:x.2=1
 ·rw[zB0 (decide_eq_true hx),zB0 hx];rfl
 rw[zB1 (by simpa using hx),zB1 hx]
structure kM (gs:List Gd) (acc:List Lot) (m:Nat) (out:List Lot):Prop where
 srt:qg out
 amt_:∀ s,amt out s=if 0≤bp 0 gs s∧bp 0 gs s<(m:Int) then amt acc s else 0
 len:out.length≤m
 sm:∀ s,0≤bp 0 gs s→bp 0 gs s<(m:Int)→amt acc s≤1099511627776
theorem kM.nil (gs:List Gd) (acc:List Lot):kM gs acc 0 []:=⟨trivial,fun s=>by rw[zB1 (fun h=>by omega)];rfl,zA1 _,fun s h1 h2=>by omega⟩
theorem gK {gs:List Gd} {s:List UInt8} {m:Nat} (hs:bp 0 gs s=(m:Int)) (t:List UInt8):(0≤bp 0 gs t∧bp 0 gs t<((m+1:Nat):Int))↔((0≤bp 0 gs t∧bp 0 gs t<(m:Int))∨t=s):=by
 constructor
 ·rintro ⟨h1,h2⟩;by_cases h:bp 0 gs t<(m:Int)
  ·exact .inl ⟨h1,h⟩
  exact .inr (EO h1 (by omega))
 rintro (⟨h1,h2⟩|rfl)
 ·omega
 omega
theorem kM.skip {gs:List Gd} {acc:List Lot} {m:Nat} {out:List Lot} (h:kM gs acc m out) {s:List UInt8} (hs:bp 0 gs s=(m:Int)) (h0:amt acc s=0):kM gs acc (m+1) out:=by
 refine ⟨h.srt,fun t=>?_,by have:=h.len;omega,fun t h1 h2=>?_⟩
 ·rw[h.amt_ t];by_cases hc:0≤bp 0 gs t∧bp 0 gs t<(m:Int)
  ·rw[zB0 hc,zB0 ((gK hs t).2 (.inl hc))]
  rw[zB1 hc];by_cases ht:t=s
  ·rw[ht,h0];split <;> rfl
  rw[zB1 fun hh=>((gK hs t).1 hh).elim hc ht]
 rcases (gK hs t).1 ⟨h1,h2⟩ with hh|rfl
 ·exact h.sm t hh.1 hh.2
 omega
theorem kM.ins {gs:List Gd} {acc:List Lot} {m:Nat} {out:List Lot} (h:kM gs acc m out) {s:List UInt8} (hs:bp 0 gs s=(m:Int)) (h1:0<amt acc s) (h2:amt acc s≤1099511627776):kM gs acc (m+1) (mc out (s,amt acc s)):=by
 have hn:∀ y∈out,y.1≠s:=fun y hy e=>by
  have h3:=h.amt_ s;rw[zB1 (fun hh=>by omega)] at h3;have pw:∀ l:List Lot,qg l→List.Pairwise (fun x y:Lot=>x.1≠y.1) l:=fun l=>by
   induction l with
   | nil=>intro _;exact List.Pairwise.nil
   | cons a l ih=>intro hl;exact List.pairwise_cons.2 ⟨fun b hb=>Ey (hl.1 b hb),ih hl.2.2⟩
  have nz:∀ l:List Lot,qg l→∀ y∈l,y.2≠0:=fun l=>by
   induction l with
   | nil=>intro _ y hy;cases hy
   | cons a l ih=>
    intro hl y hy;rcases List.mem_cons.1 hy with rfl|hy
    ·exact hl.2.1
    exact ih hl.2.2 y hy
  have h4:=lG (pw out h.srt) hy;rw[e,h3] at h4;exact nz out h.srt y hy h4.symm
 refine ⟨wu _ (by show amt acc s≠0;omega) out h.srt hn,fun t=>?_,by rw[qP];have:=h.len;omega,fun t g1 g2=>?_⟩
 ·rw[xh _ t out h.srt hn,h.amt_ t];show (if s=t then amt acc s else _)=_;by_cases ht:s=t
  ·rw[zB0 ht,zB0 ((gK hs t).2 (.inr ht.symm)),ht]
  rw[zB1 ht];by_cases hc:0≤bp 0 gs t∧bp 0 gs t<(m:Int)
  ·rw[zB0 hc,zB0 ((gK hs t).2 (.inl hc))]
  rw[zB1 hc,zB1 fun hh=>((gK hs t).1 hh).elim hc fun e=>ht e.symm]
 rcases (gK hs t).1 ⟨g1,g2⟩ with hh|rfl
 ·exact h.sm t hh.1 hh.2
 exact h2
theorem kM.fin {gs:List Gd} {acc:List Lot} {out:List Lot} {sums:List Int} (h:kM gs acc gs.length out) (hr:tD gs acc sums) (hp:List.Pairwise (fun x y:Lot=>x.1≠y.1) acc):mG acc=false∧qg out∧∀ s,amt out s=amt acc s:=by
 have F3:∀ s,0≤bp 0 gs s→bp 0 gs s<(gs.length:Int):=fun s hs=>by
  obtain ⟨i,e,hi,_⟩:=jD hs;have:=(List.getElem?_eq_some_iff.1 hi).1;omega
 refine ⟨?_,h.srt,fun s=>?_⟩
 ·unfold mG;rw[List.any_eq_false];intro p E4;have h1:=hr.nm p E4;have h2:=h.sm p.1 h1 (F3 p.1 h1);rw[lG hp E4] at h2;simp;omega
 rw[h.amt_ s];by_cases hs:0≤bp 0 gs s
 ·rw[zB0 ⟨hs,F3 s hs⟩]
 rw[zB1 fun hh=>hs hh.1];exact (su fun p E4 e=>hs (by rw[←e];exact hr.nm p E4)).symm
theorem Xk {acc:List Lot} {s:List UInt8} (hp:List.Pairwise (fun x y:Lot=>x.1≠y.1) acc) (h:(1099511627776:Int)<amt acc s):mG acc=true:=by
 obtain ⟨p,J4,rfl⟩:=Uw (show amt acc s≠0 by omega);rw[lG hp J4] at h;exact List.any_eq_true.2 ⟨p,J4,decide_eq_true h⟩
theorem Ca (H:Hp) (k gv v:AC) (o:Option (List Lad)) (gs:List Gd) (nm:List UInt8) (cs:List Cs) (hk:ql H k o) (G3:∀ ls,o=some ls→(∀ x∈ls,x.2.length≤1000000)∧ls.length≤1000000) (hg:SlG H gv gs) (hv:dI H v cs) (hB:TbB cs) (hO:∀ x∈gs,x.2.2.length≤4611686018427387904):
  Con E2 13 [.one k,.one gv,.agg [.o (.str nm),v]] H (fun _=>False) fun r H'=>∃ c out,r=.tup [(false,[c]),(false,[.i .i64 (tM o gs (nm,cs)).2])]∧SlL H' c out∧pB (tM o gs (nm,cs)) out:=by
 refine Con.of rfl fun lg=>?_;have hk:ql ⟨H.t,H.nx,lg⟩ k o:=by cases o <;> exact hk
 have hg:SlG ⟨H.t,H.nx,lg⟩ gv gs:=hg;have hv:dI ⟨H.t,H.nx,lg⟩ v cs:=hv;generalize (⟨H.t,H.nx,lg⟩:Hp)=H at hk hg hv ⊢;refine C1.body (E:=E2) (nt:=139) (res:=[.tmp 6,.tmp 7]) Tryz.func13 rfl rfl rfl rfl rfl fun tm A0=>?_;have h0:=A0 0 _ rfl;have h1:=A0 1 _ rfl;have h2:=A0 2 _ rfl;clear A0;generalize M1:tM o gs (nm,cs)=e0;have fin:∀ (c:AC) (out:List Lot) (er:Int) (A:ab) (H9:Hp),slot A.tm 6=.one c→slot A.tm 7=.one (.i .i64 er)→A.dfr=[]→Gr H H9→er=e0.2→SlL H9 c out→pB e0 out →
   ∃ w H4,an E2 [.tmp 6,.tmp 7] (.ret,A,H9)=.ok [(w,H4)]∧Gr H H4∧∀ lg:List Nat,∃ c out,w=.tup [(false,[c]),(false,[.i .i64 e0.2])]∧SlL ⟨H4.t,H4.nx,lg⟩ c out∧pB e0 out:=fun c out er A H9 h6 h7 hd P0 hr hs he=>
  ⟨_,H9,aQ c (.i .i64 er) (.inr rfl) hd h6 h7,P0,fun lg=>⟨c,out,by rw[hr],hs,he⟩⟩
 have lv:=hv.lt;replace fin:Hd _:=fin;replace M1:Hd _:=M1;refine zG tyF fun K hK=>?_;refine hK.out _ _ ?_;refine R1.gen (fun A1 H1=>Gr H H1∧H.nx<H1.nx∧H1.get H.nx=some (.arr [.o (.str nm),v] 26 0 0)∧slot A1.tm 0=.one (k)∧slot A1.tm 1=.one (gv)∧slot A1.tm 5=.one ((.o (.ptr H.nx 0 0 2)))∧slot A1.tm 6=.one ((.o .nilS))∧slot A1.tm 7=.one (.i .i64 (0:Int))∧A1.nt=139∧A1.dfr=[])
  ⟨(Fr.refl _).new _,zA6 _,aB rfl,zL⟩ ?_
 clear h0 h1 h2 tm lv hK K;rintro A1 H1 ⟨g1,n1,r0,t0,t1,t5,t6,t7,B0,C0⟩;obtain ⟨N,hN⟩:∃ N,N=H.nx:=⟨_,rfl⟩;rw[←hN] at n1 r0 t5;have hNl:H.nx≤N:=Nat.le_of_eq hN.symm;clear hN;have Q3:=hk.gr g1;have M4:=hg.gr g1;have B2:=hv.gr g1;clear hg hv hk;refine zG (qA tyF Bh) fun K hK=>?_;refine WE.con (xu H1 k gv v o gs nm cs Q3 G3 M4 B2 hB hO) fun w2 H2 g2 ⟨a,b,W1,hca,hcb⟩=>?_;subst W1;have r0:=(g2.get _ n1 zB2).trans r0;have n1:=zA0 n1 g2.nx;have U4:=Q3.gr g2;have X9:=M4.gr g2;have X1:=B2.gr g2;have g2:=g1.gr g2;have la:=hca.lt;have lb:=hcb.lt;clear Q3 M4 B2;refine zE tyF ?_;refine R1.gen (fun A3 H3=>Gr H H3∧Gr H2 H3∧H2.nx<H3.nx∧H3.get H2.nx=some (.arr [a,b] 37 0 0)∧slot A3.tm 0=.one (k)∧slot A3.tm 1=.one (gv)∧slot A3.tm 5=.one ((.o (.ptr N 0 0 2)))∧slot A3.tm 6=.one ((.o .nilS))∧slot A3.tm 7=.one (.i .i64 (0:Int))∧slot A3.tm 8=.one ((.o (.ptr H2.nx 0 0 2)))∧slot A3.tm 9=.one ((.i .i64 (eY o gs (nm,cs))))∧A3.nt=139∧A3.dfr=[])
  ⟨(g2.new _).mod _ (.inl g2.nx),((Fr.refl _).new _).mod _ (.inl (zA1 _)),zA6 _,al rfl,zL⟩ ?_
 clear t0 t1 t5 t6 t7 B0 C0 A1 la lb hK K;rintro A3 H3 ⟨g3,g23,n3,rP,t0,t1,t5,t6,t7,t8,t9,B0,C0⟩;have r0:=(g23.get _ n1 zB2).trans r0;have n1:=zA0 n1 g23.nx;obtain ⟨P,hP⟩:∃ P,P=H2.nx:=⟨_,rfl⟩;rw[←hP] at n3 rP t8;clear hP;have B_:=U4.gr g23;have q9:=hca.gr g23;have hg3:=X9.gr g23;have G5:=X1.gr g23;clear U4 hca hcb X9 X1 g2 g23;by_cases J3:eY o gs (nm,cs)=0
 case neg=>
  have hr:=M1.out;unfold tM at hr;rw[zB0 J3] at hr;have e1:eY o gs (nm,cs)=e0.2:=by rw[←hr]
  have e2:pB e0 []:=by rw[←hr];exact ⟨fun _=>rfl,fun h=>absurd h J3,Nat.zero_le _⟩
  have X5:(eY o gs (nm,cs)==0)=false:=zB5 J3;generalize eY o gs (nm,cs)=eb at t9 e1 X5;clear hr J3;replace e1:Hd _:=e1;refine zW tyF ?_;exact fin.out (.o .nilS) [] eb _ _ qp qp qe g3 e1.out SlL.nil e2
 have X5:((0:Int)==0)=true:=rfl;rw[J3] at t9;obtain ⟨hKok,hKl⟩:=nZ J3;have hgl:=vp (pA J3).1;have F7:=fun k g h=>Tg (pA J3).1 k g h;have W0:(js o gs (nm,cs)).1=(fQ o gs (nm,cs)).map Prod.fst:=rfl;rw[W0] at q9;have hr:=M1.out;unfold tM at hr;rw[zB1 (fun h=>h J3)] at hr;obtain ⟨ls,rfl⟩:∃ ls,o=some ls:=by
  cases o with
  | none=>exact absurd J3 (by rw[OM];decide)
  | some ls=>exact ⟨ls,rfl⟩
 obtain ⟨hbl1,hbl2⟩:=G3 _ rfl;replace B_:RBk H3 k ls:=B_;clear W0 J3 M1;generalize fQ (some ls) gs (nm,cs)=kl at q9 hKok hKl hr;have Q_:∀ (i:Nat) (x:Cl×Int),kl[i]?=some x→(kl.map Prod.fst)[i]?=some x.1:=fun i x h=>by rw[List.getElem?_map,h];rfl
 have g_:(kl.map Prod.fst).length=kl.length:=List.length_map ..;generalize kl.map Prod.fst=lc at q9 Q_ g_;generalize I_:qJ (some ls) (mP kl) []=tot at hr;have lg3:=hg3.lt;have llg3:=hg3.len;obtain ⟨z,hz,x_⟩:∃ z,ax Tryz.prog 3=some z∧(ofValue z).cells=[.i .i64 0]:=by
  have h:=oV;cases hz:ax Tryz.prog 3 with
  | none=>rw[hz] at h;cases h
  | some z=>rw[hz] at h;exact ⟨z,rfl,Option.some.inj h⟩
 have hmk:dR Tryz.prog H3 57 (.one (.i .i64 (gs.length:Int))) (.one (.i .i64 (gs.length:Int)))=.val (.one (.o (.sl H3.nx 0 0 gs.length 1))) (H3.new (.arr ((List.replicate gs.length (0:Int)).map (AC.i .i64)) 3 0 0)):=by
  rw[Jr fv sA hz (by rw[x_];rfl) (by omega),x_,ML,List.map_replicate]
 clear hz x_ z;replace Q_:Hd _:=Q_;replace g_:Hd _:=g_;replace hKok:Hd _:=hKok;replace F7:Hd _:=F7;refine zW (qA tyF hmk) ?_;have hH3:H.nx≤H3.nx:=g3.nx;refine R1.cy fun K k1 k2 k3 k4=>?_;refine R1.loop (fun z A H5=>∃ (i:Nat) (acc:List Lot) (sums:List Int),z=kl.length - i∧i≤kl.length∧Hd (qJ (some ls) (mP (kl.drop i)) acc=tot)∧lP acc i∧tD gs acc sums∧Gr H H5∧Gr H3 H5∧H3.nx<H5.nx∧H5.get H3.nx=some (.arr (sums.map (AC.i .i64)) 3 0 0)∧slot A.tm 0=.one (k)∧slot A.tm 1=.one (gv)∧slot A.tm 5=.one ((.o (.ptr N 0 0 2)))∧slot A.tm 8=.one ((.o (.ptr P 0 0 2)))∧slot A.tm 10=.one ((.o (.sl H3.nx 0 0 gs.length 1)))∧slot A.tm 11=.one (.i .i64 (i:Int))∧A.nt=139∧A.dfr=[]) ?_ kl.length
  ⟨0,[],_,rfl,Nat.zero_le _,I_,lP.nil,tD.nil gs,g3.new _,(Fr.refl _).new _,zA6 _,aB rfl,zL⟩
 clear t0 t1 t5 t6 t7 t8 t9 B0 C0 A3 k3 hmk X5 lg3 llg3 I_;rintro z A H5 ⟨i,acc,sums,rfl,hi,hac,p7,R6,g5,g35,n5,rS,t0,t1,t5,t8,t10,t11,B0,C0⟩;have a_:=q9.gr g35;have l1:=a_.len;have l2:=a_.lt;rw[g_.out] at l1;have rP5:=(g35.get _ n3 zB2).trans rP;have rN5:=(g35.get _ n1 zB2).trans r0;have nP5:=zA0 n3 g35.nx;have nN5:=zA0 n1 g35.nx;refine zW tyF ?_;refine zI tyF (fun hc=>?_) (fun hc=>?_)
 ·have D0:i<kl.length:=by omega
  have ex:kl[i]?=some kl[i]:=zB4 D0;have Q0:kl.drop i=kl[i]::kl.drop (i+1):=List.drop_eq_getElem_cons D0;have B1:kl.take (i+1)=kl.take i++[kl[i]]:=List.take_succ_eq_append_getElem D0;have G0:kl[i]∈kl:=List.getElem_mem D0;generalize kl[i]=x at ex Q0 B1 G0;have V0:=zC0 i (by omega);obtain ⟨⟨j,c,e1,e2,e3,e4,e5,e6,e7,e8,e9⟩,e10⟩:=hKok.out x G0;have hjl:j<cs.length:=(List.getElem?_eq_some_iff.1 e2).1;have exc:=Q_.out i x ex;have hltc:i<lc.length:=by rw[g_.out];exact D0
  have hv5:=G5.gr g35;have lv5:=hv5.lt;have Q2:=hac.out;rw[Q0,NY] at Q2;replace Q2:Hd _:=Q2;obtain ⟨id,g,off,cells,rfl,hid,P0,L0⟩:=a_.open (by omega);obtain ⟨p,q,hx⟩:=L0 i x.1 exc;obtain ⟨vid,vg,voff,vcells,rfl,c_,hvgr,R7⟩:=hv5.open (by omega);obtain ⟨cp,cq,cw,hcx⟩:=R7 j c e2;have y1:=hx.all;have y2:=hx.le;have hp:=hx.of1;have hq:=hx.of2;have lp:=hp.lt;have lq:=hq.lt;have w1:=hcx.f3;rw[e3] at w1;have w2:voff+j*8+3+1≤vcells.length:=by have:=hcx.le;omega
  obtain ⟨⟨x1,x2,x3,x4⟩,kd⟩:=x;replace e1:x1=(j:Int):=e1;subst e1;replace y1:(cells.drop (off+i*5)).take 5=[.i .i64 (j:Int),.o (.str x2),.o (.str x3),p,q]:=y1;replace w1:(vcells.drop (voff+j*8+3)).headD (.b false)=.i .i64 kd:=w1;replace hp:aM H5 p x4.1:=hp;replace hq:aM H5 q x4.2:=hq;replace Q2:Hd (qJ (some ls) (if kd=1 then ((j:Int),x2,x3,x4)::mP (kl.drop (i+1)) else mP (kl.drop (i+1))) acc=tot):=Q2;replace e5:0≤bp 0 gs x2:=e5;replace e10:fT (some ls) x3=0:=e10;have hrc:iy (some ls) ((j:Int),x2,x3,x4)=eu (dW (some ls) x3).1 (dW (some ls) x3).2 x4:=zB1 (fun h=>h e10);replace hrc:Hd _:=hrc;replace e10:Hd _:=e10;replace e5:Hd _:=e5;clear L0 R7 hx hcx Q0 ex exc e2 e3 e4 e6 e7 e8 e9 G0 B1 hac a_ hv5;refine zW tyF ?_;refine R1.cy fun K2 q1 q2 q3 q4=>?_;refine zG (qA tyF (ixC hltc)) fun K3 l5=>?_;refine l5.out _ _ ?_;refine R1.gen (fun A6 H6=>Gr H H6∧Gr H3 H6∧Gr H5 H6∧H5.nx<H6.nx∧H6.get H5.nx=some (.arr [.i .i64 (j:Int),.o (.str x2),.o (.str x3),p,q] 84 0 0)∧slot A6.tm 0=.one (k)∧slot A6.tm 1=.one (gv)∧slot A6.tm 5=.one ((.o (.ptr N 0 0 2)))∧slot A6.tm 8=.one ((.o (.ptr P 0 0 2)))∧slot A6.tm 10=.one ((.o (.sl H3.nx 0 0 gs.length 1)))∧slot A6.tm 11=.one (.i .i64 (i:Int))∧slot A6.tm 12=.one ((.o (.ptr H5.nx 0 0 5)))∧A6.nt=139∧A6.dfr=[])
   ⟨(g5.new _).mod _ (.inl g5.nx),(g35.new _).mod _ (.inl g35.nx),((Fr.refl _).new _).mod _ (.inl (zA1 _)),zA6 _,al rfl,zL⟩ ?_
  clear t0 t1 t5 t8 t10 t11 B0 C0 A y1 y2 l1 l2 lp lq P0 hid l5 K3;rintro A H6 ⟨g6,g36,g56,n6,rC,t0,t1,t5,t8,t10,t11,t12,B0,C0⟩;have rP5:=(g56.get _ nP5 zB2).trans rP5;have nP5:=zA0 nP5 g56.nx;have rN5:=(g56.get _ nN5 zB2).trans rN5;have nN5:=zA0 nN5 g56.nx;have rS:=(g56.get _ n5 zB2).trans rS;have n5:=zA0 n5 g56.nx;have hp6:=hp.gr g56;have hq6:=hq.gr g56;have lv6:ltV _ H6.nx:=fun j hj=>zA0 (lv5 j hj) g56.nx;have hvid6:=zA0 c_ g56.nx;have hvgr6:rowOf (H6.get vid) vg=some vcells:=by rw[g56.get _ c_ zB2];exact hvgr
  obtain ⟨C,hC⟩:∃ C,C=H5.nx:=⟨_,rfl⟩;rw[←hC] at n6 rC t12;clear hC c_ hvgr lv5 hp hq g5 g35 g56;by_cases hkd:kd=1
  case neg=>
   have r8:(kd==1)=false:=zB5 hkd;have O3:=Q2.out;rw[zB1 hkd] at O3;replace O3:Hd _:=O3;clear hkd Q2;refine zW (qA tyF (ixC hjl)) ?_;refine q2.out _ _ ?_;refine zW tyF ?_;exact ⟨kl.length - (i+1),by omega,i+1,acc,sums,rfl,D0,O3,p7.mono (Nat.le_succ i),R6,g6,g36,n5,rS,zL⟩
  subst hkd;have r8:((1:Int)==1)=true:=rfl;have O3:=Q2.out;rw[zB0 rfl,qJ] at O3;replace O3:Hd _:=O3;clear Q2;have hk6:=B_.gr g36;refine zW (qA tyF (ixC hjl)) ?_;refine zG (qA tyF xp) fun K4 B'=>?_;refine WE.con (tq H6 k ls x3 hk6 hbl1 hbl2) fun w7 H7 g7 ⟨c7,z_,hla,hcl7⟩=>?_;rw[e10.out] at z_;subst z_;obtain ⟨u,rfl,hu⟩:=hla.of;have rS:=(g7.get _ n5 zB2).trans rS;have n5:=zA0 n5 g7.nx;have rC:=(g7.get _ n6 zB2).trans rC;have n6:=zA0 n6 g7.nx;have hp7:=hp6.gr g7;have z_:=hq6.gr g7;have g37:=g36.gr g7;have g7:=g6.gr g7;have lu:=hu.lt;clear hp6 hq6 hk6 lv6 hvid6 hvgr6 rP5 rN5 nP5 nN5 w1 w2 g6 g36 hcl7 hla;refine zE tyF ?_;refine R1.gen (fun A8 H8=>Gr H H8∧Gr H3 H8∧Gr H7 H8∧H7.nx<H8.nx∧H8.get H7.nx=some (.arr [.o (.str (dW (some ls) x3).1),u] 97 0 0)∧slot A8.tm 0=.one (k)∧slot A8.tm 1=.one (gv)∧slot A8.tm 5=.one ((.o (.ptr N 0 0 2)))∧slot A8.tm 8=.one ((.o (.ptr P 0 0 2)))∧slot A8.tm 10=.one ((.o (.sl H3.nx 0 0 gs.length 1)))∧slot A8.tm 11=.one (.i .i64 (i:Int))∧slot A8.tm 12=.one ((.o (.ptr C 0 0 5)))∧slot A8.tm 13=.one ((.o (.ptr H7.nx 0 0 2)))∧A8.nt=139∧A8.dfr=[])
   ⟨(g7.new _).mod _ (.inl g7.nx),(g37.new _).mod _ (.inl g37.nx),((Fr.refl _).new _).mod _ (.inl (zA1 _)),zA6 _,al rfl,zL⟩ ?_
  clear t0 t1 t5 t8 t10 t11 t12 B0 C0 A lu B' K4;rintro A H8 ⟨g8,g38,g78,n8,rL,t0,t1,t5,t8,t10,t11,t12,t13,B0,C0⟩;have rS:=(g78.get _ n5 zB2).trans rS;have n5:=zA0 n5 g78.nx;have rC:=(g78.get _ n6 zB2).trans rC;have n6:=zA0 n6 g78.nx;have hp8:=hp7.gr g78;have hq8:=z_.gr g78;have hu8:=hu.gr g78;have lp8:=hp8.lt;have lq8:=hq8.lt;have lu8:=hu8.lt;obtain ⟨L,hL⟩:∃ L,L=H7.nx:=⟨_,rfl⟩;rw[←hL] at n8 rL t13;clear hL hp7 z_ hu g7 g37 g78;refine zG (qA tyF FM) fun K4 B'=>?_;refine WE.con (Ct H8 (dW (some ls) x3).1 u p q (dW (some ls) x3).2 x4 hu8 hp8 hq8) fun w9 H9 g9 hq9=>?_;have j5:=@GN (some ls) ((j:Int),x2,x3,x4);have X7:=O3.out;rw[hrc.out] at X7 j5;generalize eu (dW (some ls) x3).1 (dW (some ls) x3).2 x4=rd at hq9 X7 j5;obtain ⟨rv,re⟩:=rd;subst hq9;have rS:=(g9.get _ n5 zB2).trans rS;have n5:=zA0 n5 g9.nx;have rC:=(g9.get _ n6 zB2).trans rC;have n6:=zA0 n6 g9.nx;have g39:=g38.gr g9;have g9:=g8.gr g9;clear O3 lp8 lq8 lu8 hp8 hq8 hu8 g8 g38 rL n8;by_cases S':re=0
  case neg=>
   rw[zB0 S'] at X7;rw[←X7] at hr;have Z0:(([],re):List Lot×Int).2≠0:=S';rw[zB0 Z0] at hr;have f1:re=e0.2:=by rw[←hr]
   have f2:pB e0 []:=by rw[←hr];exact ⟨fun _=>rfl,fun h=>absurd h S',Nat.zero_le _⟩
   have X5:(re==0)=false:=zB5 S';clear hr X7 S' Z0 j5;replace f1:Hd _:=f1;refine zK tyF ?_;refine q4.out _ _ (k4.out _ _ ?_);exact fin.out (.o .nilS) [] re _ _ qp qp qe g9 f1.out SlL.nil f2
  subst S';rw[zB1 (fun h=>h rfl)] at X7;have j5:=j5 rfl;replace j5:1≤rv∧rv≤1099511627776:=j5;have z9:=p7.add x2 j5.1 j5.2;have Y5:=CV p7.bd x2;obtain ⟨ix,E7,hixg,_⟩:=jD e5.out;have S_:ix<gs.length:=(List.getElem?_eq_some_iff.1 hixg).1;have hro2:=R6.add E7 S_ rv;have U0:((sums.map (AC.i .i64)).drop ix).headD (.b false)=.i .i64 (amt acc x2):=by
   have h1:=R6.at_ x2 e5.out;rw[E7,Int.toNat_natCast,List.getD_eq_getElem?_getD,zB4 (by rw[R6.len];exact S_)] at h1;have h2:((sums.map (AC.i .i64)).drop ix)[0]?=some (.i .i64 (amt acc x2)):=by
    rw[List.getElem?_drop,Nat.add_zero,List.getElem?_map,zB4 (by rw[R6.len];exact S_),←h1];rfl
   cases hd:(sums.map (AC.i .i64)).drop ix with
   | nil=>rw[hd] at h2;cases h2
   | cons y l=>rw[hd] at h2;exact Option.some.inj h2
  have hput:List.take ix (sums.map (AC.i .i64))++AC.i .i64 (amt acc x2+rv)::List.drop (ix+1) (sums.map (AC.i .i64))=(sums.set ix (amt acc x2+rv)).map (AC.i .i64):=setRow (AC.i .i64) sums ix _ (by rw[R6.len];exact S_);have hle:ix+1≤(sums.map (AC.i .i64)).length:=by rw[List.length_map,R6.len];omega
  have l6:IntKind.i64.wrap (amt acc x2+rv)=amt acc x2+rv:=ao (by omega) (by omega);have X5:((0:Int)==0)=true:=rfl;have hg9:=hg3.gr g39;have lg9:=hg9.lt;have N6:=ky H9 gv gs x2 hg9 hgl;rw[E7] at N6;replace N6:Hd (Con E2 _ _ _ _ _):=N6;clear Y5 j5 E7 hixg;replace X7:Hd _:=X7;replace z9:Hd _:=z9;replace hro2:Hd _:=hro2;refine zK tyF ?_;refine zG (qA tyF wx) fun K4 B'=>?_;refine WE.con N6.out fun w10 H10 g10 B9=>?_;subst B9;have rS:=(g10.get _ n5 zB2).trans rS;have n5:=zA0 n5 g10.nx;have g310:=g39.gr g10;have g10:=g9.gr g10;have gm:Gr H (H10.mod H3.nx (.arr ((sums.set ix (amt acc x2+rv)).map (AC.i .i64)) 3 0 0)):=g10.mod _ (.inl hH3);have gm3:Gr H3 (H10.mod H3.nx (.arr ((sums.set ix (amt acc x2+rv)).map (AC.i .i64)) 3 0 0)):=g310.mod _ (.inl (zA1 _));clear N6 lg9 hg9 g9 g39 rC n6;replace gm:Hd _:=gm;replace gm3:Hd _:=gm3;refine zK (qA tyF (qA (ixC S_) (qA U0 (qA hput (qA Nat.mul_one hle))))) ?_;refine q1.out _ _ ?_;refine zW tyF ?_;exact ⟨kl.length - (i+1),by omega,i+1,jU acc x2 rv,sums.set ix (amt acc x2+rv),rfl,D0,X7,z9.out,hro2.out,gm.out,gm3.out,n5,al rfl,zL⟩
 have C2:i=kl.length:=by omega
 have hi64:i≤64:=by omega
 have Q2:=hac.out;rw[C2,List.drop_length] at Q2;have Q2:(acc,(0:Int))=tot:=Q2;subst Q2;rw[zB1 (fun h=>h rfl)] at hr;have hr:(if mG acc=true then ([],6) else (acc,0))=e0:=hr;replace hr:Hd _:=hr;clear hac C2 q9 a_ l1 l2 rP5 rN5 nP5 nN5 rP r0 n1 n3 B_ G5 hc hi Q_ g_ hKok hKl;refine zW tyF ?_;refine k2.out _ _ ?_;refine zW tyF ?_;have hg5:=hg3.gr g35;clear k1 k2 k4 K hg3;have g5n:=g5.nx;refine R1.cy fun K k1 k2 k3 k4=>?_;refine R1.loop (fun z A H6=>∃ (m:Nat) (out:List Lot) (v':AC) (r:Option Nat),z=gs.length - m∧m≤gs.length∧kM gs acc m out∧Gr H H6∧Gr H5 H6∧dm H6 v' 92 2 out.length (out.flatMap bA) r∧(∀ q,r=some q→H5.nx≤q)∧slot A.tm 1=.one (gv)∧slot A.tm 10=.one ((.o (.sl H3.nx 0 0 gs.length 1)))∧slot A.tm 17=.one (v')∧slot A.tm 18=.one (.i .i64 (m:Int))∧A.nt=139∧A.dfr=[]) ?_ gs.length
  ⟨0,[],.o .nilS,none,rfl,Nat.zero_le _,kM.nil gs acc,g5,Fr.refl _,.inl ⟨rfl,rfl,rfl,rfl⟩,fun _ h=>(by cases h),zL⟩
 clear t0 t1 t5 t8 t10 t11 B0 C0 A k3;rintro z A H6 ⟨m,out,v',r,rfl,hm,B3,g6,g56,P1,hrq,t1,t10,t17,t18,B0,C0⟩;have hg6:=hg5.gr g56;have l1:=hg6.len;have l2:=hg6.lt;have rS6:=(g56.get _ n5 zB2).trans rS;have n56:=zA0 n5 g56.nx;have ho17:=P1.lt;refine zW tyF ?_;refine zI tyF (fun hc=>?_) (fun hc=>?_)
 ·have D0:m<gs.length:=by omega
  have ex:gs[m]?=some gs[m]:=zB4 D0;have Q0:gs.drop m=gs[m]::gs.drop (m+1):=List.drop_eq_getElem_cons D0;have B1:gs.take (m+1)=gs.take m++[gs[m]]:=List.take_succ_eq_append_getElem D0;have G0:gs[m]∈gs:=List.getElem_mem D0;generalize gs[m]=gd at ex Q0 B1 G0;have V0:=zC0 m (by omega);have E7:=F7.out m gd ex;have U0:((sums.map (AC.i .i64)).drop m).headD (.b false)=.i .i64 (amt acc gd.1):=by
   have h1:=R6.at_ gd.1 (by omega);rw[E7,Int.toNat_natCast,List.getD_eq_getElem?_getD,zB4 (by rw[R6.len];exact D0)] at h1;have h2:((sums.map (AC.i .i64)).drop m)[0]?=some (.i .i64 (amt acc gd.1)):=by
    rw[List.getElem?_drop,Nat.add_zero,List.getElem?_map,zB4 (by rw[R6.len];exact D0),←h1];rfl
   cases hd:(sums.map (AC.i .i64)).drop m with
   | nil=>rw[hd] at h2;cases h2
   | cons y l=>rw[hd] at h2;exact Option.some.inj h2
  have hle:m+1≤(sums.map (AC.i .i64)).length:=by rw[List.length_map,R6.len];omega
  have Y5:=CV p7.bd gd.1;clear Q0 B1 G0;replace E7:Hd _:=E7;replace B3:Hd _:=B3;replace P1:Hd _:=P1;refine zW tyF ?_;refine R1.cy fun K2 q1 q2 q3 q4=>?_;by_cases c1:(1099511627776:Int)<amt acc gd.1
  ·have hb:=Xk p7.pw c1;have J0:=hr.out;rw[zB0 hb] at J0;have f1:(6:Int)=e0.2:=by rw[←J0]
   have f2:pB e0 []:=by rw[←J0];exact ⟨fun _=>rfl,fun h=>(by cases h),Nat.zero_le _⟩
   clear J0 Y5 hb;replace f1:Hd _:=f1;refine zW (qA tyF (qA (ixC D0) (qA U0 (qA Nat.mul_one hle)))) ?_;refine q4.out _ _ (k4.out _ _ ?_);exact fin.out (.o .nilS) [] 6 _ _ qp qp qe g6 f1.out SlL.nil f2
  by_cases c2:(0:Int)<amt acc gd.1
  case neg=>
   have T7:Hd (kM gs acc (m+1) out):=B3.out.skip E7.out (by omega);clear Y5;refine zW (qA tyF (qA (ixC D0) (qA U0 (qA Nat.mul_one hle)))) ?_;refine q1.out _ _ ?_;refine zW tyF ?_;exact ⟨gs.length - (m+1),by omega,m+1,out,v',r,rfl,D0,T7.out,g6,g56,P1.out,hrq,zL⟩
  have T7:=fun e=>B3.out.ins E7.out c2 e;replace T7:=T7 (by omega);clear Y5;replace T7:Hd _:=T7;refine zW (qA tyF (qA (ixC D0) (qA U0 (qA Nat.mul_one hle)))) ?_;have hol:=B3.out.len;refine R1.cy fun K3 p1 p2 p3 p4=>?_;have go:Hd (∀ (n:Nat) (A:ab),n≤out.length→(∀ j y,j<n→out[j]?=some y→bj y.1 gd.1=true)→(∀ y,out[n]?=some y→bj y.1 gd.1=false)→slot A.tm 1=.one (gv)∧slot A.tm 10=.one ((.o (.sl H3.nx 0 0 gs.length 1)))∧slot A.tm 17=.one (v')∧slot A.tm 18=.one (.i .i64 (m:Int))∧slot A.tm 19=.one (.i .i64 (n:Int))∧A.nt=139∧A.dfr=[]→K3 (.exit 4) A H6):=by
   clear t1 t10 t17 t18 B0 C0 A l1 l2 ho17;rintro n A hn Y1 I3 ⟨t1,t10,t17,t18,t19,B0,C0⟩;refine p2.out _ _ ?_;have hins:=LJ (gd.1,amt acc gd.1) out n hn Y1 I3;have D_:=qP (gd.1,amt acc gd.1) out;have W6:=dm.lt P1.out;obtain ⟨vd,ve,vr,H7,v2,H8,v9,H9,r9,hvv,b1,b2,b3,b4,b5,b6,b7,b8,b9,f67,f69⟩:=Si H6 v' out r (gd.1,amt acc gd.1) n hn (by omega) P1.out;rw[←hins,←D_] at b8;replace b4:aL Tryz.prog (H7.new (.arr [.o (.str gd.1),.i .i64 (amt acc gd.1)] 92 0 0)) 43 (.one ve) (.one (.o (.sl H7.nx 0 0 1 2)))=.val (.one v2) H8:=b4;have hr9:∀ q,r=some q→H5.nx≤q:=hrq;have g57:Gr H5 H7:=g56.then f67 fun q hq=>.inl (hr9 q hq);have g59:Gr H5 H9:=g56.then f69 fun q hq=>.inl (hr9 q hq);have g09:Gr H H9:=g6.then f69 fun q hq=>.inl (by have:=hr9 q hq;omega);have hr9':∀ q,some r9=some q→H5.nx≤q:=fun q hq=>by
    cases hq
    rcases b9 with h|⟨_,h⟩
    ·exact hrq _ h
    have:=g56.nx;omega
   have rS7:=(g57.get _ n5 zB2).trans rS;have n57:=zA0 n5 g57.nx;have hg7:=hg5.gr g57;have lg7:=hg7.lt;obtain ⟨gid,gg,goff,gcells,rfl,X_,Y_,V3⟩:=hg7.open (by omega);obtain ⟨gu,hga⟩:=V3 m gd ex;have w1:=hga.f1;have w2:=hga.le1;clear hins D_ Y1 I3 hga V3 g56 f67 f69 b9 hr9 P1 hg7 hg6 rS6 n56 g57;replace b8:Hd _:=b8;replace hr9':Hd _:=hr9';replace g59:Hd _:=g59;replace ex:Hd _:=ex;rcases hvv with ⟨rfl,rfl,rfl,rfl⟩|⟨id,gen,rfl,rfl,rfl⟩
   ·replace t19:slot A.tm 19=.one (.i .i64 0):=t19;refine zW tyF ?_;refine zG (qA tyF (qA Yl b1)) fun K4 B'=>?_;refine B'.out _ _ ?_;clear B' K4;refine R1.gen (fun A7 H=>H=H7∧slot A7.tm 1=.one ((.o (.sl gid gg goff gs.length 3)))∧slot A7.tm 10=.one ((.o (.sl H3.nx 0 0 gs.length 1)))∧slot A7.tm 17=.one ((.o .nilS))∧slot A7.tm 18=.one (.i .i64 (m:Int))∧slot A7.tm 19=.one (.i .i64 (0:Int))∧slot A7.tm 20=.one (vr)∧A7.nt=139∧A7.dfr=[]) ⟨rfl,zL⟩ ?_;clear t1 t10 t17 t18 t19 B0 C0 A b1;rintro A _ ⟨rfl,t1,t10,t17,t18,t19,t20,B0,C0⟩;refine zG (qA tyF (qA Yl (qA (ixC D0) (qA U0 (qA Nat.mul_one (qA hle (qA iz (qA b4 b7)))))))) fun K4 B'=>?_;refine B'.out _ _ ?_;refine q1.out _ _ ?_;refine zW tyF ?_;exact ⟨gs.length - (m+1),by omega,m+1,mc out (gd.1,amt acc gd.1),v9,some r9,rfl,D0,T7.out,g09,g59.out,b8.out,hr9'.out,zL⟩
   rw[Nat.zero_add] at b1;have hid:id<H6.nx:=W6 id (List.mem_singleton.2 rfl);have hid7:id<H7.nx:=b3 id (List.mem_singleton.2 rfl);have hid8:id<H7.nx+1:=Nat.lt_succ_of_lt hid7;refine zW (qA tyF (qA (slL hn) b1)) ?_;refine R1.gen (fun A7 H=>H=H7∧slot A7.tm 1=.one ((.o (.sl gid gg goff gs.length 3)))∧slot A7.tm 10=.one ((.o (.sl H3.nx 0 0 gs.length 1)))∧slot A7.tm 17=.one ((.o (.sl id gen 0 out.length 2)))∧slot A7.tm 18=.one (.i .i64 (m:Int))∧slot A7.tm 19=.one (.i .i64 (n:Int))∧slot A7.tm 20=.one (vr)∧A7.nt=139∧A7.dfr=[]) ⟨rfl,zL⟩ ?_;clear t1 t10 t17 t18 t19 B0 C0 A b1;rintro A _ ⟨rfl,t1,t10,t17,t18,t19,t20,B0,C0⟩;refine zG (qA tyF (qA (slH hn) (qA (ixC D0) (qA U0 (qA Nat.mul_one (qA hle (qA iz (qA b4 b7)))))))) fun K4 B'=>?_;refine B'.out _ _ ?_;refine q1.out _ _ ?_;refine zW tyF ?_;exact ⟨gs.length - (m+1),by omega,m+1,mc out (gd.1,amt acc gd.1),v9,some r9,rfl,D0,T7.out,g09,g59.out,b8.out,hr9'.out,zL⟩
  refine R1.loop (fun z A H7=>∃ n:Nat,z=out.length - n∧n≤out.length∧(∀ j y,j<n→out[j]?=some y→bj y.1 gd.1=true)∧H7=H6∧slot A.tm 1=.one (gv)∧slot A.tm 10=.one ((.o (.sl H3.nx 0 0 gs.length 1)))∧slot A.tm 17=.one (v')∧slot A.tm 18=.one (.i .i64 (m:Int))∧slot A.tm 19=.one (.i .i64 (n:Int))∧A.nt=139∧A.dfr=[]) ?_ out.length ⟨0,rfl,Nat.zero_le _,fun j y h=>absurd h (Nat.not_lt_zero j),rfl,zL⟩;clear t1 t10 t17 t18 B0 C0 A l1 l2 T7;rintro z A H6 ⟨n,rfl,hn,Y1,rfl,t1,t10,t17,t18,t19,B0,C0⟩;replace Y1:Hd _:=Y1;have hown2:=P1.out;have hlo1:out.length≤1000000:=by omega
  have lv17:=dm.lt P1.out;have hlen17:cQ H6 1 (.one v')=.val (.one (.i .i64 (out.length:Int))) H6:=SlC.len (dm.slc P1.out);have l2':=hg6.lt;by_cases C7:n<out.length
  case neg=>
   have L1:¬(n:Int)<(out.length:Int):=by omega
   have I3:∀ y,out[n]?=some y→bj y.1 gd.1=false:=fun y hy=>by rw[List.getElem?_eq_none (by omega)] at hy;cases hy
   clear hown2;replace I3:Hd _:=I3;replace C7:Hd _:=C7;refine zW tyF ?_;exact go.out n _ hn Y1.out I3.out zL
  have L1:(n:Int)<(out.length:Int):=by omega
  have ey:out[n]?=some out[n]:=zB4 C7;generalize out[n]=y at ey;rcases hown2 with ⟨_,h0,_⟩|⟨id,lo,gen,_,rfl,a3,a4,a5,a6⟩
  ·omega
  have b1:=EV (tV cX out n y ey) (by rw[a5];omega);have b2:=b1.fst;have b3:=b1.le1;have a7:rowOf (H6.get id) gen=some (out.flatMap bA):=by rw[a3];exact bF a4 (zA1 _)
  obtain ⟨gid,gg,goff,gcells,rfl,X_,Y_,V3⟩:=hg6.open (by omega);obtain ⟨gu,hga⟩:=V3 m gd ex;have w1:=hga.f1;have w2:=hga.le1;clear hga V3 a3 a4 a5 b1;replace ey:Hd _:=ey;replace ex:Hd _:=ex;replace P1:Hd _:=P1;have V0:=zC0 n (by omega);cases hb:bj y.1 gd.1 with
  | false=>
   have I3:∀ z,out[n]?=some z→bj z.1 gd.1=false:=fun z hz=>by rw[ey.out] at hz;cases hz;exact hb
   replace I3:Hd _:=I3;refine zW (qA tyF (qA (ixC C7) (ixC D0))) ?_;exact go.out n _ hn Y1.out I3.out zL
  | true=>
   have hpre2:∀ j z,j<n+1→out[j]?=some z→bj z.1 gd.1=true:=fun j z hj hz=>by
    by_cases hjn:j=n
    ·rw[hjn,ey.out] at hz;cases hz;exact hb
    exact Y1.out j z (by omega) hz
   replace hpre2:Hd _:=hpre2;refine zW (qA tyF (qA (ixC C7) (ixC D0))) ?_;refine R1.dZ fun K5 u1 u2 u3 u4=>?_;refine zW tyF ?_;refine u1.out _ _ ?_;exact ⟨out.length - (n+1),by omega,n+1,rfl,C7,hpre2.out,rfl,zL⟩
 have hme:m=gs.length:=by omega
 subst hme;obtain ⟨f1,f2,f3⟩:=B3.fin R6 p7.pw;have J0:=hr.out;rw[zB1 (by rw[f1];exact zA8)] at J0;have f4:(0:Int)=e0.2:=by rw[←J0]
 have f5:pB e0 out:=by rw[←J0];exact ⟨fun h=>absurd rfl h,fun _=>⟨f2,f3⟩,by have:=B3.len;omega⟩
 have f6:SlL H6 v' out:=by
  rcases P1 with ⟨rfl,h0,_⟩|⟨id,lo,gen,_,rfl,h3,h4,h5,h6⟩
  ·have:out=[]:=List.eq_nil_of_length_eq_zero h0;rw[this];exact SlL.nil
  exact ⟨cj cX _,.inr ⟨id,gen,0,rfl,h6,_,by rw[h3];exact bF h4 (zA1 _),by rw[h5];omega,by rw[List.drop_zero,List.take_of_length_le (by rw[h5];exact zA1 _)]⟩⟩
 clear J0 f1 f2 f3 B3 P1 hrq;replace f4:Hd _:=f4;replace f6:Hd _:=f6;refine zW tyF ?_;refine k2.out _ _ ?_;refine zW tyF ?_;exact fin.out v' out 0 _ _ qp qp qe g6 f4.out f6.out f5
theorem Rx (gs:List Gd):∀ (l pre:List (Cl×Int)),pre.length+l.length≤64→∀ r∈dn gs pre l,r.2.length≤64:=fun l pre h r hr=>by
 obtain ⟨k,x,fr,_,_,_,e⟩:=(uX gs l pre).1 r hr;rw[e];have h1:=oS (fP gs x.1.2.1) fr 0 (pre++l.take k);rw[List.length_append,List.length_take] at h1;omega
theorem Xx {o:Option (List Lad)} {gs:List Gd} {t:Tb} (hB:TbB t.2):PzB (js o gs t):=by
 by_cases h:eY o gs t=0
 ·obtain ⟨a,b⟩:=JE h;obtain ⟨_,c⟩:=nZ h;have hr:=lI gs [] (fQ o gs t);refine ⟨by omega,?_,fun x hx=>?_,fun r hr=>?_⟩
  ·show (dn gs [] (fQ o gs t)).length*32≤_;omega
  ·obtain ⟨_,_,c,hc,e⟩:=a x hx;rw[e];exact hB.n c hc
  have:=Rx gs (fQ o gs t) [] (by rw[List.length_nil];omega) r hr;omega
 have e:fQ o gs t=[]:=zB1 h;have e2:js o gs t=([],[]):=by unfold js;rw[e];rfl
 rw[e2];exact ⟨by decide,by decide,fun _ h=>absurd h List.not_mem_nil,fun _ h=>absurd h List.not_mem_nil⟩
theorem Ht:ak Tryz.prog 14=true:=by kernel_rfl
theorem Cz (H:Hp) (v w:AC) (l:List Lot) (hv:SlL H v l) (hw:SlL H w l) (hL:l.length≤4611686018427387904):
  Con E2 14 [.one v,.one w] H (fun _=>False) fun r _=>r=.one (.b true):=by
 refine Con.of rfl fun lg=>?_;have hv:SlL ⟨H.t,H.nx,lg⟩ v l:=hv;have hw:SlL ⟨H.t,H.nx,lg⟩ w l:=hw;generalize (⟨H.t,H.nx,lg⟩:Hp)=H at hv hw ⊢;refine C1.body (E:=E2) (nt:=26) (res:=[.tmp 4]) Tryz.func14 rfl rfl rfl rfl rfl fun tm A0=>?_;have h0:=A0 0 _ rfl;have h1:=A0 1 _ rfl;clear A0;have l1:=hv.len;have l2:=hw.len;have l3:=hv.lt;have l4:=hw.lt;have Z0:((l.length:Int)==(l.length:Int))=true:=beq_self_eq_true _;refine zW tyF ?_;refine R1.cy fun K k1 k2 k3 k4=>?_;refine R1.loop (fun k A H2=>∃ i:Nat,k=l.length - i∧i≤l.length∧Gr H H2∧slot A.tm 0=.one (v)∧slot A.tm 1=.one (w)∧slot A.tm 5=.one (.i .i64 (i:Int))∧A.nt=26∧A.dfr=[]) ?_ l.length ⟨0,rfl,Nat.zero_le _,Fr.refl _,zL⟩;clear h0 h1 tm l1 l2 l3 l4 k3;rintro k A H2 ⟨i,rfl,hi,g2,t0,t1,t5,B0,C0⟩;have X1:=hv.gr g2;have G_:=hw.gr g2;have l1:=X1.len;have l3:=X1.lt;refine zW tyF ?_;refine zI tyF (fun hc=>?_) (fun hc=>?_)
 ·have D0:i<l.length:=by omega
  have ex:=zB4 D0;have Q0:=zC1 D0;have B1:=zC2 D0;have G0:l[i]∈l:=List.getElem_mem D0;generalize l[i]=x at ex Q0 B1 G0;have V0:=zC0 i (by omega);clear Q0 B1 G0 l1 l3;obtain ⟨id,g,off,cells,rfl,hid,P0,L0⟩:=X1.open (by omega);obtain ⟨id',g',off',cells',rfl,F1,I2,X2⟩:=G_.open (by omega);have K0:=L0 i x ex;have L2:=X2 i x ex;have y1:=K0.all;have y2:=K0.le;have y3:=L2.all;have y4:=L2.le;obtain ⟨x1,x2⟩:=x;replace y1:(cells.drop (off+i*2)).take 2=[.o (.str x1),.i .i64 x2]:=y1;replace y3:(cells'.drop (off'+i*2)).take 2=[.o (.str x1),.i .i64 x2]:=y3;have c1:(x1==x1)=true:=beq_self_eq_true _;have c2:(x2==x2)=true:=beq_self_eq_true _;clear L0 X2 K0 L2 ex Z0;refine zW tyF ?_;refine R1.cy fun K2 q1 q2 q3 q4=>?_;repeat refine R1.aE ?_
  (first|refine R1.Sq (by kernel_rfl) fun K hK=>?_|refine R1.TJ (by kernel_rfl) fun K hK=>?_)
  simp only[qB,aC,Nat.reduceLT,ad,t0,t1,t5,B0,fw,JD,dM D0,hid,P0,F1,I2,y1,y2,y3,y4,sn XH,beq_self_eq_true,Bool.and_self];refine hK _ _ ?_;clear hK K;refine qY ?_;refine zW tyF ?_;refine q1.out _ _ ?_;refine zW tyF ?_;exact ⟨l.length - (i+1),by omega,i+1,rfl,D0,g2,zL⟩
 refine zW tyF ?_;refine k2.out _ _ ?_;refine zW tyF ?_;exact ⟨_,_,ah (.b true) (.inr rfl) qe qp,g2,fun _=>rfl⟩
theorem Dr (H:Hp) (lv gv tv:AC) (ls:List Lad) (gs:List Gd) (nm:List UInt8) (cs:List Cs) (hl:fL H lv ls) (hg:SlG H gv gs) (ht:dI H tv cs) (hGB:∀ x∈gs,x.2.2.length*16≤140737488355328) (hB:TbB cs):
  C1 E2 3 [.agg [lv,gv,.o (.str nm),tv]] H fun r _=>r=.one (.b true):=by
 refine C1.body (E:=E2) (nt:=84) (res:=[.tmp 2]) Tryz.func3 rfl rfl rfl rfl rfl fun tm A0=>?_;have h0:=A0 0 _ rfl;clear A0;have hO:∀ x∈gs,x.2.2.length≤4611686018427387904:=fun x hx=>by have:=hGB x hx;omega
 have lll:=hl.lt;have llg:=hg.lt;have llt:=ht.lt;refine zG tyF fun K hK=>?_;refine hK.out _ _ ?_;refine R1.gen (fun A1 H1=>Gr H H1∧H.nx<H1.nx∧H1.get H.nx=some (.arr [lv,gv,.o (.str nm),tv] 28 0 0)∧slot A1.tm 1=.one ((.o (.ptr H.nx 0 0 4)))∧A1.nt=84∧A1.dfr=[])
  ⟨(Fr.refl _).new _,zA6 _,aB rfl,zL⟩ ?_
 clear h0 tm hK K lll llg llt;rintro A1 H1 ⟨g1,m1,r1,t1,B0,C0⟩;obtain ⟨N,hN⟩:∃ N,N=H.nx:=⟨_,rfl⟩;rw[←hN] at m1 r1 t1;clear hN;have hl:=hl.gr g1;have hg:=hg.gr g1;have ht:=ht.gr g1;clear g1;refine zG (qA tyF RT) fun K hK=>?_;refine WE.con (NT H1 lv ls hl) fun w2 H2 g2 ⟨p1,p2,W1,hp,hq,_⟩=>?_;subst W1;have r1:=(g2.get _ m1 zB2).trans r1;have m1:=zA0 m1 g2.nx;have hg:=hg.gr g2;have ht:=ht.gr g2;clear g2 hl;have G3:∀ l,bkO ls=some l→(∀ x∈l,x.2.length≤1000000)∧l.length≤1000000:=fun l h=>⟨fun x hx=>by have:=(Tz h).2 x hx;omega,by have:=(Tz h).1;omega⟩;generalize bkO ls=o at hp hq G3;refine zK tyF ?_;refine zG (qA tyF IH) fun K hK=>?_;refine WE.con (DI H2 nm tv cs ht hB) fun w3 H3 g3 ⟨ov,q3,S4,hoa⟩=>?_;subst S4;have ho:=hoa.slr;have lo:=ho.lt;have r1:=(g3.get _ m1 zB2).trans r1;have m1:=zA0 m1 g3.nx;have hg:=hg.gr g3;have ht:=ht.gr g3;have hp:=hp.gr g3;have hq:=hq.gr g3;clear hoa g3;refine zE tyF ?_;refine R1.gen (fun A4 H4=>Gr H3 H4∧H3.nx<H4.nx∧H4.get H3.nx=some (.arr [.o (.str nm),ov] 26 0 0)∧slot A4.tm 1=.one ((.o (.ptr N 0 0 4)))∧slot A4.tm 3=.one (p1)∧slot A4.tm 4=.one (p2)∧slot A4.tm 5=.one ((.o (.ptr H3.nx 0 0 2)))∧A4.nt=84∧A4.dfr=[])
  ⟨((Fr.refl _).new _).mod _ (.inl (zA1 _)),zA6 _,al rfl,zL⟩ ?_
 clear t1 B0 C0 A1 lo hK K;rintro A H4 ⟨g4,m2,r2,t1,t3,t4,t5,B0,C0⟩;have V5:dI H4 ov cs:=dI.gr ho g4;have r1:=(g4.get _ m1 zB2).trans r1;have m1:=zA0 m1 g4.nx;have hg:=hg.gr g4;have ht:=ht.gr g4;have hp:=hp.gr g4;have hq:=hq.gr g4;obtain ⟨M,hM⟩:∃ M,M=H3.nx:=⟨_,rfl⟩;rw[←hM] at m2 r2 t5;clear hM ho g4;refine zG (qA tyF RL) fun K hK=>?_;refine WE.con (JS H4 p1 gv ov o gs nm cs hp (fun l h=>(G3 l h).1) hg V5 hB hO) fun w5 H5 g5 ⟨a,b,E5,hsa,hsb⟩=>?_;subst E5;have r1:=(g5.get _ m1 zB2).trans r1;have m1:=zA0 m1 g5.nx;have r2:=(g5.get _ m2 zB2).trans r2;have m2:=zA0 m2 g5.nx;have hg:=hg.gr g5;have ht:=ht.gr g5;have hp:=hp.gr g5;have hq:=hq.gr g5;have V5:=V5.gr g5;have la:=hsa.lt;have lb:=hsb.lt;clear g5;refine zE tyF ?_;refine R1.gen (fun A6 H6=>Gr H5 H6∧H5.nx<H6.nx∧H6.get H5.nx=some (.arr [a,b] 37 0 0)∧slot A6.tm 1=.one ((.o (.ptr N 0 0 4)))∧slot A6.tm 3=.one (p1)∧slot A6.tm 4=.one (p2)∧slot A6.tm 5=.one ((.o (.ptr M 0 0 2)))∧slot A6.tm 6=.one ((.o (.ptr H5.nx 0 0 2)))∧slot A6.tm 7=.one ((.i .i64 (eY o gs (nm,cs))))∧A6.nt=84∧A6.dfr=[])
  ⟨((Fr.refl _).new _).mod _ (.inl (zA1 _)),zA6 _,al rfl,zL⟩ ?_
 clear t1 t3 t4 t5 B0 C0 A la lb hK K;rintro A H6 ⟨g6,m3,r3,t1,t3,t4,t5,t6,t7,B0,C0⟩;have r1:=(g6.get _ m1 zB2).trans r1;have m1:=zA0 m1 g6.nx;have r2:=(g6.get _ m2 zB2).trans r2;have m2:=zA0 m2 g6.nx;have hg:=hg.gr g6;have ht:=ht.gr g6;have hp:=hp.gr g6;have hq:=hq.gr g6;have V5:=V5.gr g6;have hsa:=hsa.gr g6;have hsb:=hsb.gr g6;obtain ⟨P,hP⟩:∃ P,P=H5.nx:=⟨_,rfl⟩;rw[←hP] at m3 r3 t6;clear hP g6;refine zG (qA tyF Bh) fun K hK=>?_;refine WE.con (xu H6 p2 gv tv o gs nm cs hq G3 hg ht hB hO) fun w7 H7 g7 ⟨a2,b2,z_,K_,J_⟩=>?_;subst z_;have r1:=(g7.get _ m1 zB2).trans r1;have m1:=zA0 m1 g7.nx;have r2:=(g7.get _ m2 zB2).trans r2;have m2:=zA0 m2 g7.nx;have r3:=(g7.get _ m3 zB2).trans r3;have m3:=zA0 m3 g7.nx;have hg:=hg.gr g7;have ht:=ht.gr g7;have hp:=hp.gr g7;have hq:=hq.gr g7;have V5:=V5.gr g7;have hsa:=hsa.gr g7;have hsb:=hsb.gr g7;have la:=K_.lt;have lb:=J_.lt;clear g7;refine zE tyF ?_;refine R1.gen (fun A8 H8=>Gr H7 H8∧H7.nx<H8.nx∧H8.get H7.nx=some (.arr [a2,b2] 37 0 0)∧slot A8.tm 1=.one ((.o (.ptr N 0 0 4)))∧slot A8.tm 3=.one (p1)∧slot A8.tm 4=.one (p2)∧slot A8.tm 5=.one ((.o (.ptr M 0 0 2)))∧slot A8.tm 6=.one ((.o (.ptr P 0 0 2)))∧slot A8.tm 7=.one ((.i .i64 (eY o gs (nm,cs))))∧slot A8.tm 8=.one ((.o (.ptr H7.nx 0 0 2)))∧slot A8.tm 9=.one ((.i .i64 (eY o gs (nm,cs))))∧A8.nt=84∧A8.dfr=[])
  ⟨((Fr.refl _).new _).mod _ (.inl (zA1 _)),zA6 _,al rfl,zL⟩ ?_
 clear t1 t3 t4 t5 t6 t7 B0 C0 A la lb hK K;rintro A H8 ⟨g8,m4,r4,t1,t3,t4,t5,t6,t7,t8,t9,B0,C0⟩;have r1:=(g8.get _ m1 zB2).trans r1;have m1:=zA0 m1 g8.nx;have r2:=(g8.get _ m2 zB2).trans r2;have m2:=zA0 m2 g8.nx;have r3:=(g8.get _ m3 zB2).trans r3;have m3:=zA0 m3 g8.nx;have hg:=hg.gr g8;have ht:=ht.gr g8;have hp:=hp.gr g8;have hq:=hq.gr g8;have V5:=V5.gr g8;have hsa:=hsa.gr g8;have hsb:=hsb.gr g8;have K_:=K_.gr g8;have J_:=J_.gr g8;obtain ⟨Q,hQ⟩:∃ Q,Q=H7.nx:=⟨_,rfl⟩;rw[←hQ] at m4 r4 t8;clear hQ g8;have hPB:PzB (js o gs (nm,cs)):=Xx (t:=(nm,cs)) hB;have he:(eY o gs (nm,cs)==eY o gs (nm,cs))=true:=beq_self_eq_true _;refine zG (qA tyF Pu) fun K hK=>?_;refine WE.con (Jz H8 a b a2 b2 (js o gs (nm,cs)) hsa hsb K_ J_ hPB) fun w9 H9 g9 hq9=>?_;subst hq9;have r1:=(g9.get _ m1 zB2).trans r1;have m1:=zA0 m1 g9.nx;have r2:=(g9.get _ m2 zB2).trans r2;have m2:=zA0 m2 g9.nx;have hg:=hg.gr g9;have ht:=ht.gr g9;have hp:=hp.gr g9;have hq:=hq.gr g9;have V5:=V5.gr g9;clear g9 hsa hsb K_ J_ r3 r4 m3 m4 hPB;refine zK tyF ?_;refine zG (qA tyF JU) fun K hK=>?_;refine WE.con (GH H9 p1 gv ov o gs nm cs hp (fun l h=>(G3 l h).1) hg V5 hB hO) fun w10 H10 g10 ⟨c1,o1,B9,D5,F0⟩=>?_;subst B9;have r1:=(g10.get _ m1 zB2).trans r1;have m1:=zA0 m1 g10.nx;have r2:=(g10.get _ m2 zB2).trans r2;have m2:=zA0 m2 g10.nx;have hg:=hg.gr g10;have ht:=ht.gr g10;have hq:=hq.gr g10;have V5:=V5.gr g10;clear g10 hp;have l1:=D5.lt;refine zK tyF ?_;refine zG (qA tyF Fp) fun K hK=>?_;refine WE.con (Ca H10 p2 gv tv o gs nm cs hq G3 hg ht hB hO) fun w11 H11 g11 ⟨c2,o2,hq11,I4,J0⟩=>?_;subst hq11;have r1:=(g11.get _ m1 zB2).trans r1;have m1:=zA0 m1 g11.nx;have r2:=(g11.get _ m2 zB2).trans r2;have m2:=zA0 m2 g11.nx;have ht:=ht.gr g11;have V5:=V5.gr g11;have D5:=D5.gr g11;clear g11 hq hg l1;have e:=F0.one J0;subst e
 have l1:=D5.lt;have l2:=I4.lt;have hlen:=F0.2.2;have B6:((tM o gs (nm,cs)).2==(tM o gs (nm,cs)).2)=true:=beq_self_eq_true _;clear F0 J0;refine zK tyF ?_;refine zG (qA tyF Ht) fun K hK=>?_;refine WE.con (Cz H11 c1 c2 o1 D5 I4 (by omega)) fun w12 H12 g12 hq12=>?_;subst hq12;have r1:=(g12.get _ m1 zB2).trans r1;have m1:=zA0 m1 g12.nx;have r2:=(g12.get _ m2 zB2).trans r2;have m2:=zA0 m2 g12.nx;have ht:=ht.gr g12;have V5:=V5.gr g12;clear g12 D5 I4 l1 l2;refine zS (qA tyF Ps) ?_;refine WE.con (Jx H12 nm ov tv cs V5 ht hB) fun w13 H13 g13 hq13=>?_;subst hq13;refine zS (qA tyF Tp) ?_;refine WE.con (Pp (X:=fun _=>False) H13) fun w14 H14 g14 hq14=>?_;subst hq14;refine zK tyF ?_;exact ⟨_,_,ah (.b true) (.inr rfl) qe qp,rfl⟩
open Go.ChangeShapes Go.WideShapes Go.ChangeAt Go.RowKit Go.Eng
theorem Vd:∀ t∈[28],Tryz.prog.readableRec t=true∧t<Tryz.prog.types.size:=by
 have h1:Tryz.prog.readableRec 28=true:=by kernel_rfl
 have k1:decide (28<Tryz.prog.types.size)=true:=by kernel_rfl
 intro t ht;rw[List.mem_singleton.1 ht];exact ⟨h1,of_decide_eq_true k1⟩
theorem xL (os:Os) (started:os.Started) (H:Type) (enc:TypeId×Value→H):
  ReturnsInHanded {} Tryz.checked os 3 .any (Rows.accountBuildsSpec.pre6 enc Tryz.prog Tryz.f3 Rows.accountBuildsRow.domain false) (Rows.accountBuildsSpec.post enc Tryz.prog Tryz.f3 false true false false):=by
 refine returnsInHanded_of_change_sized (C:=Tryz.checked) Tryz.own started (by kernel_rfl) Tryz.func3
  (ChangeSpec.witness6 (enc:=enc) (C:=Tryz.checked) false ⟨#[],#[.agg #[.slice none 0 0,.slice none 0 0,.string ⟨#[]⟩,.slice none 0 0]],[]⟩ 8 (by kernel_rfl) (by kernel_rfl) (by kernel_rfl) (by kernel_rfl)) ?_
 intro W base args ds gs before hval0 hW hcnd0 J1 _;clear hcnd0;have H_:∀ (j:Nat) t v,Tryz.f3.params[j]?=some t→args[j]?=some v→Value.okWide Tryz.prog W .any base t v:=hval0;have hW':=hW;obtain ⟨p,q,hA0,hV,rfl,hfz,W5⟩:=hW;have hA:DataW.TrodAll enc Tryz.prog W 0 (fun _=>true) true Tryz.f3.params.toList args.toList ds p:=hA0;rw[Tryz.params3] at hA H_ J1;have hAll:=hA;obtain ⟨v0,d0,rfl,rfl,h0⟩:=trodAll_one hA;obtain ⟨rfl,rfl⟩:=trodVars_none hV;clear hA0 hval0;simp only[List.append_nil] at hW' hfz;have hw:∀ (j:Nat) (t:TypeId) (d:DataW H),[28][j]?=some t→[d0][j]?=some d→∀ n∈d.weights Tryz.prog t,n≤reachBytes:=fun j t d ht hd n hn=>by
  have:=List.all_eq_true.1 J1 n (DataW.weights_mem_each (j:=j) (by rw[List.getElem?_append_left (by have:=(List.getElem?_eq_some_iff.1 ht).1;exact this)];exact ht) (by rw[List.getElem?_append_left (by have:=(List.getElem?_eq_some_iff.1 hd).1;exact this)];exact hd) n hn);simpa using this
 obtain ⟨y0,u0,l0,a0,b0,_,c0⟩:=Sc Tryz.underlying28 (fun hB=>NZ hB) IY (H_ 0 _ v0 rfl rfl) h0 (hw 0 _ _ rfl rfl) [] TN;obtain ⟨lv,gv,tv,rfl,e1,e2,e3,e4,e5⟩:=PF Rn c0;have T2:=Dv (E:=E2) YC (f:=3) (args:=[.agg [lv,gv,.o (.str l0.2.2.1),tv]]) (vs:=[v0]) (w:=W) (l:=[]++y0) a0
  ⟨b0,trivial⟩
  (Dr _ lv gv tv l0.1 l0.2.1 l0.2.2.1 _ e1 e2 e4 e3 e5)
 refine T2.mono fun e W' ⟨he,hw⟩=>?_;subst he;have D0:∀ x∈p,x.block<W.heap.size:=fun x hx=>hW'.lt x (by simpa using hx);exact ⟨_,rfl,QV rfl hW' rfl (by kernel_rfl) rfl rfl rfl (sR hw) fun sp hsp=>oz Tryz.laidOut (sR hw) Vd (by simpa using hAll) (by simpa using D0) hsp⟩
theorem builds_holds:Rows.AccountBuildsSaid:=
 OpenClaim.holds_of_wide 3 Tryz.f3 rfl rfl rfl rfl rfl rfl rfl ⟨rfl,rfl,rfl,rfl,rfl⟩ rfl rfl rfl rfl rfl (by kernel_rfl) Tryz.func3 (by kernel_rfl)
  (of_decide_eq_true (by kernel_rfl)) (by unfold Func.isWrapper;first|(rw[zB0 (by decide +kernel)];kernel_rfl)|(rw[zB1 (by decide +kernel)];exact ⟨rfl,rfl⟩))
  (fun os started H enc _=>xL os started H enc)
end Go.Proofs.YtnhbkodnmkojpaaGreat
