/- A part of the proof: BkPz6, BkPz9, BkPz10, BkPz11, BkPzArg, BkFacts5, BkFacts9, BkAll, BkSum2, BkSl1, BkSl2, BkSl4, BkTb1, BkTb2. No conditions. -/
import Derived.Test.YtnhbkodnmkojpaaGreatQAm
import Derived.KernelRfl
set_option maxRecDepth 100000
set_option maxHeartbeats 64000000
set_option linter.unusedVariables false
set_option linter.unusedSimpArgs false
noncomputable section
namespace Go.Proofs.YtnhbkodnmkojpaaGreat
open Go Go.Eng
theorem wh:al Tryz.prog 116=true:=by kernel_rfl
theorem Sh:∃ z,aA Tryz.prog 4=some z∧(ofValue z).cells=[.b false]:=⟨.bool false,Az,rfl⟩
def vT (lc:List Cl) (m:Int):List UInt8:=(lc[m.toNat]?).elim [] fun x=>x.2.2.1
def II (acc:List Int) (m:Int):Bool:=acc.getLast?.any fun y=>decide (m≤y)
theorem Ie {l:List Int} {i:Nat} {x y:Int} (hi:0<i) (hy:l[i - 1]?=some y):II (l.take i) x=decide (x≤y):=by
 have h:(l.take i).getLast?=some y:=by
  have D0:=(List.getElem?_eq_some_iff.1 hy).1;rw[List.getLast?_eq_getElem?,List.length_take,Nat.min_eq_left (by omega),List.getElem?_take,zB0 (by omega)];exact hy
 unfold II;rw[h];rfl
def jg (lc:List Cl) (t:Int):List Int→List Int→Bool
 | _,[]=>true
 | acc,m::l=>if m<0 then false else if (lc.length:Int)≤m then false else if II acc m=true then false else if vT lc m≠vT lc t then false else jg lc t (acc++[m]) l
def goR (lc:List Cl):List Int→List Int→List Rl→Bool
 | T,S,[]=>(List.range lc.length).all fun j=>!(T.any (fun x=>x==(j:Int))&&S.any fun x=>x==(j:Int))
 | T,S,x::l=>if x.1<0 then false else if (lc.length:Int)≤x.1 then false else if T.any (fun y=>y==x.1)=true then false else if jg lc x.1 [] x.2=false then false else goR lc (T++[x.1]) (S++x.2) l
theorem tM (H:Hp) (a b:AC) (lc:List Cl) (lr:List Rl) (ha:iu H a lc) (hb:kJ H b lr) (hC:lc.length≤1000000) (hR:lr.length≤1000000) (hP:∀ x∈lr,x.2.length≤4611686018427387904):
  Con E2 116 [.agg [a,b]] H (fun _=>False) fun r _=>r=.one (.b (goR lc [] [] lr)):=by
 refine Con.of rfl fun lg=>?_;have ha:iu ⟨H.t,H.nx,lg⟩ a lc:=ha;have hb:kJ ⟨H.t,H.nx,lg⟩ b lr:=hb;generalize (⟨H.t,H.nx,lg⟩:Hp)=H at ha hb ⊢;refine C1.body (E:=E2) (nt:=111) (res:=[.tmp 2]) Tryz.func116 rfl rfl rfl rfl rfl fun tm A0=>?_;have h0:=A0 0 _ rfl;clear A0;have fin:∀ (e:Bool) (A:ab) (H3:Hp),slot A.tm 2=.one (.b e)→A.dfr=[]→Gr H H3→e=goR lc [] [] lr→∃ w H4,aC E2 [.tmp 2] (.ret,A,H3)=.ok [(w,H4)]∧Gr H H4∧∀ _:List Nat,w=.one (.b (goR lc [] [] lr)):=fun e A H3 h1 h2 h3 h4=>⟨_,H3,aj (.b e) (.inr rfl) h2 h1,h3,fun _=>by rw[h4]⟩;generalize E0:goR lc [] [] lr=r0 at fin;have hA:=ha;have hB:=hb;obtain ⟨z,hz,J7⟩:=Sh;have mk:∀ H,cX Tryz.prog H 238 (.one (.i .i64 (lc.length:Int))) (.one (.i .i64 (lc.length:Int)))=.val (.one (.o (.sl H.nx 0 0 lc.length 1))) (H.new (.arr ((List.replicate lc.length false).map AC.b) 4 0 0)):=fun H=>by
  rw[uv fZ Sc hz (by rw[J7];rfl) (by omega),J7,AH,List.map_replicate]
 refine qG (qA ae h0) fun K hK=>?_;refine hK _ _ ?_;clear hK K;refine R1.gen (fun A1 H1=>Gr H H1∧H.nx+1=H1.nx∧H1.get H.nx=some (.arr [a,b] 37 0 0)∧slot A1.tm 1=.one ((.o (.ptr H.nx 0 0 2)))∧A1.nt=111∧A1.dfr=[])
  ⟨(Fr.refl _).new _,rfl,?_⟩ ?_
 ·exact qU
 rintro A1 H1 ⟨g1,n1,r1,t1,B0,C0⟩;clear h0 tm;obtain ⟨N,hN⟩:∃ N,N=H.nx:=⟨_,rfl⟩;rw[←hN] at n1 r1 t1;have m1:N<H1.nx:=by omega
 have ha:=ha.gr g1;have hb:=hb.gr g1;refine qW (qA ae (qA t1 (qA B0 (qA r1 (qA m1 (qA cO (qA eN (qA gq (qA ha.len (qA ha.lt mk)))))))))) ?_;refine R1.gen (fun A2 H2=>Gr H1 H2∧N+3=H2.nx∧H2.get N=some (.arr [a,b] 37 0 0)∧H2.get (N+1)=some (.arr ((List.replicate lc.length false).map AC.b) 4 0 0)∧H2.get (N+2)=some (.arr ((List.replicate lc.length false).map AC.b) 4 0 0)∧slot A2.tm 1=.one ((.o (.ptr N 0 0 2)))∧slot A2.tm 3=.one (.i .i64 (lc.length:Int))∧slot A2.tm 4=.one ((.o (.sl (N+1) 0 0 lc.length 1)))∧slot A2.tm 5=.one ((.o (.sl (N+2) 0 0 lc.length 1)))∧A2.nt=111∧A2.dfr=[])
  ⟨((Fr.refl _).new _).new _,by show _=H1.nx+1+1;omega,?_,?_,?_,?_⟩ ?_
 ·rw[aM (by show _<H1.nx+1;omega),aM m1];exact r1
 ·rw[aM (by show _<H1.nx+1;omega)];exact az n1
 ·exact az (by show _=H1.nx+1;omega)
 ·rw[n1];have e2:N+2=H1.nx+1:=by omega
  rw[e2];repeat' (first|(simp only[aa,Nat.reduceEqDiff,reduceIte,ao,ai,t1,B0,C0];first|done|rfl)|refine ⟨?_,?_⟩)
 clear t1 B0 C0 A1;rintro A2 H2 ⟨g2,n2,r1,rs,rp,t1,t3,t4,t5,B0,C0⟩;clear m1 n1;have m1:N<H2.nx:=by omega
 have ha:=ha.gr g2;have hb:=hb.gr g2;have g2:=g1.gr g2;clear g1;have fits:∀ {m:Int} {bs:List Bool},bs.length=lc.length→0≤m→m<lc.length→m.toNat+1≤(bs.map AC.b).length:=fun h h1 h2=>by rw[List.length_map,h];omega
 have put:∀ {m:Int} {bs:List Bool},bs.length=lc.length→0≤m→m<lc.length→List.take m.toNat (List.map AC.b bs)++AC.b true::List.drop (m.toNat+1) (List.map AC.b bs)=(bs.set m.toNat true).map AC.b:=fun h h1 h2=>setRow AC.b _ _ _ (by rw[h];omega);refine qW (qA ae (qA t1 (qA B0 (qA r1 (qA m1 (qA fX (qA lH (qA lP (qA hb.len hb.lt))))))))) ?_;refine R1.aK fun K k1 k2 k3 k4=>?_;refine R1.loop (fun m A H3=>∃ (i:Nat) (T S:List Int) (bs ps:List Bool),m=lr.length - i∧i≤lr.length∧Gr H H3∧N+3≤H3.nx∧H3.get N=some (.arr [a,b] 37 0 0)∧H3.get (N+1)=some (.arr (bs.map AC.b) 4 0 0)∧H3.get (N+2)=some (.arr (ps.map AC.b) 4 0 0)∧Mk bs lc.length T∧Mk ps lc.length S∧goR lc T S (lr.drop i)=r0 ∧
   slot A.tm 1=.one ((.o (.ptr N 0 0 2)))∧slot A.tm 3=.one (.i .i64 (lc.length:Int))∧slot A.tm 4=.one ((.o (.sl (N+1) 0 0 lc.length 1)))∧slot A.tm 5=.one ((.o (.sl (N+2) 0 0 lc.length 1)))∧slot A.tm 19=.one (b)∧slot A.tm 20=.one (.i .i64 (lr.length:Int))∧slot A.tm 21=.one (.i .i64 (i:Int))∧A.nt=111∧A.dfr=[]) ?_ lr.length
  ⟨0,[],[],_,_,rfl,Nat.zero_le _,g2,Nat.le_of_eq n2,r1,rs,rp,Mk.nil _,Mk.nil _,E0,?_⟩
 ·clear t1 t3 t4 t5 B0 C0 A2 r1 rs rp E0;rintro m A H3 ⟨i,T,S,bs,ps,rfl,hi,g3,n3,r1,rs,rp,hT,hS,hr,t1,t3,t4,t5,t19,t20,t21,B0,C0⟩;have Y8:=hB.gr g3;have m1:N<H3.nx:=by omega
  have o1:N+1<H3.nx:=by omega
  have o2:N+2<H3.nx:=by omega
  refine qW (qA ae (qA t20 (qA t21 B0))) ?_;refine qE fun Kx Ky hx hy=>?_;refine dV (fun hc=>hx ?_) (fun hc=>hy ?_)
  ·clear hx hy Kx Ky;have D0:i<lr.length:=by omega
   have ex:lr[i]?=some lr[i]:=zB4 D0;have O0:lr.drop i=lr[i]::lr.drop (i+1):=List.drop_eq_getElem_cons D0;have Z0:lr.take (i+1)=lr.take i++[lr[i]]:=List.take_succ_eq_append_getElem D0;have G0:lr[i]∈lr:=List.getElem_mem D0;generalize lr[i]=x at ex O0 Z0 G0;have Q1:=zC0 i (by omega);obtain ⟨id,g,off,cells,rfl,J2,z9,J0⟩:=hB.open (by omega);have hid:id<H3.nx:=zA0 J2 g3.nx;have R0:rowOf (H3.get id) g=some cells:=by rw[g3.get _ J2 zB2];exact z9
   obtain ⟨u,K0⟩:=J0 i x ex;have hu:=K0.of;have hPx:=hP x G0;rw[O0,goR] at hr;generalize X2:jg lc x.1 [] x.2=b1 at hr;generalize S0:(if b1=false then false else goR lc (T++[x.1]) (S++x.2) (lr.drop (i+1)))=r1' at hr;refine qV ?_;refine R1.aK fun K2 q1 q2 q3 q4=>?_;refine qG (qA ae (qA t19 (qA t21 (qA B0 (qA pL (qA Bo (qA AI (qA te (qA (ixC D0) (qA hid (qA R0 (qA K0.all K0.le)))))))))))) fun K hK=>?_;refine hK _ _ ?_;clear hK K;refine R1.gen (fun A4 H4=>Gr H3 H4∧H3.nx<H4.nx∧H4.get H3.nx=some (.arr [.i .i64 x.1,u] 86 0 0)∧slot A4.tm 1=.one ((.o (.ptr N 0 0 2)))∧slot A4.tm 3=.one (.i .i64 (lc.length:Int))∧slot A4.tm 4=.one ((.o (.sl (N+1) 0 0 lc.length 1)))∧slot A4.tm 5=.one ((.o (.sl (N+2) 0 0 lc.length 1)))∧slot A4.tm 7=.one ((.o (.ptr H3.nx 0 0 2)))∧slot A4.tm 19=.one ((.o (.sl id g off lr.length 2)))∧slot A4.tm 20=.one (.i .i64 (lr.length:Int))∧slot A4.tm 21=.one (.i .i64 (i:Int))∧A4.nt=111∧A4.dfr=[])
    ⟨((Fr.refl _).new _).mod _ (.inl (zA1 _)),?_⟩ ?_
   ·exact qZ (qA t1 (qA t3 (qA t4 (qA t5 (qA t19 (qA t20 (qA t21 (qA B0 C0))))))))
   clear t1 t3 t4 t5 t19 t20 t21 B0 C0 A;rintro A H4 ⟨g4,n4,rx,t1,t3,t4,t5,t7,t19,t20,t21,B0,C0⟩;obtain ⟨M,hM⟩:∃ M,M=H3.nx:=⟨_,rfl⟩;rw[←hM] at rx n4 t7;have r1:=(g4.get _ m1 zB2).trans r1;have m1:=zA0 m1 g4.nx;have rs:=(g4.get _ o1 zB2).trans rs;have o1:=zA0 o1 g4.nx;have rp:=(g4.get _ o2 zB2).trans rp;have o2:=zA0 o2 g4.nx;have hNM:N+3≤M:=by omega
   have g4:=g3.gr g4;clear R0 hid Y8 K0 J0 J2 z9;repeat refine R1.au ?_
   (first|refine R1.oP fun K hK=>?_|refine R1.FE fun K hK=>?_)
   have rest:∀ (b:Bool) (A5:ab),(b=false→0≤x.1∧x.1<lc.length)→(if b=true then false else r1')=r0→slot A5.tm 1=.one ((.o (.ptr N 0 0 2)))∧slot A5.tm 3=.one (.i .i64 (lc.length:Int))∧slot A5.tm 4=.one ((.o (.sl (N+1) 0 0 lc.length 1)))∧slot A5.tm 5=.one ((.o (.sl (N+2) 0 0 lc.length 1)))∧slot A5.tm 7=.one ((.o (.ptr M 0 0 2)))∧slot A5.tm 19=.one ((.o (.sl id g off lr.length 2)))∧slot A5.tm 20=.one (.i .i64 (lr.length:Int))∧slot A5.tm 21=.one (.i .i64 (i:Int))∧slot A5.tm 40=.one (.b b)∧A5.nt=111∧A5.dfr=[]→K A5 H4:=by
    clear hr t1 t3 t4 t5 t7 t19 t20 t21 B0 C0 A;rintro b A hxb hr ⟨t1,t3,t4,t5,t7,t19,t20,t21,t40,B0,C0⟩;refine hK _ _ ?_;clear hK K;cases b with
    | true=>
     rw[zB0 rfl] at hr;refine qX t40 ?_;refine qW B0 ?_;exact q4 _ _ (k4 _ _ (fin (false) _ _ qp (qd C0) (g4) (hr)))
    | false=>
    rw[zB1 zA8] at hr;obtain ⟨U3,L7⟩:=hxb rfl;refine qX t40 ?_;refine R1.aY ?_;refine qG (qA ae (qA t4 (qA t7 (qA B0 (qA rx (qA n4 (qA rs (qA o1 (qA eX (qA bu (qA fZ (qA tb (qA (ixI U3 L7) (qA Nat.mul_one (qA (fits hT.1 U3 L7) (put hT.1 U3 L7)))))))))))))))) fun K hK=>?_;refine hK _ _ ?_;clear hK K;have hT:=hT.set U3 L7;generalize bs.set x.1.toNat true=bs at hT ⊢;have g5:Gr H (H4.mod (N+1) (.arr (bs.map AC.b) 4 0 0)):=g4.mod _ (.inl (by omega));have r1:(H4.mod (N+1) (.arr (bs.map AC.b) 4 0 0)).get N=_:=(aq (by omega)).trans r1;have rx:(H4.mod (N+1) (.arr (bs.map AC.b) 4 0 0)).get M=_:=(aq (by omega)).trans rx;have rp:(H4.mod (N+1) (.arr (bs.map AC.b) 4 0 0)).get (N+2)=_:=(aq (by omega)).trans rp;have rs:(H4.mod (N+1) (.arr (bs.map AC.b) 4 0 0)).get (N+1)=_:=ak rfl;have n5:M<(H4.mod (N+1) (.arr (bs.map AC.b) 4 0 0)).nx:=n4;generalize (H4.mod (N+1) (.arr (bs.map AC.b) 4 0 0))=H5 at g5 r1 rx rp rs n5 ⊢;clear g4 n4 m1 o1 o2;have O6:=hu.gr g5;refine qG (qA ae (qA t7 (qA B0 (qA rx (qA n5 (qA jv (qA mO (qA pb (qA O6.len O6.lt))))))))) fun K hK=>?_;refine hK _ _ ?_;clear hK K;refine R1.sU fun K p1 p2 p3 p4=>?_;refine R1.loop (fun m A H6=>∃ (j:Nat) (ps:List Bool),m=x.2.length - j∧j≤x.2.length∧Gr H H6∧M<H6.nx∧H6.get N=some (.arr [a,.o (.sl id g off lr.length 2)] 37 0 0)∧H6.get (N+1)=some (.arr (bs.map AC.b) 4 0 0)∧H6.get (N+2)=some (.arr (ps.map AC.b) 4 0 0)∧H6.get M=some (.arr [.i .i64 x.1,u] 86 0 0)∧Mk ps lc.length (S++x.2.take j)∧jg lc x.1 (x.2.take j) (x.2.drop j)=b1 ∧
     slot A.tm 1=.one ((.o (.ptr N 0 0 2)))∧slot A.tm 3=.one (.i .i64 (lc.length:Int))∧slot A.tm 4=.one ((.o (.sl (N+1) 0 0 lc.length 1)))∧slot A.tm 5=.one ((.o (.sl (N+2) 0 0 lc.length 1)))∧slot A.tm 7=.one ((.o (.ptr M 0 0 2)))∧slot A.tm 19=.one ((.o (.sl id g off lr.length 2)))∧slot A.tm 20=.one (.i .i64 (lr.length:Int))∧slot A.tm 21=.one (.i .i64 (i:Int))∧slot A.tm 46=.one (u)∧slot A.tm 47=.one (.i .i64 (x.2.length:Int))∧slot A.tm 48=.one (.i .i64 (j:Int))∧A.nt=111∧A.dfr=[]) ?_ x.2.length
     ⟨0,_,rfl,Nat.zero_le _,g5,n5,r1,rs,rp,rx,by rw[List.take_zero,List.append_nil];exact hS,X2,?_⟩
    ·clear t1 t3 t4 t5 t7 t19 t20 t21 t40 B0 C0 A hS r1 rs rp rx n5 O6 g5 X2;rintro m A H6 ⟨j,ps,rfl,hj,g6,n6,r1,rs,rp,rx,hS,X2,t1,t3,t4,t5,t7,t19,t20,t21,t46,t47,t48,B0,C0⟩;have m1:N<H6.nx:=by omega
     have o2:N+2<H6.nx:=by omega
     refine qW (qA ae (qA t47 (qA t48 B0))) ?_;refine qE fun Kx Ky hx hy=>?_;refine dV (fun o8=>hx ?_) (fun o8=>hy ?_)
     ·clear hx hy Kx Ky;have j7:j<x.2.length:=by omega
      have hdj:x.2.drop j=x.2[j]::x.2.drop (j+1):=List.drop_eq_getElem_cons j7;have htj:x.2.take (j+1)=x.2.take j++[x.2[j]]:=List.take_succ_eq_append_getElem j7;have ej:x.2[j]?=some x.2[j]:=zB4 j7;generalize x.2[j]=m at hdj htj ej;have hwj:=zC0 j (by omega);have hu6:=hu.gr g6;have ha6:=hA.gr g6;obtain ⟨ui,ug,uo,uc,rfl,hui,hug,hut⟩:=hu6.open (by omega);have hm1:=hut j m ej;rw[hdj,jg] at X2;refine qV ?_;refine R1.aK fun K3 w1 w2 w3 w4=>?_;refine qG (qA ae (qA t46 (qA t48 (qA B0 (qA di (qA bu (qA (ixC j7) (qA hui (qA hug (qA hm1.1 hm1.2)))))))))) fun K hK=>?_;refine hK _ _ ?_;clear hK K;refine R1.gen (fun A7 H7=>H7=H6∧slot A7.tm 1=.one ((.o (.ptr N 0 0 2)))∧slot A7.tm 3=.one (.i .i64 (lc.length:Int))∧slot A7.tm 4=.one ((.o (.sl (N+1) 0 0 lc.length 1)))∧slot A7.tm 5=.one ((.o (.sl (N+2) 0 0 lc.length 1)))∧slot A7.tm 7=.one ((.o (.ptr M 0 0 2)))∧slot A7.tm 8=.one (.i .i64 (j:Int))∧slot A7.tm 9=.one (.i .i64 (m:Int))∧slot A7.tm 19=.one ((.o (.sl id g off lr.length 2)))∧slot A7.tm 20=.one (.i .i64 (lr.length:Int))∧slot A7.tm 21=.one (.i .i64 (i:Int))∧slot A7.tm 46=.one ((.o (.sl ui ug uo x.2.length 1)))∧slot A7.tm 47=.one (.i .i64 (x.2.length:Int))∧slot A7.tm 48=.one (.i .i64 (j:Int))∧A7.nt=111∧A7.dfr=[])
       ⟨rfl,?_⟩ ?_
      ·repeat' (first|(simp only[aa,Nat.reduceEqDiff,reduceIte,ao,ai,t1,t3,t4,t5,t7,t19,t20,t21,t46,t47,t48,B0,C0];first|done|rfl)|refine ⟨?_,?_⟩)
      clear t1 t3 t4 t5 t7 t19 t20 t21 t46 t47 t48 B0 C0 A;rintro A H7 ⟨rfl,t1,t3,t4,t5,t7,t8,t9,t19,t20,t21,t46,t47,t48,B0,C0⟩;generalize p6:jg lc x.1 (x.2.take j++[m]) (x.2.drop (j+1))=b2 at X2;repeat refine R1.au ?_
      (first|refine R1.AQ (by kernel_rfl) fun K hK=>?_|refine R1.EY (by kernel_rfl) fun K hK=>?_)
      have rest2:∀ (b:Bool) (A8:ab),(b=false→0≤m∧m<lc.length)→(if b=true then false else b2)=b1→slot A8.tm 1=.one ((.o (.ptr N 0 0 2)))∧slot A8.tm 3=.one (.i .i64 (lc.length:Int))∧slot A8.tm 4=.one ((.o (.sl (N+1) 0 0 lc.length 1)))∧slot A8.tm 5=.one ((.o (.sl (N+2) 0 0 lc.length 1)))∧slot A8.tm 7=.one ((.o (.ptr M 0 0 2)))∧slot A8.tm 9=.one (.i .i64 (m:Int))∧slot A8.tm 19=.one ((.o (.sl id g off lr.length 2)))∧slot A8.tm 20=.one (.i .i64 (lr.length:Int))∧slot A8.tm 21=.one (.i .i64 (i:Int))∧slot A8.tm 46=.one ((.o (.sl ui ug uo x.2.length 1)))∧slot A8.tm 47=.one (.i .i64 (x.2.length:Int))∧slot A8.tm 48=.one (.i .i64 (j:Int))∧slot A8.tm 89=.one (.b b)∧A8.nt=111∧A8.dfr=[]→K A8 H7:=by
       clear X2 t1 t3 t4 t5 t7 t8 t9 t19 t20 t21 t46 t47 t48 B0 C0 A;rintro b A hmb X2 ⟨t1,t3,t4,t5,t7,t9,t19,t20,t21,t46,t47,t48,t89,B0,C0⟩;refine hK _ _ ?_;clear hK K;cases b with
       | true=>
        rw[zB0 rfl] at X2;rw[←X2,zB0 rfl] at S0;rw[←S0] at hr;refine qX t89 ?_;refine qW B0 ?_;exact w4 _ _ (p4 _ _ (q4 _ _ (k4 _ _ (fin (false) _ _ qp (qd C0) (g6) (hr)))))
       | false=>
       rw[zB1 zA8,←p6,←htj] at X2;obtain ⟨N7,V8⟩:=hmb rfl;refine qX t89 ?_;refine R1.aY ?_;refine qG (qA ae (qA t5 (qA t9 (qA B0 (qA rp (qA o2 (qA fZ (qA tb (qA (ixI N7 V8) (qA Nat.mul_one (qA (fits hS.1 N7 V8) (put hS.1 N7 V8)))))))))))) fun K hK=>?_;refine hK _ _ ?_;clear hK K;refine w1 _ _ ?_;refine qW (qA B0 (qA t48 hwj)) ?_;have hS:=hS.set N7 V8;rw[List.append_assoc,←htj] at hS;refine ⟨x.2.length - (j+1),by omega,j+1,ps.set m.toNat true,rfl,j7,g6.mod _ (.inl (by omega)),n6,(aq (by omega)).trans r1,(aq (by omega)).trans rs,ak rfl,(aq (by omega)).trans rx,hS,X2,?_⟩;repeat' (first|(simp only[aa,Nat.reduceEqDiff,reduceIte,ao,ai,t1,t3,t4,t5,t7,t19,t20,t21,t46,t47,t48,B0,C0];first|done|rfl)|refine ⟨?_,?_⟩)
      clear hK;by_cases c0:m<0
      ·rw[zB0 c0] at X2;have c0:=eq_true c0;refine qS (qA ae (qA t9 (qA B0 c0))) ?_;refine rest2 true _ (fun h=>by cases h) X2 ?_;repeat' (first|(simp only[aa,Nat.reduceEqDiff,reduceIte,ao,ai,t1,t3,t4,t5,t7,t9,t19,t20,t21,t46,t47,t48,B0,C0];first|done|rfl)|refine ⟨?_,?_⟩)
      rw[zB1 c0] at X2;by_cases c1:(lc.length:Int)≤m
      ·rw[zB0 c1] at X2;have c0:=eq_false c0;have c1:=eq_true c1;refine qS (qA ae (qA t3 (qA t9 (qA B0 (qA c0 c1))))) ?_;refine rest2 true _ (fun h=>by cases h) X2 ?_;repeat' (first|(simp only[aa,Nat.reduceEqDiff,reduceIte,ao,ai,t1,t3,t4,t5,t7,t9,t19,t20,t21,t46,t47,t48,B0,C0];first|done|rfl)|refine ⟨?_,?_⟩)
      rw[zB1 c1] at X2;have N7:0≤m:=by omega
      have V8:m<lc.length:=by omega
      have c0:=eq_false c0;have c1:=eq_false c1;obtain ⟨ci,cg,co,cc,rfl,c_,hcg,hct⟩:=ha6.open (by omega);have em:lc[m.toNat]?=some lc[m.toNat]:=zB4 (by omega);have et:lc[x.1.toNat]?=some lc[x.1.toNat]:=zB4 (by omega);have lm:vT lc m=lc[m.toNat].2.2.1:=by unfold vT;rw[em];rfl
      have lt:vT lc x.1=lc[x.1.toNat].2.2.1:=by unfold vT;rw[et];rfl
      rw[lm,lt] at X2;generalize lc[m.toNat]=ym at em X2;generalize lc[x.1.toNat]=yt at et X2;obtain ⟨_,_,hym⟩:=hct _ _ em;obtain ⟨_,_,hyt⟩:=hct _ _ et;have m2:M<H7.nx:=n6;have last:∀ (d:Bool),(if ym.2.2.1≠yt.2.2.1 then false else b2)=b1→lEq ym.2.2.1 yt.2.2.1=d→(if (!d)=true then false else b2)=b1:=fun d h e=>by
       rw[cQ] at e;cases d with
       | true=>rw[zB1 (fun hn=>hn (eq_of_beq e))] at h;exact h
       | false=>rw[zB0 (ne_of_beq_false e)] at h;exact h
      generalize hle:lEq ym.2.2.1 yt.2.2.1=d at last;by_cases hj0:j=0
      ·have cj:((0:Int)<(j:Int))=False:=eq_false (by omega);rw[hj0,List.take_zero,zB1 (by exact zA8)] at X2;refine qS (qA ae (qA t1 (qA t3 (qA t7 (qA t8 (qA t9 (qA B0 (qA c0 (qA c1 (qA cj (qA r1 (qA m1 (qA rx (qA m2 (qA cO (qA eN (qA fq (qA hY (qA aT (qA eX (qA bu (qA (ixI N7 V8) (qA (ixI U3 L7) (qA c_ (qA hcg (qA hym.f3 (qA hym.le3 (qA hyt.f3 (qA hyt.le3 hle))))))))))))))))))))))))))))) ?_;refine rest2 (!d) _ (fun _=>⟨N7,V8⟩) (last d X2 rfl) ?_;repeat' (first|(simp only[aa,Nat.reduceEqDiff,reduceIte,ao,ai,t1,t3,t4,t5,t7,t9,t19,t20,t21,t46,t47,t48,B0,C0];first|done|rfl)|refine ⟨?_,?_⟩)
      have cj:((0:Int)<(j:Int))=True:=eq_true (by omega);have G5:j - 1<x.2.length:=by omega
      have ey:x.2[j - 1]?=some x.2[j - 1]:=zB4 G5;have hpp:=fun z=>Ie (x:=z) (by omega) ey;generalize x.2[j - 1]=y at ey hpp;have F1:=hut (j - 1) y ey;have y5:IntKind.i64.wrap ((j:Int) - 1)=((j - 1:Nat):Int):=by rw[bx (by omega) (by omega)];omega
      rw[hpp m] at X2;by_cases c2:m≤y
      ·rw[zB0 (decide_eq_true c2)] at X2;have c2:=eq_true c2;refine qS (qA ae (qA t3 (qA t7 (qA t8 (qA t9 (qA B0 (qA c0 (qA c1 (qA cj (qA c2 (qA y5 (qA rx (qA m2 (qA jv (qA mO (qA di (qA bu (qA (ixC G5) (qA hui (qA hug (qA F1.1 F1.2))))))))))))))))))))) ?_;refine rest2 true _ (fun h=>by cases h) X2 ?_;repeat' (first|(simp only[aa,Nat.reduceEqDiff,reduceIte,ao,ai,t1,t3,t4,t5,t7,t9,t19,t20,t21,t46,t47,t48,B0,C0];first|done|rfl)|refine ⟨?_,?_⟩)
      rw[zB1 (by rw[decide_eq_true_eq];exact c2)] at X2;have c2:=eq_false c2;refine qS (qA ae (qA t1 (qA t3 (qA t7 (qA t8 (qA t9 (qA B0 (qA c0 (qA c1 (qA cj (qA c2 (qA y5 (qA r1 (qA m1 (qA rx (qA m2 (qA cO (qA eN (qA fq (qA hY (qA aT (qA eX (qA jv (qA mO (qA di (qA bu (qA (ixC G5) (qA hui (qA hug (qA F1.1 (qA F1.2 (qA (ixI N7 V8) (qA (ixI U3 L7) (qA c_ (qA hcg (qA hym.f3 (qA hym.le3 (qA hyt.f3 (qA hyt.le3 hle))))))))))))))))))))))))))))))))))))))) ?_;refine rest2 (!d) _ (fun _=>⟨N7,V8⟩) (last d X2 rfl) ?_;repeat' (first|(simp only[aa,Nat.reduceEqDiff,reduceIte,ao,ai,t1,t3,t4,t5,t7,t9,t19,t20,t21,t46,t47,t48,B0,C0];first|done|rfl)|refine ⟨?_,?_⟩)
     clear hx hy Kx Ky;have H_:j=x.2.length:=by omega
     rw[H_,List.drop_length,jg] at X2;rw[H_,List.take_length] at hS;rw[←X2,zB1 (by decide)] at S0;rw[←S0] at hr;refine qW B0 ?_;refine p2 _ _ (q1 _ _ ?_);refine qW (qA B0 (qA t21 Q1)) ?_;refine ⟨lr.length - (i+1),by omega,i+1,T++[x.1],S++x.2,bs,ps,rfl,D0,g6,by omega,r1,rs,rp,hT,hS,hr,?_⟩;repeat' (first|(simp only[aa,Nat.reduceEqDiff,reduceIte,ao,ai,t1,t3,t4,t5,t19,t20,t21,B0,C0];first|done|rfl)|refine ⟨?_,?_⟩)
    repeat' (first|(simp only[aa,Nat.reduceEqDiff,reduceIte,ao,ai,t1,t3,t4,t5,t7,t19,t20,t21,B0,C0];first|done|rfl)|refine ⟨?_,?_⟩)
   clear hK;by_cases c0:x.1<0
   ·rw[zB0 c0] at hr;have c0:=eq_true c0;refine qS (qA ae (qA t7 (qA B0 (qA rx (qA n4 (qA eX (qA bu c0))))))) ?_;refine rest true _ (fun h=>by cases h) hr ?_;repeat' (first|(simp only[aa,Nat.reduceEqDiff,reduceIte,ao,ai,t1,t3,t4,t5,t7,t19,t20,t21,B0,C0];first|done|rfl)|refine ⟨?_,?_⟩)
   rw[zB1 c0] at hr;by_cases c1:(lc.length:Int)≤x.1
   ·rw[zB0 c1] at hr;have c0:=eq_false c0;have c1:=eq_true c1;refine qS (qA ae (qA t3 (qA t7 (qA B0 (qA rx (qA n4 (qA eX (qA bu (qA c0 c1))))))))) ?_;refine rest true _ (fun h=>by cases h) hr ?_;repeat' (first|(simp only[aa,Nat.reduceEqDiff,reduceIte,ao,ai,t1,t3,t4,t5,t7,t19,t20,t21,B0,C0];first|done|rfl)|refine ⟨?_,?_⟩)
   rw[zB1 c1] at hr;have U3:0≤x.1:=by omega
   have L7:x.1<lc.length:=by omega
   have c0:=eq_false c0;have c1:=eq_false c1;refine qS (qA ae (qA t3 (qA t4 (qA t7 (qA B0 (qA rx (qA n4 (qA rs (qA o1 (qA eX (qA bu (qA jd (qA c0 (qA c1 (qA fZ (qA (ixI U3 L7) (qA Nat.mul_one (qA (fits hT.1 U3 L7) (qA zT (hT.at U3 L7)))))))))))))))))))) ?_;refine rest (T.any fun y=>y==x.1) _ (fun _=>⟨U3,L7⟩) hr ?_;repeat' (first|(simp only[aa,Nat.reduceEqDiff,reduceIte,ao,ai,t1,t3,t4,t5,t7,t19,t20,t21,B0,C0];first|done|rfl)|refine ⟨?_,?_⟩)
  clear hx hy Kx Ky;have S1:i=lr.length:=by omega
  rw[S1,List.drop_length,goR] at hr;have bad:∀ j:Nat,j<lc.length→((T.any fun x=>x==(j:Int))&&S.any fun x=>x==(j:Int))=true→false=r0:=fun j hj h=>by
   rw[←hr];exact (List.all_eq_false.2 ⟨j,List.mem_range.2 hj,by rw[h];decide⟩).symm
  have aN:(∀ j:Nat,j<lc.length→((T.any fun x=>x==(j:Int))&&S.any fun x=>x==(j:Int))=false)→true=r0:=fun h=>by
   rw[←hr];exact (List.all_eq_true.2 fun j hj=>by rw[h j (List.mem_range.1 hj)];rfl).symm
  clear hr;refine qW B0 ?_;refine k2 _ _ ?_;clear k1 k2 k3 k4 K;refine qW (qA ae (qA t4 (qA B0 (qA uG o1)))) ?_;refine R1.aK fun K k1 k2 k3 k4=>?_;refine R1.loop (fun m A H4=>∃ j:Nat,m=lc.length - j∧j≤lc.length∧H4=H3∧(∀ j':Nat,j'<j→((T.any fun x=>x==(j':Int))&&S.any fun x=>x==(j':Int))=false)∧slot A.tm 4=.one ((.o (.sl (N+1) 0 0 lc.length 1)))∧slot A.tm 5=.one ((.o (.sl (N+2) 0 0 lc.length 1)))∧slot A.tm 96=.one (.i .i64 (lc.length:Int))∧slot A.tm 97=.one (.i .i64 (j:Int))∧A.nt=111∧A.dfr=[]) ?_ lc.length
   ⟨0,rfl,Nat.zero_le _,rfl,fun j' h=>absurd h (Nat.not_lt_zero _),?_⟩
  ·clear t1 t3 t4 t5 t19 t20 t21 B0 C0 A;rintro m A H4 ⟨j,rfl,hj,rfl,P1,t4,t5,t96,t97,B0,C0⟩;refine qW (qA ae (qA t96 (qA t97 B0))) ?_;refine qE fun Kx Ky hx hy=>?_;refine dV (fun hc=>hx ?_) (fun hc=>hy ?_)
   ·clear hx hy Kx Ky;have j7:j<lc.length:=by omega
    have hwj:=zC0 j (by omega);have hf1:j+1≤(bs.map AC.b).length:=by rw[List.length_map,hT.1];exact j7
    have W8:j+1≤(ps.map AC.b).length:=by rw[List.length_map,hS.1];exact j7
    have e1:=hT.2 j j7;have e2:=hS.2 j j7;have m7:=bad j j7;have U4:((T.any fun x=>x==(j:Int))&&S.any fun x=>x==(j:Int))=false→∀ j':Nat,j'<j+1→((T.any fun x=>x==(j':Int))&&S.any fun x=>x==(j':Int))=false:=fun h j' C'=>by
     rcases Nat.lt_or_eq_of_le (Nat.le_of_lt_succ C') with h'|h'
     ·exact P1 j' h'
     rw[h'];exact h
    generalize (T.any fun x=>x==(j:Int))=d1 at e1 m7 U4;generalize (S.any fun x=>x==(j:Int))=d2 at e2 m7 U4;refine qV ?_;refine R1.aK fun K2 q1 q2 q3 q4=>?_;refine qW (qA ae (qA t97 B0)) ?_;cases d1 with
    | false=>
     refine qG (qA ae (qA t4 (qA t97 (qA B0 (qA rs (qA o1 (qA fZ (qA jd (qA (ixC j7) (qA Nat.mul_one (qA hf1 (qA zT e1)))))))))))) fun K hK=>?_;refine hK _ _ ?_;clear hK K;refine qY ?_;refine qW B0 ?_;refine q1 _ _ ?_;refine qW (qA B0 (qA t97 hwj)) ?_;refine ⟨lc.length - (j+1),by omega,j+1,rfl,j7,rfl,U4 rfl,?_⟩;repeat' (first|(simp only[aa,Nat.reduceEqDiff,reduceIte,ao,ai,t4,t5,t96,t97,B0,C0];first|done|rfl)|refine ⟨?_,?_⟩)
    | true=>
     refine qG (qA ae (qA t4 (qA t5 (qA t97 (qA B0 (qA rs (qA o1 (qA rp (qA o2 (qA fZ (qA jd (qA (ixC j7) (qA Nat.mul_one (qA hf1 (qA W8 (qA zT (qA e1 e2))))))))))))))))) fun K hK=>?_;refine hK _ _ ?_;clear hK K;cases d2 with
     | true=>
      refine qY ?_;refine qW B0 ?_;exact q4 _ _ (k4 _ _ (fin (false) _ _ qp (qd C0) (g3) (m7 rfl)))
     | false=>
      refine qY ?_;refine qW B0 ?_;refine q1 _ _ ?_;refine qW (qA B0 (qA t97 hwj)) ?_;refine ⟨lc.length - (j+1),by omega,j+1,rfl,j7,rfl,U4 rfl,?_⟩;repeat' (first|(simp only[aa,Nat.reduceEqDiff,reduceIte,ao,ai,t4,t5,t96,t97,B0,C0];first|done|rfl)|refine ⟨?_,?_⟩)
   clear hx hy Kx Ky;have H_:j=lc.length:=by omega
   rw[H_] at P1;refine qW B0 ?_;refine k2 _ _ ?_;refine qW B0 ?_;exact fin (true) _ _ qp (qd C0) (g3) (aN P1)
  repeat' (first|(simp only[aa,Nat.reduceEqDiff,reduceIte,ao,ai,t4,t5,B0,C0];first|done|rfl)|refine ⟨?_,?_⟩)
 repeat' (first|(simp only[aa,Nat.reduceEqDiff,reduceIte,ao,ai,t1,t3,t4,t5,B0,C0];first|done|rfl)|refine ⟨?_,?_⟩)
theorem GV:al Tryz.prog 63=true:=by kernel_rfl
def kW:Option (List Lad)→Pz→Int
 | none,_=>1
 | some ls,p=>if (64:Int)<p.1.length then 3 else if (64:Int)<p.2.length then 3 else if goC (some ls) [] p.1≠0 then goC (some ls) [] p.1 else if goR p.1 [] [] p.2=false then 53 else 0
theorem EN (H:Hp) (k a b:AC) (o:Option (List Lad)) (p:Pz) (hk:bP H k o) (hL:∀ ls,o=some ls→∀ x∈ls,x.2.length≤1000000) (ha:iu H a p.1) (hb:kJ H b p.2) (hB:PzB p):
  Con E2 63 [.one k,.agg [a,b]] H (fun _=>False) fun r _=>r=.one (.i .i64 (kW o p)):=by
 refine Con.of rfl fun lg=>?_;have hk:bP ⟨H.t,H.nx,lg⟩ k o:=bP.same (H:=H) rfl rfl hk;have ha:iu ⟨H.t,H.nx,lg⟩ a p.1:=ha;have hb:kJ ⟨H.t,H.nx,lg⟩ b p.2:=hb;generalize (⟨H.t,H.nx,lg⟩:Hp)=H at hk ha hb ⊢;refine C1.body (E:=E2) (nt:=28) (res:=[.tmp 4]) Tryz.func63 rfl rfl rfl rfl rfl fun tm A0=>?_;have h0:=A0 0 _ rfl;have h1:=A0 1 _ rfl;clear A0;have fin:∀ (e:Int) (A:ab) (H3:Hp),slot A.tm 4=.one (.i .i64 e)→A.dfr=[]→Gr H H3→e=kW o p→∃ w H4,aC E2 [.tmp 4] (.ret,A,H3)=.ok [(w,H4)]∧Gr H H4∧∀ _:List Nat,w=.one (.i .i64 (kW o p)):=fun e A H3 h1 h2 h3 h4=>⟨_,H3,aj (.i .i64 e) (.inr rfl) h2 h1,h3,fun _=>by rw[h4]⟩;generalize E0:kW o p=r0 at fin;obtain ⟨lc,lr⟩:=p;have hP:∀ x∈lr,x.2.length≤4611686018427387904:=fun x hx=>by have:=hB.p x hx;omega
 simp only at ha hb
 refine qG (qA ae (qA h0 h1)) fun K hK=>?_;refine hK _ _ ?_;clear hK K;refine R1.gen (fun A1 H1=>Gr H H1∧H.nx<H1.nx∧H1.get H.nx=some (.arr [a,b] 37 0 0)∧slot A1.tm 0=.one (k)∧slot A1.tm 3=.one ((.o (.ptr H.nx 0 0 2)))∧A1.nt=28∧A1.dfr=[])
  ⟨(Fr.refl _).new _,?_⟩ ?_
 ·exact qZ h0
 rintro A1 H1 ⟨g1,m1,r1,t0,t3,B0,C0⟩;clear h0 h1 tm;have hk:=hk.gr g1;have ha:=ha.gr g1;have hb:=hb.gr g1;refine qG (qA ae (qA t0 (qA B0 wO))) fun K hK=>?_;refine WE.con (uR H1 k o hk hL) fun w H2 g2 hw=>?_;subst hw;have r1:=(g2.get _ m1 zB2).trans r1;have m1:=zA0 m1 g2.nx;have hk:=hk.gr g2;have ha:=ha.gr g2;have hb:=hb.gr g2;have g2:=g1.gr g2;clear g1;refine qS (qA ae B0) ?_;refine hK _ _ ?_;clear hK K;cases o with
 | none=>
  repeat refine R1.au ?_
  (first|refine R1.xR fun Kx Ky hx hy=>?_|refine R1.yf fun Kx Ky hx hy=>?_);simp only[qB,Option.isNone]
  refine hx ?_;clear hx hy Kx Ky;refine qW B0 ?_;exact fin (1) _ _ qp (qd C0) (g2) (E0)
 | some ls=>
 repeat refine R1.au ?_
 (first|refine R1.xR fun Kx Ky hx hy=>?_|refine R1.yf fun Kx Ky hx hy=>?_);simp only[qB,Option.isNone]
 refine hy ?_;clear hx hy Kx Ky;refine R1.aY ?_;rw[kW] at E0;simp only at E0
 by_cases c1:(64:Int)<lc.length
 ·rw[zB0 c1] at E0;have c1:=eq_true c1;refine qG (qA ae (qA t3 (qA B0 (qA r1 (qA m1 (qA cO (qA eN (qA gq (qA ha.len (qA ha.lt c1)))))))))) fun K hK=>?_;refine hK _ _ ?_;clear hK K;refine qY ?_;refine qW B0 ?_;exact fin (3) _ _ qp (qd C0) (g2) (E0)
 rw[zB1 c1] at E0;by_cases c2:(64:Int)<lr.length
 ·rw[zB0 c2] at E0;have c1:=eq_false c1;have c2:=eq_true c2;refine qG (qA ae (qA t3 (qA B0 (qA r1 (qA m1 (qA cO (qA fX (qA eN (qA lH (qA gq (qA lP (qA ha.len (qA ha.lt (qA hb.len (qA hb.lt (qA c1 c2)))))))))))))))) fun K hK=>?_;refine hK _ _ ?_;clear hK K;refine qY ?_;refine qW B0 ?_;exact fin (3) _ _ qp (qd C0) (g2) (E0)
 rw[zB1 c2] at E0;have hC:lc.length≤1000000:=by omega
 have hR:lr.length≤1000000:=by omega
 have c1:=eq_false c1;have c2:=eq_false c2;refine qG (qA ae (qA t3 (qA B0 (qA r1 (qA m1 (qA cO (qA fX (qA eN (qA lH (qA gq (qA lP (qA ha.len (qA ha.lt (qA hb.len (qA hb.lt (qA c1 c2)))))))))))))))) fun K hK=>?_;refine hK _ _ ?_;clear hK K;refine qY ?_;refine R1.aY ?_;refine qG (qA ae (qA t0 (qA t3 (qA B0 (qA r1 (qA m1 (qA cO (qA eN vY)))))))) fun K hK=>?_;refine WE.con (ux H2 k a (some ls) lc hk hL ha hC) fun w H3 g3 hw=>?_;subst hw;have r1:=(g3.get _ m1 zB2).trans r1;have m1:=zA0 m1 g3.nx;have ha:=ha.gr g3;have hb:=hb.gr g3;have g3:=g2.gr g3;refine qS (qA ae B0) ?_;refine hK _ _ ?_;clear hK K;generalize goC (some ls) [] lc=e0 at E0 ⊢;by_cases N0:e0=0
 case neg=>
  have ce:(e0==0)=false:=zB5 N0;rw[zB0 N0] at E0;refine qW (qA ae (qA B0 ce)) ?_;refine qY ?_;refine qW B0 ?_;exact fin (e0) _ _ qp (qd C0) (g3) (E0)
 rw[zB1 (fun h=>h N0)] at E0;have ce:(e0==0)=true:=by rw[N0];rfl
 refine qW (qA ae (qA B0 ce)) ?_;refine qY ?_;refine R1.aY ?_;refine qG (qA ae (qA t3 (qA B0 (qA r1 (qA m1 (qA ia wh)))))) fun K hK=>?_;refine WE.con (tM H3 a b lc lr ha hb hC hR hP) fun w H4 g4 hw=>?_;subst hw;have g4:=g3.gr g4;refine qS (qA ae B0) ?_;refine hK _ _ ?_;clear hK K;cases hg:goR lc [] [] lr with
 | false=>
  rw[hg,zB0 rfl] at E0;refine qY ?_;refine qW B0 ?_;exact fin (53) _ _ qp (qd C0) (g4) (E0)
 | true=>
  rw[hg,zB1 (by decide:¬(true=false))] at E0;refine qY ?_;refine qW B0 ?_;exact fin (0) _ _ qp (qd C0) (g4) (E0)
theorem Mv:al Tryz.prog 24=true:=by kernel_rfl
def kA (o:Option (List Lad)):List Int→List Cl→List Int×Int
 | acc,[]=>(acc,0)
 | acc,x::l=>if (gM o x).2≠0 then ([],(gM o x).2) else kA o (acc++[(gM o x).1]) l
def qI (o:Option (List Lad)) (p:Pz):List Int×Int:=if kW o p≠0 then ([],kW o p) else kA o [] p.1
theorem Ox {o:Option (List Lad)} {p:Pz} (h:kW o p=0):∃ ls,o=some ls∧p.1.length≤64∧p.2.length≤64∧goC o [] p.1=0∧goR p.1 [] [] p.2=true:=by
 cases o with
 | none=>rw[kW] at h;cases h
 | some ls=>
  rw[kW] at h;refine ⟨ls,rfl,?_⟩;by_cases c1:(64:Int)<p.1.length
  ·rw[zB0 c1] at h;cases h
  rw[zB1 c1] at h;by_cases c2:(64:Int)<p.2.length
  ·rw[zB0 c2] at h;cases h
  rw[zB1 c2] at h;by_cases c3:goC (some ls) [] p.1≠0
  ·rw[zB0 c3] at h;exact absurd h c3
  rw[zB1 c3] at h;refine ⟨by omega,by omega,Classical.not_not.1 c3,?_⟩;cases hg:goR p.1 [] [] p.2 with
  | true=>rfl
  | false=>rw[hg,zB0 rfl] at h;cases h
theorem HG (H:Hp) (k a b:AC) (o:Option (List Lad)) (p:Pz) (hk:bP H k o) (hL:∀ ls,o=some ls→∀ x∈ls,x.2.length≤1000000) (ha:iu H a p.1) (hb:kJ H b p.2) (hB:PzB p):
  Con E2 24 [.one k,.agg [a,b]] H (fun _=>False) fun r H'=>∃ c,r=.tup [(false,[c]),(false,[.i .i64 (qI o p).2])]∧SlI H' c (qI o p).1:=by
 refine Con.of rfl fun lg=>?_;have hk:bP ⟨H.t,H.nx,lg⟩ k o:=bP.same (H:=H) rfl rfl hk;have ha:iu ⟨H.t,H.nx,lg⟩ a p.1:=ha;have hb:kJ ⟨H.t,H.nx,lg⟩ b p.2:=hb;generalize (⟨H.t,H.nx,lg⟩:Hp)=H at hk ha hb ⊢;refine C1.body (E:=E2) (nt:=40) (res:=[.tmp 4,.tmp 5]) Tryz.func24 rfl rfl rfl rfl rfl fun tm A0=>?_;have h0:=A0 0 _ rfl;have h1:=A0 1 _ rfl;clear A0;generalize E0:qI o p=r0;have fin:∀ (c:AC) (e:Int) (A:ab) (H3:Hp),slot A.tm 4=.one c→slot A.tm 5=.one (.i .i64 e)→A.dfr=[]→Gr H H3→SlI H3 c r0.1∧e=r0.2→∃ w H4,aC E2 [.tmp 4,.tmp 5] (.ret,A,H3)=.ok [(w,H4)]∧Gr H H4∧∀ lg':List Nat,∃ c,w=.tup [(false,[c]),(false,[.i .i64 r0.2])]∧SlI ⟨H4.t,H4.nx,lg'⟩ c r0.1:=fun c e A H3 h1 h2 h3 h4 h5=>⟨_,H3,bt c (.i .i64 e) (.inr rfl) h3 h1 h2,h4,fun _=>⟨c,by rw[h5.2],h5.1⟩⟩;refine qG (qA ae (qA h0 h1)) fun K hK=>?_;refine hK _ _ ?_;clear hK K;refine R1.gen (fun A1 H1=>Gr H H1∧H.nx<H1.nx∧H1.get H.nx=some (.arr [a,b] 37 0 0)∧slot A1.tm 0=.one (k)∧slot A1.tm 3=.one ((.o (.ptr H.nx 0 0 2)))∧A1.nt=40∧A1.dfr=[])
  ⟨(Fr.refl _).new _,?_⟩ ?_
 ·exact qZ h0
 rintro A1 H1 ⟨g1,m1,r1,t0,t3,B0,C0⟩;clear h0 h1 tm;have hk:=hk.gr g1;have ha:=ha.gr g1;have hb:=hb.gr g1;refine qG (qA ae (qA t0 (qA t3 (qA B0 (qA r1 (qA m1 (qA ia GV))))))) fun K hK=>?_;refine WE.con (EN H1 k a b o p hk hL ha hb hB) fun w H2 g2 hw=>?_;subst hw;have r1:=(g2.get _ m1 zB2).trans r1;have m1:=zA0 m1 g2.nx;have hk:=hk.gr g2;have ha:=ha.gr g2;have hb:=hb.gr g2;have g2:=g1.gr g2;clear g1;refine qS (qA ae B0) ?_;refine hK _ _ ?_;clear hK K;rw[qI] at E0;have B1:=@Ox o p;generalize kW o p=e0 at E0 B1 ⊢;by_cases N0:e0=0
 case neg=>
  have ce:(e0==0)=false:=zB5 N0;rw[zB0 N0] at E0;refine qW (qA ae (qA B0 ce)) ?_;refine qY ?_;refine qW B0 ?_;exact fin (.o .nilS) (e0) _ _ qp qp (qd C0) (g2) (⟨by rw[←E0];exact SlI.nil,by rw[←E0]⟩)
 rw[zB1 (fun h=>h N0)] at E0;obtain ⟨ls,rfl,hC,_,_,_⟩:=B1 N0;obtain ⟨l,lr⟩:=p;simp only at E0 ha hC
 have ce:(e0==0)=true:=by rw[N0];rfl
 refine qW (qA ae (qA B0 ce)) ?_;refine qY ?_;obtain ⟨N,hN⟩:∃ N,N=H.nx:=⟨_,rfl⟩;rw[←hN] at m1 r1 t3;clear hN;obtain ⟨zi,N',T5⟩:=vI;refine qW (qA ae (qA t3 (qA B0 (qA r1 (qA m1 (qA cO (qA eN (qA gq (qA ha.len ha.lt))))))))) ?_;refine R1.aK fun K k1 k2 k3 k4=>?_;refine R1.loop (fun m A H3=>∃ (i:Nat) (out:List Int) (v:AC) (r:Option Nat),m=l.length - i∧i≤l.length∧out.length=i∧Gr H2 H3∧kA (some ls) out (l.drop i)=r0∧eo H3 v 3 1 out.length (out.flatMap sH) r∧(∀ q,r=some q→H2.nx≤q)∧slot A.tm 0=.one (k)∧slot A.tm 7=.one (v)∧slot A.tm 19=.one (a)∧slot A.tm 20=.one (.i .i64 (l.length:Int))∧slot A.tm 21=.one (.i .i64 (i:Int))∧A.nt=40∧A.dfr=[]) ?_ l.length
  ⟨0,[],.o .nilS,none,rfl,Nat.zero_le _,rfl,Fr.refl _,E0,.inl ⟨rfl,rfl,rfl,rfl⟩,fun q hq=>(by cases hq),?_⟩
 ·clear t0 t3 B0 C0 A1 E0;rintro m A H3 ⟨i,out,v,r,rfl,hi,V2,g3,hr,V1,L0,t0,t7,t19,t20,t21,B0,C0⟩;have ha3:=ha.gr g3;have hk3:=hk.gr g3;refine qW (qA ae (qA t20 (qA t21 B0))) ?_;refine qE fun Kx Ky hx hy=>?_;refine dV (fun hc=>hx ?_) (fun hc=>hy ?_)
  ·clear hx hy Kx Ky;have D0:i<l.length:=by omega
   have ex:=zB4 D0;have O0:=zC1 D0;have Z0:=zC2 D0;have G0:l[i]∈l:=List.getElem_mem D0;generalize l[i]=x at ex O0 Z0 G0;have Q1:=zC0 i (by omega);obtain ⟨id,g,off,cells,rfl,hid,R0,J0⟩:=ha3.open (by omega);obtain ⟨p,q,K0⟩:=J0 i x ex;rw[O0,kA] at hr;refine qV ?_;refine R1.aK fun K2 q1 q2 q3 q4=>?_;refine qG (qA ae (qA t19 (qA t21 (qA B0 (qA fq (qA pd (qA sN (qA pE (qA (ixC D0) (qA hid (qA R0 (qA K0.all K0.le)))))))))))) fun K hK=>?_;refine hK _ _ ?_;clear hK K;refine R1.gen (fun A4 H4=>Gr H3 H4∧H3.nx<H4.nx∧H4.get H3.nx=some (.arr [.i .i64 x.1,.o (.str x.2.1),.o (.str x.2.2.1),p,q] 84 0 0)∧slot A4.tm 0=.one (k)∧slot A4.tm 7=.one (v)∧slot A4.tm 9=.one ((.o (.ptr H3.nx 0 0 5)))∧slot A4.tm 19=.one ((.o (.sl id g off l.length 5)))∧slot A4.tm 20=.one (.i .i64 (l.length:Int))∧slot A4.tm 21=.one (.i .i64 (i:Int))∧A4.nt=40∧A4.dfr=[])
    ⟨((Fr.refl _).new _).mod _ (.inl (zA1 _)),?_⟩ ?_
   ·exact qZ (qA t0 (qA t7 (qA t19 (qA t20 (qA t21 (qA B0 C0))))))
   clear t0 t7 t19 t20 t21 B0 C0 A;rintro A H4 ⟨g4,n4,rx,t0,t7,t9,t19,t20,t21,B0,C0⟩;refine qG (qA ae (qA t0 (qA t9 (qA B0 (qA rx (qA n4 (qA pd JR))))))) fun K hK=>?_;refine WE.con (EW H4 k p q (some ls) x (hk3.gr g4) hL (K0.of1.gr g4) (K0.of2.gr g4)) fun w H5 g5 hw=>?_;subst hw;have g35:=g4.gr g5;have g25:=g3.gr g35;refine qS (qA ae B0) ?_;refine hK _ _ ?_;clear hK K;generalize gM (some ls) x=rx at hr ⊢;obtain ⟨n,e1⟩:=rx;simp only at hr ⊢
   by_cases R4:e1=0
   case neg=>
    have ce:(e1==0)=false:=zB5 R4;rw[zB0 R4] at hr;refine qW (qA ae (qA B0 ce)) ?_;refine qY ?_;refine qW B0 ?_;exact q4 _ _ (k4 _ _ (fin (.o .nilS) (e1) _ _ qp qp (qd C0) (g2.gr g25) (⟨by rw[←hr];exact SlI.nil,by rw[←hr]⟩)))
   rw[zB1 (fun h=>h R4)] at hr;have ce:(e1==0)=true:=by rw[R4];rfl
   refine qW (qA ae (qA B0 ce)) ?_;refine qY ?_;refine R1.aY ?_;obtain ⟨M4,v6,H6,r6,L1,b7,N5,O'⟩:=fm di qR N' T5 (by decide) (V1.fr g35 fun _ _ h=>h) [.i .i64 n] rfl (by omega);refine qG (qA ae (qA t7 (qA B0 (qA di (qA nF (qA jQ (qA L1 M4))))))) fun K hK=>?_;refine ⟨M4,?_⟩;refine hK _ _ ?_;clear hK K;refine q1 _ _ ?_;refine qW (qA B0 (qA t21 Q1)) ?_;refine ⟨l.length - (i+1),by omega,i+1,out++[n],v6,some r6,rfl,D0,by rw[List.length_append,V2];rfl,g25.then N5 fun q hq=>.inl (L0 q hq),hr,?_,fun q hq=>?_,?_⟩
   ·rw[List.length_append,List.flatMap_append];exact b7
   ·cases hq
    rcases O' with e|e
    ·exact L0 _ e
    exact zA2 g25.nx e
   repeat' (first|(simp only[aa,Nat.reduceEqDiff,reduceIte,ao,ai,t0,t7,t19,t20,t21,B0,C0];first|done|rfl)|refine ⟨?_,?_⟩)
  clear hx hy Kx Ky;have S1:i=l.length:=by omega
  rw[S1,List.drop_length,kA] at hr;refine qW B0 ?_;refine k2 _ _ ?_;refine qW (qA B0 t7) ?_;exact fin (v) (0) _ _ qp qp (qd C0) (g2.gr g3) (⟨by rw[←hr];exact V1.slc,by rw[←hr]⟩)
 repeat' (first|(simp only[aa,Nat.reduceEqDiff,reduceIte,ao,ai,t0,B0,C0];first|done|rfl)|refine ⟨?_,?_⟩)
theorem PY {o:Option (List Lad)} {x:Cl} (h:fH o x.2.2.1=0):gM o x=ff (bq o x.2.2.1).1 (bq o x.2.2.1).2 x.2.2.2:=by
 unfold gM;rw[zB1 (fun hn=>hn h)]
open Go Go.Eng Go.ChangeShapes Go.WideShapes
abbrev UF:=fa (vP .i64) (fa uf Oi)
abbrev Ck:=ri Tryz.prog 181 3 UF
abbrev Sg:=fa Ck Ck
abbrev Tr:=ri Tryz.prog 3 1 (vP .i64)
theorem KX:jm UF:=bU dD (bU bV Qv)
theorem vL:jm Ck:=mS KX
theorem Ju:jm Sg:=bU vL vL
theorem RZ {W:World}:Opn Tryz.prog W 3 UF 181:=dC Tryz.underlying181 (by kernel_rfl) rfl (bR (iV Tryz.underlying3) dD (bR (fV Tryz.underlying9) bV (fA (QN Tryz.underlying4))))
theorem BU {W:World} (hB:jJ W):Opn Tryz.prog W 1 Ck 64:=eY Tryz.underlying64 (by kernel_rfl) (by decide) KX hB RZ
theorem RF {W:World} (hB:jJ W):Opn Tryz.prog W 2 Sg 66:=dC Tryz.underlying66 (by kernel_rfl) rfl (bR (BU hB) vL (fA (BU hB)))
theorem MW {W:World} (hB:jJ W):Opn Tryz.prog W 1 Tr 57:=eY Tryz.underlying57 (by kernel_rfl) (by decide) dD hB (iV Tryz.underlying3)
theorem DD:Tryz.prog.bytesOf 181=32:=by kernel_rfl
theorem CW:Tryz.prog.bytesOf 3=8:=by kernel_rfl
theorem JC {B:Nat} {H:Hp} {c:List AC} {us:List Gp} (h:Ck B H c us):∃ u,c=[u]∧aO H u us∧us.length*32≤B:=by
 obtain ⟨u,rfl,⟨css,h1,h2⟩,h3⟩:=h;refine ⟨u,rfl,?_,by rwa [DD] at h3⟩;have:=mo (f:=gpC) (h2.mono fun c x ⟨_,c1,c2,e,a,c3,c4,e2,b,d⟩=>by rw[e,a.1,e2,b.1,d];rfl);rw[this] at h1;exact h1
theorem Sj {B:Nat} {H:Hp} {c:List AC} {us:List Int} (h:Tr B H c us):∃ u,c=[u]∧SlI H u us∧us.length*8≤B:=by
 obtain ⟨u,rfl,⟨css,h1,h2⟩,h3⟩:=h;refine ⟨u,rfl,?_,by rwa [CW] at h3⟩;have:=mo (f:=sH) (h2.mono fun c x ⟨_,e,_⟩=>e);rw[this] at h1;exact h1
theorem Uo {B:Nat} {H:Hp} {c:List AC} {x:Nm} (h:Sg B H c x):∃ p q,c=[p,q]∧aO H p x.1∧aO H q x.2∧x.1.length*32≤B∧x.2.length*32≤B:=by
 obtain ⟨c1,c2,rfl,h1,h2⟩:=h;obtain ⟨p,rfl,a1,a2⟩:=JC h1;obtain ⟨q,rfl,b1,b2⟩:=JC h2;exact ⟨p,q,rfl,a1,b1,a2,b2⟩
theorem yL:loadT Tryz.prog 240=some (false,1):=by kernel_rfl
theorem xF:aV Tryz.prog 240=some 1:=by kernel_rfl
theorem xf:(aA Tryz.prog 240).map (fun z=>(ofValue z).cells)=some [.o .nilS]:=by kernel_rfl
theorem wH:bd Tryz.prog 240=some (38,1):=by kernel_rfl
theorem xx:dW Tryz.prog 240=some 1:=by kernel_rfl
theorem xU:aU Tryz.prog 240=1:=by kernel_rfl
theorem KC:loadT Tryz.prog 266=some (true,3):=by kernel_rfl
theorem JM:aV Tryz.prog 266=some 3:=by kernel_rfl
theorem Li:(aA Tryz.prog 266).map (fun z=>(ofValue z).cells)=some [.i .i64 0,.o (.str []),.i .i64 0]:=by kernel_rfl
theorem KP:aU Tryz.prog 266=4:=by kernel_rfl
theorem wV:aG Tryz.prog 266 0=some (0,3,1):=by kernel_rfl
theorem wL:aG Tryz.prog 266 1=some (1,9,1):=by kernel_rfl
theorem zh:aG Tryz.prog 266 2=some (2,3,1):=by kernel_rfl
def sP:Nat→Option (Nat×Nat):=fun i=>(#[(0,1),(1,1),(2,1)]:Array (Nat×Nat))[i]?
theorem It:ck Tryz.prog 266=some sP:=by kernel_rfl
theorem xd:sP 0=some (0,1):=rfl
theorem yn:sP 1=some (1,1):=rfl
theorem yk:sP 2=some (2,1):=rfl
theorem FD:loadT Tryz.prog 110=some (false,1):=by kernel_rfl
theorem Ew:aV Tryz.prog 110=some 1:=by kernel_rfl
theorem Fv:(aA Tryz.prog 110).map (fun z=>(ofValue z).cells)=some [.o .nilS]:=by kernel_rfl
theorem CY:bd Tryz.prog 110=some (116,4):=by kernel_rfl
theorem Ff:dW Tryz.prog 110=some 1:=by kernel_rfl
theorem Eh:aU Tryz.prog 110=1:=by kernel_rfl
theorem NU:loadT Tryz.prog 116=some (true,4):=by kernel_rfl
theorem Pa:aV Tryz.prog 116=some 4:=by kernel_rfl
theorem Nt:(aA Tryz.prog 116).map (fun z=>(ofValue z).cells)=some [.i .i64 0,.i .i64 0,.i .i64 0,.i .i64 0]:=by kernel_rfl
theorem MX:aU Tryz.prog 116=4:=by kernel_rfl
theorem Di:aG Tryz.prog 116 0=some (0,3,1):=by kernel_rfl
theorem Fq:aG Tryz.prog 116 1=some (1,3,1):=by kernel_rfl
theorem CU:aG Tryz.prog 116 2=some (2,3,1):=by kernel_rfl
theorem DG:aG Tryz.prog 116 3=some (3,3,1):=by kernel_rfl
def uV:Nat→Option (Nat×Nat):=fun i=>(#[(0,1),(1,1),(2,1),(3,1)]:Array (Nat×Nat))[i]?
theorem Qq:ck Tryz.prog 116=some uV:=by kernel_rfl
theorem DX:uV 0=some (0,1):=rfl
theorem FY:uV 1=some (1,1):=rfl
theorem EG:uV 2=some (2,1):=rfl
theorem BM:uV 3=some (3,1):=rfl
theorem Oe:loadT Tryz.prog 278=some (false,1):=by kernel_rfl
theorem QA:aV Tryz.prog 278=some 1:=by kernel_rfl
theorem MV:(aA Tryz.prog 278).map (fun z=>(ofValue z).cells)=some [.o .nilF]:=by kernel_rfl
theorem NZ:aU Tryz.prog 278=3:=by kernel_rfl
theorem zA:loadT Tryz.prog 185=some (true,2):=by kernel_rfl
theorem IF:aV Tryz.prog 185=some 2:=by kernel_rfl
theorem Rx:cG Tryz.prog 185=some 24:=by kernel_rfl
theorem Bt:(aA Tryz.prog 185).map (fun z=>(ofValue z).cells)=some [.o (.str []),.i .i64 0]:=by kernel_rfl
theorem Sz:∃ z,aA Tryz.prog 185=some z∧(ofValue z).cells.length=2:=by
 have h:=Bt;cases hz:aA Tryz.prog 185 with
 | none=>rw[hz] at h;cases h
 | some z=>
  rw[hz] at h;exact ⟨z,rfl,by have:(ofValue z).cells=_:=Option.some.inj h;rw[this];rfl⟩
theorem IM:aU Tryz.prog 185=4:=by kernel_rfl
theorem wy:aG Tryz.prog 185 0=some (0,9,1):=by kernel_rfl
theorem yS:aG Tryz.prog 185 1=some (1,3,1):=by kernel_rfl
def Au:Nat→Option (Nat×Nat):=fun i=>(#[(0,1),(1,1)]:Array (Nat×Nat))[i]?
theorem Js:ck Tryz.prog 185=some Au:=by kernel_rfl
theorem yw:Au 0=some (0,1):=rfl
theorem xn:Au 1=some (1,1):=rfl
theorem RO:eqK Tryz.prog 185=some [.s,.i]:=by kernel_rfl
theorem BK:loadT Tryz.prog 67=some (false,1):=by kernel_rfl
theorem Dy:aV Tryz.prog 67=some 1:=by kernel_rfl
theorem Et:(aA Tryz.prog 67).map (fun z=>(ofValue z).cells)=some [.o .nilS]:=by kernel_rfl
theorem pH:bd Tryz.prog 67=some (185,2):=by kernel_rfl
theorem Ch:dW Tryz.prog 67=some 1:=by kernel_rfl
theorem oz:aU Tryz.prog 67=1:=by kernel_rfl
theorem tf:loadT Tryz.prog 69=some (true,8):=by kernel_rfl
theorem zV:aV Tryz.prog 69=some 8:=by kernel_rfl
theorem Sy:cG Tryz.prog 69=some 120:=by kernel_rfl
theorem sV:(aA Tryz.prog 69).map (fun z=>(ofValue z).cells)=some [.i .i64 0,.i .i64 0,.i .i64 0,.i .i64 0,.o .nilS,.o .nilS,.o (.str []),.o .nilS]:=by kernel_rfl
theorem Sr:∃ z,aA Tryz.prog 69=some z∧(ofValue z).cells.length=8:=by
 have h:=sV;cases hz:aA Tryz.prog 69 with
 | none=>rw[hz] at h;cases h
 | some z=>
  rw[hz] at h;exact ⟨z,rfl,by have:(ofValue z).cells=_:=Option.some.inj h;rw[this];rfl⟩
theorem Ku:aU Tryz.prog 69=4:=by kernel_rfl
theorem wR:aG Tryz.prog 69 0=some (0,3,1):=by kernel_rfl
theorem xy:aG Tryz.prog 69 1=some (1,3,1):=by kernel_rfl
theorem yG:aG Tryz.prog 69 2=some (2,3,1):=by kernel_rfl
theorem wF:aG Tryz.prog 69 3=some (3,3,1):=by kernel_rfl
theorem jK:aG Tryz.prog 69 4=some (4,66,2):=by kernel_rfl
theorem zx:aG Tryz.prog 69 5=some (6,9,1):=by kernel_rfl
theorem xe:aG Tryz.prog 69 6=some (7,67,1):=by kernel_rfl
def iT:Nat→Option (Nat×Nat):=fun i=>(#[(0,1),(1,1),(2,1),(3,1),(4,2),(6,1),(7,1)]:Array (Nat×Nat))[i]?
theorem Lo:ck Tryz.prog 69=some iT:=by kernel_rfl
theorem yC:iT 0=some (0,1):=rfl
theorem wx:iT 1=some (1,1):=rfl
theorem zd:iT 2=some (2,1):=rfl
theorem yj:iT 3=some (3,1):=rfl
theorem yz:iT 4=some (4,2):=rfl
theorem zu:iT 5=some (6,1):=rfl
theorem wD:iT 6=some (7,1):=rfl
theorem ij:loadT Tryz.prog 24=some (false,1):=by kernel_rfl
theorem CL:aV Tryz.prog 24=some 1:=by kernel_rfl
theorem by_cases:cG Tryz.prog 24=some 24:=by kernel_rfl
theorem Gg:(aA Tryz.prog 24).map (fun z=>(ofValue z).cells)=some [.o .nilS]:=by kernel_rfl
theorem gy:bd Tryz.prog 24=some (69,8):=by kernel_rfl
theorem Ek:dW Tryz.prog 24=some 1:=by kernel_rfl
theorem Ei:aU Tryz.prog 24=1:=by kernel_rfl
theorem jY:loadT Tryz.prog 26=some (true,2):=by kernel_rfl
theorem nQ:aV Tryz.prog 26=some 2:=by kernel_rfl
theorem Py:(aA Tryz.prog 26).map (fun z=>(ofValue z).cells)=some [.o (.str []),.o .nilS]:=by kernel_rfl
theorem OI:aU Tryz.prog 26=4:=by kernel_rfl
theorem jr:aG Tryz.prog 26 0=some (0,9,1):=by kernel_rfl
theorem ic:aG Tryz.prog 26 1=some (1,24,1):=by kernel_rfl
def GX:Nat→Option (Nat×Nat):=fun i=>(#[(0,1),(1,1)]:Array (Nat×Nat))[i]?
theorem Ob:ck Tryz.prog 26=some GX:=by kernel_rfl
theorem Cy:GX 0=some (0,1):=rfl
theorem BX:GX 1=some (1,1):=rfl
theorem PR:loadT Tryz.prog 92=some (true,2):=by kernel_rfl
theorem Pj:aV Tryz.prog 92=some 2:=by kernel_rfl
theorem Rj:(aA Tryz.prog 92).map (fun z=>(ofValue z).cells)=some [.o (.str []),.i .i64 0]:=by kernel_rfl
theorem OU:aU Tryz.prog 92=4:=by kernel_rfl
theorem Cj:aG Tryz.prog 92 0=some (0,9,1):=by kernel_rfl
theorem EI:aG Tryz.prog 92 1=some (1,3,1):=by kernel_rfl
def Hr:Nat→Option (Nat×Nat):=fun i=>(#[(0,1),(1,1)]:Array (Nat×Nat))[i]?
theorem MS:ck Tryz.prog 92=some Hr:=by kernel_rfl
theorem Dr:Hr 0=some (0,1):=rfl
theorem Cm:Hr 1=some (1,1):=rfl
theorem Le:loadT Tryz.prog 43=some (false,1):=by kernel_rfl
theorem Jx:aV Tryz.prog 43=some 1:=by kernel_rfl
theorem IJ:(aA Tryz.prog 43).map (fun z=>(ofValue z).cells)=some [.o .nilS]:=by kernel_rfl
theorem IU:bd Tryz.prog 43=some (92,2):=by kernel_rfl
theorem Kf:dW Tryz.prog 43=some 1:=by kernel_rfl
theorem Jg:aU Tryz.prog 43=1:=by kernel_rfl
theorem EB:loadT Tryz.prog 152=some (true,2):=by kernel_rfl
theorem Cf:aV Tryz.prog 152=some 2:=by kernel_rfl
theorem EV:(aA Tryz.prog 152).map (fun z=>(ofValue z).cells)=some [.o (.str []),.i .i64 0]:=by kernel_rfl
theorem CK:aU Tryz.prog 152=4:=by kernel_rfl
theorem tO:aG Tryz.prog 152 0=some (0,9,1):=by kernel_rfl
theorem vg:aG Tryz.prog 152 1=some (1,3,1):=by kernel_rfl
def uO:Nat→Option (Nat×Nat):=fun i=>(#[(0,1),(1,1)]:Array (Nat×Nat))[i]?
theorem DT:ck Tryz.prog 152=some uO:=by kernel_rfl
theorem tH:uO 0=some (0,1):=rfl
theorem tC:uO 1=some (1,1):=rfl
theorem OP:eqK Tryz.prog 152=some [.s,.i]:=by kernel_rfl
theorem Ql:loadT Tryz.prog 150=some (false,1):=by kernel_rfl
theorem PZ:aV Tryz.prog 150=some 1:=by kernel_rfl
theorem MR:(aA Tryz.prog 150).map (fun z=>(ofValue z).cells)=some [.o .nilM]:=by kernel_rfl
theorem QB:dW Tryz.prog 150=some 2:=by kernel_rfl
theorem Nw:ib Tryz.prog 150=some (152,3):=by kernel_rfl
theorem Ht:bC Tryz.prog 152=2:=by kernel_rfl
theorem QG:aU Tryz.prog 150=2:=by kernel_rfl
theorem DM:loadT Tryz.prog 28=some (true,4):=by kernel_rfl
theorem EH:aV Tryz.prog 28=some 4:=by kernel_rfl
theorem Fp:(aA Tryz.prog 28).map (fun z=>(ofValue z).cells)=some [.o .nilS,.o .nilS,.o (.str []),.o .nilS]:=by kernel_rfl
theorem DW:aU Tryz.prog 28=4:=by kernel_rfl
theorem tq:aG Tryz.prog 28 0=some (0,22,1):=by kernel_rfl
theorem vw:aG Tryz.prog 28 1=some (1,23,1):=by kernel_rfl
theorem ot:aG Tryz.prog 28 2=some (2,26,2):=by kernel_rfl
def oO:Nat→Option (Nat×Nat):=fun i=>(#[(0,1),(1,1),(2,2)]:Array (Nat×Nat))[i]?
theorem Ge:ck Tryz.prog 28=some oO:=by kernel_rfl
theorem uA:oO 0=some (0,1):=rfl
theorem uB:oO 1=some (1,1):=rfl
theorem vC:oO 2=some (2,2):=rfl
theorem KJ:loadT Tryz.prog 136=some (false,1):=by kernel_rfl
theorem KU:aV Tryz.prog 136=some 1:=by kernel_rfl
theorem JI:(aA Tryz.prog 136).map (fun z=>(ofValue z).cells)=some [.o .nilS]:=by kernel_rfl
theorem Lj:bd Tryz.prog 136=some (198,1):=by kernel_rfl
theorem JA:dW Tryz.prog 136=some 1:=by kernel_rfl
theorem KG:aU Tryz.prog 136=1:=by kernel_rfl
theorem tyF:type_of% (qA ae (qA aT (qA Qt (qA Qm (qA qo (qA Qr (qA bu (qA tw (qA nF (qA OG (qA jd (qA tb (qA JJ (qA Kn (qA pw (qA dG (qA oR (qA FG (qA pv (qA mw (qA kH (qA Jd (qA bM (qA bY (qA Kv (qA wz (qA xb (qA bZ (qA Ey (qA CB (qA fY (qA dk (qA Fe (qA cW (qA gC (qA dY (qA QC (qA eM (qA cd (qA rq (qA pB (qA pN (qA kN (qA sT (qA Ks (qA eR (qA gP (qA IT (qA rA (qA HU (qA GS (qA Bs (qA vh (qA zY (qA OB (qA om (qA Ny (qA Om (qA PQ (qA uh (qA AL (qA Bw (qA Cq (qA FA (qA Ex (qA lM (qA Jh (qA Kh (qA AF (qA IG (qA jy (qA fU (qA qP (qA qy (qA zD (qA xu (qA qJ (qA yH (qA wS (qA mO (qA zB (qA IK (qA di (qA pb (qA Iz (qA tL (qA vA (qA Dw (qA pZ (qA Gh (qA Dm (qA Lg (qA Ln (qA sS (qA KH (qA yy (qA wY (qA Aq (qA zm (qA zj (qA gQ (qA JO (qA JG (qA gW (qA gR (qA Kg (qA oQ (qA AD (qA AU (qA IY (qA jI (qA eh (qA eC (qA Kl (qA xz (qA za (qA wI (qA FC (qA En (qA FH (qA dK (qA jz (qA FI (qA Fy (qA ED (qA vK (qA BG (qA fN (qA tB (qA vE (qA uk (qA uw (qA xP (qA wE (qA yr (qA xO (qA ia (qA zc (qA xC (qA xl (qA cO (qA fX (qA xv (qA sb (qA rK (qA eN (qA Gl (qA FT (qA fq (qA gq (qA Gi (qA pd (qA sN (qA pE (qA Ix (qA fR (qA mz (qA hY (qA my (qA KN (qA xk (qA yQ (qA ye (qA xo (qA lH (qA Ef (qA CI (qA pL (qA lP (qA FV (qA Bo (qA AI (qA te (qA KF (qA eX (qA jv (qA Lh (qA yW (qA xi (qA lX (qA tZ (qA vl (qA HP (qA cJ (qA dL (qA Bb (qA oE (qA pJ (qA cT (qA Ke (qA JN (qA eS (qA dR (qA sW (qA fl (qA qx (qA mc (qA NK (qA im (qA jA (qA mh (qA HK (qA EZ (qA Gy (qA EP (qA FB (qA Er (qA Eo (qA fZ (qA uG (qA CV (qA yL (qA xF (qA xf (qA wH (qA xx (qA xU (qA KC (qA JM (qA Li (qA KP (qA wV (qA wL (qA zh (qA It (qA xd (qA yn (qA yk (qA FD (qA Ew (qA Fv (qA CY (qA Ff (qA Eh (qA NU (qA Pa (qA Nt (qA MX (qA Di (qA Fq (qA CU (qA DG (qA Qq (qA DX (qA FY (qA EG (qA BM (qA Oe (qA QA (qA MV (qA NZ (qA zA (qA IF (qA Bt (qA IM (qA wy (qA yS (qA Js (qA yw (qA xn (qA BK (qA Dy (qA Et (qA pH (qA Ch (qA oz (qA tf (qA zV (qA sV (qA Ku (qA wR (qA xy (qA yG (qA wF (qA jK (qA zx (qA xe (qA Lo (qA yC (qA wx (qA zd (qA yj (qA yz (qA zu (qA wD (qA ij (qA CL (qA Gg (qA gy (qA Ek (qA Ei (qA jY (qA nQ (qA Py (qA OI (qA jr (qA ic (qA Ob (qA Cy (qA BX (qA PR (qA Pj (qA Rj (qA OU (qA Cj (qA EI (qA MS (qA Dr (qA Cm (qA Le (qA Jx (qA IJ (qA IU (qA Kf (qA Jg (qA EB (qA Cf (qA EV (qA CK (qA tO (qA vg (qA DT (qA tH (qA tC (qA Ql (qA PZ (qA MR (qA QB (qA Nw (qA Ht (qA QG (qA DM (qA EH (qA Fp (qA DW (qA tq (qA vw (qA ot (qA Ge (qA uA (qA uB (qA vC (qA KJ (qA KU (qA JI (qA Lj (qA JA KG))))))))))))))))))))))))))))))))))))))))))))))))))))))))))))))))))))))))))))))))))))))))))))))))))))))))))))))))))))))))))))))))))))))))))))))))))))))))))))))))))))))))))))))))))))))))))))))))))))))))))))))))))))))))))))))))))))))))))))))))))))))))))))))))))))))))))))))))))))))))))))))))))))))))))))))))))))))))))))))))))))))))))))))))))))))))))):=qA ae (qA aT (qA Qt (qA Qm (qA qo (qA Qr (qA bu (qA tw (qA nF (qA OG (qA jd (qA tb (qA JJ (qA Kn (qA pw (qA dG (qA oR (qA FG (qA pv (qA mw (qA kH (qA Jd (qA bM (qA bY (qA Kv (qA wz (qA xb (qA bZ (qA Ey (qA CB (qA fY (qA dk (qA Fe (qA cW (qA gC (qA dY (qA QC (qA eM (qA cd (qA rq (qA pB (qA pN (qA kN (qA sT (qA Ks (qA eR (qA gP (qA IT (qA rA (qA HU (qA GS (qA Bs (qA vh (qA zY (qA OB (qA om (qA Ny (qA Om (qA PQ (qA uh (qA AL (qA Bw (qA Cq (qA FA (qA Ex (qA lM (qA Jh (qA Kh (qA AF (qA IG (qA jy (qA fU (qA qP (qA qy (qA zD (qA xu (qA qJ (qA yH (qA wS (qA mO (qA zB (qA IK (qA di (qA pb (qA Iz (qA tL (qA vA (qA Dw (qA pZ (qA Gh (qA Dm (qA Lg (qA Ln (qA sS (qA KH (qA yy (qA wY (qA Aq (qA zm (qA zj (qA gQ (qA JO (qA JG (qA gW (qA gR (qA Kg (qA oQ (qA AD (qA AU (qA IY (qA jI (qA eh (qA eC (qA Kl (qA xz (qA za (qA wI (qA FC (qA En (qA FH (qA dK (qA jz (qA FI (qA Fy (qA ED (qA vK (qA BG (qA fN (qA tB (qA vE (qA uk (qA uw (qA xP (qA wE (qA yr (qA xO (qA ia (qA zc (qA xC (qA xl (qA cO (qA fX (qA xv (qA sb (qA rK (qA eN (qA Gl (qA FT (qA fq (qA gq (qA Gi (qA pd (qA sN (qA pE (qA Ix (qA fR (qA mz (qA hY (qA my (qA KN (qA xk (qA yQ (qA ye (qA xo (qA lH (qA Ef (qA CI (qA pL (qA lP (qA FV (qA Bo (qA AI (qA te (qA KF (qA eX (qA jv (qA Lh (qA yW (qA xi (qA lX (qA tZ (qA vl (qA HP (qA cJ (qA dL (qA Bb (qA oE (qA pJ (qA cT (qA Ke (qA JN (qA eS (qA dR (qA sW (qA fl (qA qx (qA mc (qA NK (qA im (qA jA (qA mh (qA HK (qA EZ (qA Gy (qA EP (qA FB (qA Er (qA Eo (qA fZ (qA uG (qA CV (qA yL (qA xF (qA xf (qA wH (qA xx (qA xU (qA KC (qA JM (qA Li (qA KP (qA wV (qA wL (qA zh (qA It (qA xd (qA yn (qA yk (qA FD (qA Ew (qA Fv (qA CY (qA Ff (qA Eh (qA NU (qA Pa (qA Nt (qA MX (qA Di (qA Fq (qA CU (qA DG (qA Qq (qA DX (qA FY (qA EG (qA BM (qA Oe (qA QA (qA MV (qA NZ (qA zA (qA IF (qA Bt (qA IM (qA wy (qA yS (qA Js (qA yw (qA xn (qA BK (qA Dy (qA Et (qA pH (qA Ch (qA oz (qA tf (qA zV (qA sV (qA Ku (qA wR (qA xy (qA yG (qA wF (qA jK (qA zx (qA xe (qA Lo (qA yC (qA wx (qA zd (qA yj (qA yz (qA zu (qA wD (qA ij (qA CL (qA Gg (qA gy (qA Ek (qA Ei (qA jY (qA nQ (qA Py (qA OI (qA jr (qA ic (qA Ob (qA Cy (qA BX (qA PR (qA Pj (qA Rj (qA OU (qA Cj (qA EI (qA MS (qA Dr (qA Cm (qA Le (qA Jx (qA IJ (qA IU (qA Kf (qA Jg (qA EB (qA Cf (qA EV (qA CK (qA tO (qA vg (qA DT (qA tH (qA tC (qA Ql (qA PZ (qA MR (qA QB (qA Nw (qA Ht (qA QG (qA DM (qA EH (qA Fp (qA DW (qA tq (qA vw (qA ot (qA Ge (qA uA (qA uB (qA vC (qA KJ (qA KU (qA JI (qA Lj (qA JA KG))))))))))))))))))))))))))))))))))))))))))))))))))))))))))))))))))))))))))))))))))))))))))))))))))))))))))))))))))))))))))))))))))))))))))))))))))))))))))))))))))))))))))))))))))))))))))))))))))))))))))))))))))))))))))))))))))))))))))))))))))))))))))))))))))))))))))))))))))))))))))))))))))))))))))))))))))))))))))))))))))))))))))))))))))))))))))
theorem Cb:al Tryz.prog 107=true:=by kernel_rfl
theorem Ee:al Tryz.prog 55=true:=by kernel_rfl
theorem Qn:al Tryz.prog 106=true:=by kernel_rfl
theorem Tf:al Tryz.prog 167=true:=by kernel_rfl
def nW (n:Int):Bool:=decide (n<1)||decide (1099511627776<n)
def ur:Nat→List Int→Int
 | _,[]=>-1
 | n,x::l=>if nW x=true then (n:Int) else ur (n+1) l
theorem EL:∀ (l:List Int) (n:Nat),decide (0≤ur n l)=l.any nW
 | [],_=>rfl
 | x::l,n=>by
  rw[ur,List.any_cons];cases h:nW x with
  | true=>rw[zB0 rfl,Bool.true_or];exact decide_eq_true (by omega)
  | false=>rw[zB1 zA8,Bool.false_or];exact EL l (n+1)
theorem CQ (H:Hp) (n:Int):Con E2 107 [.one (.i .i64 n)] H (fun _=>False) fun r _=>r=.one (.b (nW n)):=by
 refine Con.of rfl fun lg=>?_;generalize (⟨H.t,H.nx,lg⟩:Hp)=H at ⊢;refine C1.body (E:=E2) (nt:=9) (res:=[.tmp 2]) Tryz.func107 rfl rfl rfl rfl rfl fun tm A0=>?_;have h0:=A0 0 _ rfl;clear A0;have fin:∀ (e:Bool) (A:ab) (H3:Hp),slot A.tm 2=.one (.b e)→A.dfr=[]→Gr H H3→e=nW n→∃ w H4,aC E2 [.tmp 2] (.ret,A,H3)=.ok [(w,H4)]∧Gr H H4∧∀ _:List Nat,w=.one (.b (nW n)):=fun e A H3 h1 h2 h3 h4=>⟨_,H3,aj (.b e) (.inr rfl) h2 h1,h3,fun _=>by rw[h4]⟩;generalize E0:nW n=r0 at fin;unfold nW at E0;by_cases c0:n<1
 ·refine zW tyF ?_;exact fin (true) _ _ qp qe (Fr.refl _) ((by rw[decide_eq_true c0,Bool.true_or] at E0;exact E0))
 refine zW tyF ?_;exact fin ((decide (1099511627776<n))) _ _ qp qe (Fr.refl _) ((by rw[decide_eq_false c0,Bool.false_or] at E0;exact E0))
theorem Qz (H:Hp) (v:AC) (l:List Int) (hv:SlI H v l) (hL:l.length≤4611686018427387904):
  Con E2 167 [.one v,.one (.o (.clo 107 []))] H (fun _=>False) fun r _=>r=.one (.i .i64 (ur 0 l)):=by
 refine Con.of rfl fun lg=>?_;have hv:SlI ⟨H.t,H.nx,lg⟩ v l:=hv;generalize (⟨H.t,H.nx,lg⟩:Hp)=H at hv ⊢;refine C1.body (E:=E2) (nt:=19) (res:=[.tmp 4]) Tryz.func167 rfl rfl rfl rfl rfl fun tm A0=>?_;have h0:=A0 0 _ rfl;have h1:=A0 1 _ rfl;clear A0;have fin:∀ (e:Int) (A:ab) (H3:Hp),slot A.tm 4=.one (.i .i64 e)→A.dfr=[]→Gr H H3→e=ur 0 l→∃ w H4,aC E2 [.tmp 4] (.ret,A,H3)=.ok [(w,H4)]∧Gr H H4∧∀ _:List Nat,w=.one (.i .i64 (ur 0 l)):=fun e A H3 h1 h2 h3 h4=>⟨_,H3,aj (.i .i64 e) (.inr rfl) h2 h1,h3,fun _=>by rw[h4]⟩;generalize E0:ur 0 l=r0 at fin;have l1:=hv.len;have l2:=hv.lt;refine zW tyF ?_;refine R1.dp fun K k1 k2 k3 k4=>?_;refine R1.loop (fun m A H2=>∃ i:Nat,m=l.length - i∧i≤l.length∧Gr H H2∧ur i (l.drop i)=r0∧slot A.tm 0=.one (v)∧slot A.tm 1=.one ((.o (.clo 107 [])))∧slot A.tm 7=.one (.i .i64 (l.length:Int))∧slot A.tm 8=.one (.i .i64 (i:Int))∧A.nt=19∧A.dfr=[]) ?_ l.length ⟨0,rfl,Nat.zero_le _,Fr.refl _,E0,zL⟩;clear h0 h1 tm l1 l2;rintro m A H2 ⟨i,rfl,E',g2,hr,t0,t1,t7,t8,B0,C0⟩;refine zW tyF ?_;refine zI tyF (fun hc=>?_) (fun hc=>?_)
 ·have D0:i<l.length:=by omega
  have ex:=zB4 D0;have O0:=zC1 D0;have Z0:=zC2 D0;have G0:l[i]∈l:=List.getElem_mem D0;generalize l[i]=x at ex O0 Z0 G0;have Q1:=zC0 i (by omega);obtain ⟨id,g,off,cells,rfl,hid,R0,J0⟩:=(hv.gr g2).open (by omega);obtain ⟨e1,e2⟩:=J0 i x ex;rw[O0,ur] at hr;clear J0;refine zW tyF ?_;refine R1.dp fun K2 q1 q2 q3 q4=>?_;refine zW tyF ?_;refine zG (qA tyF (qA (ixC D0) Cb)) fun K3 T4=>?_;refine WE.con (CQ H2 x) fun w H4 g4 hw=>?_;subst hw;have g4:=g2.gr g4;cases hb:nW x with
  | true=>
   refine zK tyF ?_;exact q4.out _ _ (k4.out _ _ (fin ((i:Int)) _ _ qp qe (g4) ((by rw[zB0 hb] at hr;exact hr))))
  | false=>
   refine zK tyF ?_;rw[zB1 (by rw[hb];exact zA8)] at hr;refine q1.out _ _ ?_;refine zW tyF ?_;exact ⟨l.length - (i+1),by omega,i+1,rfl,D0,g4,hr,zL⟩
 have S1:i=l.length:=by omega
 refine zW tyF ?_;refine k2.out _ _ ?_;refine zW tyF ?_;rw[S1,List.drop_length,ur] at hr;exact fin (-1) _ _ qp qe (g2) (hr)
theorem Mt (H:Hp) (v:AC) (l:List Int) (hv:SlI H v l) (hL:l.length≤4611686018427387904):
  Con E2 106 [.one v,.one (.o (.clo 107 []))] H (fun _=>False) fun r _=>r=.one (.b (l.any nW)):=by
 refine Con.of rfl fun lg=>?_;have hv:SlI ⟨H.t,H.nx,lg⟩ v l:=hv;generalize (⟨H.t,H.nx,lg⟩:Hp)=H at hv ⊢;refine C1.body (E:=E2) (nt:=9) (res:=[.tmp 4]) Tryz.func106 rfl rfl rfl rfl rfl fun tm A0=>?_;have h0:=A0 0 _ rfl;have h1:=A0 1 _ rfl;clear A0;have fin:∀ (e:Bool) (A:ab) (H3:Hp),slot A.tm 4=.one (.b e)→A.dfr=[]→Gr H H3→e=l.any nW→∃ w H4,aC E2 [.tmp 4] (.ret,A,H3)=.ok [(w,H4)]∧Gr H H4∧∀ _:List Nat,w=.one (.b (l.any nW)):=fun e A H3 h1 h2 h3 h4=>⟨_,H3,aj (.b e) (.inr rfl) h2 h1,h3,fun _=>by rw[h4]⟩;generalize E0:l.any nW=r0 at fin;refine zW tyF ?_;refine zG (qA tyF Tf) fun K hK=>?_;refine WE.con (Qz H v l hv hL) fun w H4 g4 hw=>?_;subst hw;refine zK tyF ?_;exact fin ((decide (0≤ur 0 l))) _ _ qp qe (g4) ((EL l 0).trans E0)
def qq (lc:List Cl) (v:List Int):Bool:=((v.length:Int)==(lc.length:Int))&&!(v.any nW)
theorem we (H:Hp) (a b w:AC) (lc:List Cl) (v:List Int) (ha:iu H a lc) (hw:SlI H w v) (hL:v.length≤4611686018427387904):
  Con E2 55 [.agg [a,b],.one w] H (fun _=>False) fun r _=>r=.one (.b (qq lc v)):=by
 refine Con.of rfl fun lg=>?_;have ha:iu ⟨H.t,H.nx,lg⟩ a lc:=ha;have hw:SlI ⟨H.t,H.nx,lg⟩ w v:=hw;generalize (⟨H.t,H.nx,lg⟩:Hp)=H at ha hw ⊢;refine C1.body (E:=E2) (nt:=16) (res:=[.tmp 4]) Tryz.func55 rfl rfl rfl rfl rfl fun tm A0=>?_;have h0:=A0 0 _ rfl;have h1:=A0 1 _ rfl;clear A0;have fin:∀ (e:Bool) (A:ab) (H3:Hp),slot A.tm 4=.one (.b e)→A.dfr=[]→Gr H H3→e=qq lc v→∃ w H4,aC E2 [.tmp 4] (.ret,A,H3)=.ok [(w,H4)]∧Gr H H4∧∀ _:List Nat,w=.one (.b (qq lc v)):=fun e A H3 h1 h2 h3 h4=>⟨_,H3,aj (.b e) (.inr rfl) h2 h1,h3,fun _=>by rw[h4]⟩;generalize E0:qq lc v=r0 at fin;unfold qq at E0;refine zG tyF fun K hK=>?_;refine hK.out _ _ ?_;refine R1.gen (fun A1 H1=>Gr H H1∧H.nx<H1.nx∧H1.get H.nx=some (.arr [a,b] 37 0 0)∧slot A1.tm 1=.one (w)∧slot A1.tm 2=.one ((.o (.ptr H.nx 0 0 2)))∧A1.nt=16∧A1.dfr=[]) ⟨(Fr.refl _).new _,zA6 _,az rfl,zL⟩ ?_;rintro A1 H1 ⟨g1,m1,rx,t1,t2,B0,C0⟩;clear h0 h1 tm hK K;have ha:=ha.gr g1;have hw:=hw.gr g1;have l1:=ha.len;have l2:=ha.lt;have l3:=hw.len;have l4:=hw.lt;cases hc:((v.length:Int)==(lc.length:Int)) with
 | false=>
  refine zW tyF ?_;exact fin (false) _ _ qp qe (g1) ((by rw[hc,Bool.false_and] at E0;exact E0))
 | true=>
  refine zG (qA tyF Qn) fun K hK=>?_;refine WE.con (Mt H1 w v hw hL) fun w H4 g4 hw=>?_;subst hw;refine zK tyF ?_;exact fin ((!(v.any nW))) _ _ qp qe (g1.gr g4) ((by rw[hc,Bool.true_and] at E0;exact E0))
theorem Od:al Tryz.prog 194=true:=by kernel_rfl
theorem Qa:al Tryz.prog 168=true:=by kernel_rfl
theorem uT:al Tryz.prog 121=true:=by kernel_rfl
def aL:List Pr→Int→List Int
 | [],_=>[]
 | [_],n=>[n]
 | _::y::l,n=>n % y.2::aL (y::l) (n / y.2)
theorem dB:∀ (us:List Pr) (n:Int),(aL us n).length=us.length
 | [],_=>rfl
 | [_],_=>rfl
 | _::y::l,n=>by rw[aL,List.length_cons,dB (y::l),List.length_cons];rfl
theorem Tu (l:List Int):l.flatMap sH=l.map (AC.i .i64):=by
 induction l with
 | nil=>rfl
 | cons x l ih=>rw[List.flatMap_cons,ih];rfl
theorem Jv {H:Hp} {q:Nat} {l:List Int} {lo gen:Nat} (hg:H.get q=some (.arr (l.map (AC.i .i64)) 3 lo gen)) (hl:lo≤gen) (hq:q<H.nx):SlI H (.o (.sl q gen 0 l.length 1)) l:=
 ⟨by rw[Tu,List.length_map,Nat.mul_one],.inr ⟨q,gen,0,rfl,hq,l.map (AC.i .i64),by rw[hg];exact bX hl (zA1 _),by rw[List.length_map];omega,by rw[List.drop_zero,List.take_of_length_le (by rw[List.length_map];omega),Tu]⟩⟩
theorem UH {α:Type} (out:List α) (z a:α) (k:Nat):(out++List.replicate (k+1) z).set out.length a=(out++[a])++List.replicate k z:=by
 rw[List.set_append_right _ _ (zA1 _),Nat.sub_self,List.replicate_succ,List.set_cons_zero,List.append_assoc];rfl
theorem Mj (H:Hp) (nm:List UInt8) (u:AC) (us:List Pr) (n:Int) (hu:SlP H u us) (hL:us.length≤1000000) (D4:0≤n) (hn:n≤1099511627776) (hf:∀ x∈us,1≤x.2∧x.2≤60):
  Con E2 194 [.agg [.o (.str nm),u],.one (.i .i64 n)] H (fun _=>False) fun r H'=>∃ c,r=.one c∧SlI H' c (aL us n)∧∀ id∈(AV.one c).ids,H.nx≤id:=by
 refine Con.of rfl fun lg=>?_;have hu:SlP ⟨H.t,H.nx,lg⟩ u us:=hu;have e0:H.nx=(⟨H.t,H.nx,lg⟩:Hp).nx:=rfl;rw[e0];clear e0;generalize (⟨H.t,H.nx,lg⟩:Hp)=H at hu ⊢;refine C1.body (E:=E2) (nt:=48) (res:=[.tmp 4]) Tryz.func194 rfl rfl rfl rfl rfl fun tm A0=>?_;have h0:=A0 0 _ rfl;have h1:=A0 1 _ rfl;clear A0;obtain ⟨z,hz,J7⟩:∃ z,aA Tryz.prog 3=some z∧(ofValue z).cells=[.i .i64 0]:=⟨.int .i64 0,Bd,rfl⟩;have mk:∀ H,cX Tryz.prog H 57 (.one (.i .i64 (us.length:Int))) (.one (.i .i64 (us.length:Int)))=.val (.one (.o (.sl H.nx 0 0 us.length 1))) (H.new (.arr ((List.replicate us.length (0:Int)).map (AC.i .i64)) 3 0 0)):=fun H=>by
  rw[uv di qR hz (by rw[J7];rfl) (by omega),J7,AH,List.map_replicate]
 clear hz J7;have hu0:=hu;refine zG tyF fun K hK=>?_;refine hK.out _ _ ?_;refine R1.gen (fun A1 H1=>Gr H H1∧H.nx+1=H1.nx∧H1.get H.nx=some (.arr [.o (.str nm),u] 97 0 0)∧slot A1.tm 1=.one (.i .i64 (n:Int))∧slot A1.tm 2=.one ((.o (.ptr H.nx 0 0 2)))∧A1.nt=48∧A1.dfr=[]) ⟨(Fr.refl _).new _,rfl,az rfl,zL⟩ ?_;rintro A1 H1 ⟨g1,n1,rx,t1,t2,B0,C0⟩;clear h0 h1 tm hK K;have m1:H.nx<H1.nx:=by omega
 obtain ⟨N,hN⟩:∃ N,N=H.nx:=⟨_,rfl⟩;rw[←hN] at n1 rx t2 m1;replace hN:Hd (N=H.nx):=hN;replace n1:Hd (N+1=H1.nx):=n1;have hu:=hu.gr g1;have l1:=hu.len;have l2:=hu.lt;refine zG (qA tyF mk) fun K hK=>?_;refine hK.out _ _ ?_;refine R1.gen (fun A2 H2=>Gr H1 H2∧N+1<H2.nx∧H2.get (N+1)=some (.arr ((([]:List Int)++List.replicate us.length 0).map (AC.i .i64)) 3 0 0)∧slot A2.tm 1=.one (.i .i64 (n:Int))∧slot A2.tm 2=.one ((.o (.ptr N 0 0 2)))∧slot A2.tm 5=.one ((.o (.sl (N+1) 0 0 us.length 1)))∧A2.nt=48∧A2.dfr=[])
  ⟨(Fr.refl _).new _,by have:=n1.out;show _<H1.nx+1;omega,az n1.out,?_⟩ ?_
 ·rw[n1.out];exact zL
 clear t1 t2 B0 C0 A1 mk l1 l2 hK K;rintro A2 H2 ⟨g2,m2,rs,t1,t2,t5,B0,C0⟩;have rx:=(g2.get _ m1 zB2).trans rx;have m1:=zA0 m1 g2.nx;have hu:=hu.gr g2;have g2:=g1.gr g2;clear g1 n1;refine zW (qA tyF m2) ?_;refine R1.dp fun K k1 k2 k3 k4=>?_;refine R1.loop (fun m A H3=>∃ (i:Nat) (out:List Int) (k:Int),m=us.length - i∧i≤us.length∧out.length=i∧0≤k∧k≤1099511627776∧Gr H H3∧N<H3.nx∧N+1<H3.nx∧H3.get N=some (.arr [.o (.str nm),u] 97 0 0)∧H3.get (N+1)=some (.arr ((out++List.replicate (us.length - i) 0).map (AC.i .i64)) 3 0 0)∧out++aL (us.drop i) k=aL us n ∧
   slot A.tm 1=.one (.i .i64 (k:Int))∧slot A.tm 2=.one ((.o (.ptr N 0 0 2)))∧slot A.tm 5=.one ((.o (.sl (N+1) 0 0 us.length 1)))∧slot A.tm 12=.one (.i .i64 (us.length:Int))∧slot A.tm 13=.one (.i .i64 (i:Int))∧A.nt=48∧A.dfr=[]) ?_ us.length
  ⟨0,[],n,rfl,Nat.zero_le _,rfl,D4,hn,g2,m1,m2,rx,rs,rfl,zL⟩
 clear t1 t2 t5 B0 C0 A2 rx rs hu m1 m2 k3 g2;rintro m A H3 ⟨i,out,k,rfl,hi,V2,T',V3,g3,m1,m2,rx,rs,W6,t1,t2,t5,t12,t13,B0,C0⟩;refine zW tyF ?_;refine zI tyF (fun hc=>?_) (fun hc=>?_)
 ·have D0:i<us.length:=by omega
  have Q1:=zC0 i (by omega);have hle:i+1≤((out++List.replicate (us.length - i) (0:Int)).map (AC.i .i64)).length:=by rw[List.length_map,List.length_append,List.length_replicate];omega
  have a9:∀ a:Int,List.take i ((out++List.replicate (us.length - i) (0:Int)).map (AC.i .i64))++AC.i .i64 a::List.drop (i+1) ((out++List.replicate (us.length - i) (0:Int)).map (AC.i .i64))=((out++[a])++List.replicate (us.length - (i+1)) 0).map (AC.i .i64):=fun a=>by
   rw[setRow (AC.i .i64) _ _ a (by rw[List.length_append,List.length_replicate];omega)];have e:us.length - i=(us.length - (i+1))+1:=by omega
   rw[e,←V2,UH]
  refine zW tyF ?_;refine R1.dp fun K2 q1 q2 q3 q4=>?_;have G1:(aL us n).length=us.length:=dB us n;by_cases F6:i+1=us.length
  ·have ce:(((i+1:Nat):Int)==(us.length:Int))=true:=by rw[F6];exact beq_self_eq_true _
   replace F6:Hd (i+1=us.length):=F6;refine zW (qA tyF (qA (ixC D0) (qA a9 (qA Nat.mul_one hle)))) ?_;refine q3.out 0 _ _ (by decide) ?_;refine k2.out _ _ ?_;refine zW tyF ?_;have O0:us.drop i=[us[i]]:=by
    rw[List.drop_eq_getElem_cons D0,List.drop_of_length_le (by have:=F6.out;omega)]
   rw[O0,aL] at W6;have e0:us.length - (i+1)=0:=by have:=F6.out;omega
   have v_:=Jv (H:=H3.mod (N+1) (.arr ((aL us n).map (AC.i .i64)) 3 0 0)) (ak rfl) (zA1 _) m2;rw[G1] at v_;rw[e0,List.replicate_zero,List.append_nil,W6];exact ⟨_,_,aj (.o (.sl (N+1) 0 0 us.length 1)) (.inr rfl) qe qp,g3.mod _ (.inl (by have:=hN.out;omega)),fun _=>⟨_,rfl,v_,fun k hk=>by have:=hN.out;rw[List.mem_singleton.1 hk];omega⟩⟩
  have ce:(((i+1:Nat):Int)==(us.length:Int))=false:=zB5 (by omega);have X5:i+1<us.length:=by omega
  have O0:us.drop i=us[i]::us[i+1]::us.drop (i+2):=by
   rw[List.drop_eq_getElem_cons D0,List.drop_eq_getElem_cons X5]
  have B9:us.drop (i+1)=us[i+1]::us.drop (i+2):=List.drop_eq_getElem_cons X5;have ey:us[i+1]?=some us[i+1]:=zB4 X5;obtain ⟨F1,hy2⟩:=hf us[i+1] (List.getElem_mem X5);rw[O0,aL,←B9] at W6;clear O0 B9;generalize us[i+1]=y at ey F1 hy2 W6;obtain ⟨id,g,off,cells,rfl,J2,z9,J0⟩:=hu0.open (by omega);have hidN:id<N:=by have:=hN.out;omega
  have hid:id<H3.nx:=by omega
  have R0:rowOf (H3.get id) g=some cells:=by rw[g3.get _ J2 zB2];exact z9
  have hgm:∀ X,rowOf ((H3.mod (N+1) X).get id) g=some cells:=fun X=>by rw[aq (by omega)];exact R0
  have Y':∀ X,(H3.mod (N+1) X).get N=some (.arr [.o (.str nm),.o (.sl id g off us.length 2)] 97 0 0):=fun X=>(aq (by omega)).trans rx;have hy:=J0 _ y ey;have y1:=hy.snd;have y2:=hy.le2;clear J0 hy J2 z9;have hy0:y.2≠0:=by omega
  have e1:k.tmod y.2=k % y.2:=Int.tmod_eq_emod_of_nonneg T';have e3:k / y.2≤k:=Int.ediv_le_self _ T';have e4:0≤k / y.2:=Int.ediv_nonneg T' (by omega);have e2:IntKind.i64.wrap (k.tdiv y.2)=k / y.2:=by rw[Int.tdiv_eq_ediv_of_nonneg T'];exact bx (by omega) (by omega)
  refine zW (qA tyF (qA (ixC D0) (qA (ixC X5) (qA a9 (qA Nat.mul_one (qA hle (qA arQ (qA (quoI hy0) (remI hy0))))))))) ?_;refine q1.out _ _ ?_;refine zW tyF ?_;exact ⟨us.length - (i+1),by omega,i+1,out++[k % y.2],k / y.2,rfl,D0,by rw[List.length_append,V2];rfl,e4,by omega,g3.mod _ (.inl (by have:=hN.out;omega)),m1,m2,(aq (by omega)).trans rx,ak rfl,by rw[List.append_assoc];exact W6,zL⟩
 have S1:i=us.length:=by omega
 refine zW tyF ?_;refine k2.out _ _ ?_;refine zW tyF ?_;rw[S1,List.drop_length,aL,List.append_nil] at W6;rw[S1,Nat.sub_self,List.replicate_zero,List.append_nil,W6] at rs;have v_:=Jv rs (zA1 _) m2;rw[dB us n] at v_;exact ⟨_,_,aj (.o (.sl (N+1) 0 0 us.length 1)) (.inr rfl) qe qp,g3,fun _=>⟨_,rfl,v_,fun k hk=>by have:=hN.out;rw[List.mem_singleton.1 hk];omega⟩⟩
def ct:List Int→Int
 | []=>0
 | x::l=>if x=0 then ct l else x
theorem qM (H:Hp) (w:AC) (l:List Int) (hw:SlI H w l) (hL:l.length≤4611686018427387904):
  Con E2 121 [.one w] H (fun _=>False) fun r _=>r=.one (.i .i64 (ct l)):=by
 refine Con.of rfl fun lg=>?_;have hw:SlI ⟨H.t,H.nx,lg⟩ w l:=hw;generalize (⟨H.t,H.nx,lg⟩:Hp)=H at hw ⊢;refine C1.body (E:=E2) (nt:=15) (res:=[.tmp 2]) Tryz.func121 rfl rfl rfl rfl rfl fun tm A0=>?_;have h0:=A0 0 _ rfl;clear A0;have fin:∀ (e:Int) (A:ab) (H3:Hp),slot A.tm 2=.one (.i .i64 e)→A.dfr=[]→Gr H H3→e=ct l→∃ w H4,aC E2 [.tmp 2] (.ret,A,H3)=.ok [(w,H4)]∧Gr H H4∧∀ _:List Nat,w=.one (.i .i64 (ct l)):=fun e A H3 h1 h2 h3 h4=>⟨_,H3,aj (.i .i64 e) (.inr rfl) h2 h1,h3,fun _=>by rw[h4]⟩;generalize E0:ct l=r0 at fin;have l1:=hw.len;have l2:=hw.lt;refine zW tyF ?_;refine R1.dp fun K k1 k2 k3 k4=>?_;refine R1.loop (fun m A H2=>∃ i:Nat,m=l.length - i∧i≤l.length∧H2=H∧ct (l.drop i)=r0∧slot A.tm 5=.one (w)∧slot A.tm 6=.one (.i .i64 (l.length:Int))∧slot A.tm 7=.one (.i .i64 (i:Int))∧A.nt=15∧A.dfr=[]) ?_ l.length ⟨0,rfl,Nat.zero_le _,rfl,E0,zL⟩;clear h0 tm E0 l1 l2;rintro m A H2 ⟨i,rfl,E',rfl,hr,t5,t6,t7,B0,C0⟩;refine zW tyF ?_;refine zI tyF (fun hc=>?_) (fun hc=>?_)
 ·have D0:i<l.length:=by omega
  have ex:=zB4 D0;have O0:=zC1 D0;have Z0:=zC2 D0;have G0:l[i]∈l:=List.getElem_mem D0;generalize l[i]=x at ex O0 Z0 G0;have Q1:=zC0 i (by omega);obtain ⟨id,g,off,cells,rfl,hid,R0,J0⟩:=hw.open (by omega);obtain ⟨e1,e2⟩:=J0 i x ex;rw[O0,ct] at hr;clear J0;refine zW tyF ?_;refine R1.dp fun K2 q1 q2 q3 q4=>?_;by_cases hx:x=0
  ·have ce:(x==0)=true:=beq_iff_eq.2 hx;rw[zB0 hx] at hr;replace hx:Hd (x=0):=hx;refine zW (qA tyF (ixC D0)) ?_;refine q1.out _ _ ?_;refine zW tyF ?_;exact ⟨l.length - (i+1),by omega,i+1,rfl,D0,rfl,hr,zL⟩
  have ce:(x==0)=false:=zB5 hx;refine zW (qA tyF (ixC D0)) ?_;exact q4.out _ _ (k4.out _ _ (fin (x) _ _ qp qe (Fr.refl _) ((by rw[zB1 hx] at hr;exact hr))))
 have S1:i=l.length:=by omega
 refine zW tyF ?_;refine k2.out _ _ ?_;refine zW tyF ?_;rw[S1,List.drop_length,ct] at hr;exact fin (0) _ _ qp qe (Fr.refl _) (hr)
theorem By {H:Hp} (a b:Int) {e:TypeId}:SlI (H.new (.arr [.i .i64 a,.i .i64 b] e 0 0)) (.o (.sl H.nx 0 0 2 1)) [a,b]:=
 ⟨rfl,.inr ⟨H.nx,0,0,rfl,zA6 _,_,by rw[az rfl];exact bX (zA1 _) (zA1 _),zA1 _,rfl⟩⟩
def rm (nm:List UInt8) (us:List Pr) (n:Int):List Int×Int:=if aR nm us≠0 then ([],aR nm us) else if 0≤n∧n≤1099511627776 then (aL us n,0) else ([],8)
theorem Hg (H:Hp) (nm:List UInt8) (u:AC) (us:List Pr) (n:Int) (hu:SlP H u us):
  Con E2 168 [.agg [.o (.str nm),u],.one (.i .i64 n)] H (fun _=>False) fun r H'=>∃ c,r=.tup [(false,[c]),(false,[.i .i64 (rm nm us n).2])]∧SlI H' c (rm nm us n).1∧∀ id∈(AV.one c).ids,H.nx≤id:=by
 refine Con.of rfl fun lg=>?_;have hu:SlP ⟨H.t,H.nx,lg⟩ u us:=hu;have e0:H.nx=(⟨H.t,H.nx,lg⟩:Hp).nx:=rfl;rw[e0];clear e0;generalize (⟨H.t,H.nx,lg⟩:Hp)=H at hu ⊢;refine C1.body (E:=E2) (nt:=24) (res:=[.tmp 4,.tmp 5]) Tryz.func168 rfl rfl rfl rfl rfl fun tm A0=>?_;have h0:=A0 0 _ rfl;have h1:=A0 1 _ rfl;clear A0;generalize E0:rm nm us n=r0;have fin:∀ (c:AC) (e:Int) (A:ab) (H3:Hp),slot A.tm 4=.one c→slot A.tm 5=.one (.i .i64 e)→A.dfr=[]→Gr H H3→SlI H3 c r0.1∧e=r0.2∧(∀ id∈(AV.one c).ids,H.nx≤id)→∃ w H4,aC E2 [.tmp 4,.tmp 5] (.ret,A,H3)=.ok [(w,H4)]∧Gr H H4∧∀ lg':List Nat,∃ c,w=.tup [(false,[c]),(false,[.i .i64 r0.2])]∧SlI ⟨H4.t,H4.nx,lg'⟩ c r0.1∧∀ id∈(AV.one c).ids,H.nx≤id:=fun c e A H3 h1 h2 h3 h4 h5=>⟨_,H3,bt c (.i .i64 e) (.inr rfl) h3 h1 h2,h4,fun _=>⟨c,by rw[h5.2.1],h5.1,h5.2.2⟩⟩;refine zG tyF fun K hK=>?_;refine hK.out _ _ ?_;refine R1.gen (fun A1 H1=>Gr H H1∧H.nx<H1.nx∧H1.get H.nx=some (.arr [.o (.str nm),u] 97 0 0)∧slot A1.tm 1=.one (.i .i64 (n:Int))∧slot A1.tm 2=.one ((.o (.ptr H.nx 0 0 2)))∧A1.nt=24∧A1.dfr=[]) ⟨(Fr.refl _).new _,zA6 _,az rfl,zL⟩ ?_;rintro A1 H1 ⟨g1,m1,rx,t1,t2,B0,C0⟩;clear h0 h1 tm hK K;have hu:=hu.gr g1;refine zG (qA tyF lA) fun K hK=>?_;refine WE.con (jR H1 nm u us hu) fun w H2 g2 hq=>?_;subst hq;have rx:=(g2.get _ m1 zB2).trans rx;have m1:=zA0 m1 g2.nx;have hu:=hu.gr g2;have g2:=g1.gr g2;clear g1;have r2:jn [AC.i .i64 0] 2=[.i .i64 0,.i .i64 0]:=rfl;have B1:=@hH nm us;unfold rm at E0;generalize aR nm us=e0 at E0 B1;by_cases c0:0≤n
 case neg=>
  refine zS (qA tyF pz) ?_;refine WE.con (lJ H2 false 8) fun w H3 g3 hq=>?_;subst hq;have rx:=(g3.get _ m1 zB2).trans rx;have m1:=zA0 m1 g3.nx;have hu:=hu.gr g3;have g3:=g2.gr g3;refine zS (qA tyF uT) ?_;refine WE.con (qM _ _ [e0,8] (By _ _) (by show 2≤_;omega)) fun w H4 g4 hq=>?_;subst hq;have g4:Gr H3 H4:=((Fr.refl _).new _).gr g4;have rx:=(g4.get _ m1 zB2).trans rx;have m1:=zA0 m1 g4.nx;have hu:=hu.gr g4;have g4:=g3.gr g4;by_cases N0:e0=0
  case neg=>
   have ce:(ct [e0,8]==0)=false:=by rw[ct,zB1 N0];exact zB5 N0
   have cf:ct [e0,8]=e0:=by rw[ct,zB1 N0]
   rw[cf] at ce;refine zK tyF ?_;exact fin (.o .nilS) (e0) _ _ qp qp qe (g4) (⟨by rw[←E0,zB0 N0];exact SlI.nil,by rw[←E0,zB0 N0],fun _ h=>by cases h⟩)
  rw[zB1 (fun h=>h N0)] at E0;have cf:ct [e0,8]=8:=by rw[ct,zB0 N0];rfl
  replace N0:Hd (e0=0):=N0;refine zK tyF ?_;exact fin (.o .nilS) (8) _ _ qp qp qe (g4) (⟨by rw[←E0,zB1 (fun h=>c0 h.1)];exact SlI.nil,by rw[←E0,zB1 (fun h=>c0 h.1)],fun _ h=>by cases h⟩)
 by_cases c1:n≤1099511627776
 case neg=>
  refine zS (qA tyF pz) ?_;refine WE.con (lJ H2 false 8) fun w H3 g3 hq=>?_;subst hq;have rx:=(g3.get _ m1 zB2).trans rx;have m1:=zA0 m1 g3.nx;have hu:=hu.gr g3;have g3:=g2.gr g3;refine zS (qA tyF uT) ?_;refine WE.con (qM _ _ [e0,8] (By _ _) (by show 2≤_;omega)) fun w H4 g4 hq=>?_;subst hq;have g4:Gr H3 H4:=((Fr.refl _).new _).gr g4;have rx:=(g4.get _ m1 zB2).trans rx;have m1:=zA0 m1 g4.nx;have hu:=hu.gr g4;have g4:=g3.gr g4;by_cases N0:e0=0
  case neg=>
   have ce:(ct [e0,8]==0)=false:=by rw[ct,zB1 N0];exact zB5 N0
   have cf:ct [e0,8]=e0:=by rw[ct,zB1 N0]
   rw[cf] at ce;refine zK tyF ?_;exact fin (.o .nilS) (e0) _ _ qp qp qe (g4) (⟨by rw[←E0,zB0 N0];exact SlI.nil,by rw[←E0,zB0 N0],fun _ h=>by cases h⟩)
  rw[zB1 (fun h=>h N0)] at E0;have cf:ct [e0,8]=8:=by rw[ct,zB0 N0];rfl
  replace N0:Hd (e0=0):=N0;refine zK tyF ?_;exact fin (.o .nilS) (8) _ _ qp qp qe (g4) (⟨by rw[←E0,zB1 (fun h=>c1 h.2)];exact SlI.nil,by rw[←E0,zB1 (fun h=>c1 h.2)],fun _ h=>by cases h⟩)
 refine zS (qA tyF pz) ?_;refine WE.con (lJ H2 true 8) fun w H3 g3 hq=>?_;subst hq;have rx:=(g3.get _ m1 zB2).trans rx;have m1:=zA0 m1 g3.nx;have hu:=hu.gr g3;have g3:=g2.gr g3;refine zS (qA tyF uT) ?_;refine WE.con (qM _ _ [e0,0] (By _ _) (by show 2≤_;omega)) fun w H4 g4 hq=>?_;subst hq;have g4:Gr H3 H4:=((Fr.refl _).new _).gr g4;have rx:=(g4.get _ m1 zB2).trans rx;have m1:=zA0 m1 g4.nx;have hu:=hu.gr g4;have g4:=g3.gr g4;by_cases N0:e0=0
 case neg=>
  have ce:(ct [e0,0]==0)=false:=by rw[ct,zB1 N0];exact zB5 N0
  have cf:ct [e0,0]=e0:=by rw[ct,zB1 N0]
  rw[cf] at ce;refine zK tyF ?_;exact fin (.o .nilS) (e0) _ _ qp qp qe (g4) (⟨by rw[←E0,zB0 N0];exact SlI.nil,by rw[←E0,zB0 N0],fun _ h=>by cases h⟩)
 rw[zB1 (fun h=>h N0)] at E0;have cf:ct [e0,0]=0:=by rw[ct,zB0 N0];rfl
 obtain ⟨_,_,hf⟩:=B1 N0;have hul:=(B1 N0).1;replace N0:Hd (e0=0):=N0;refine zK tyF ?_;refine zG (qA tyF Od) fun K hK=>?_;refine WE.con (Mj H4 nm u us n hu (by omega) c0 c1 hf) fun w H5 g5 ⟨c,hq,hc,S6⟩=>?_;subst hq;refine zK tyF ?_;exact fin (c) (0) _ _ qp qp qe (g4.gr g5) (⟨by rw[←E0,zB0 ⟨c0,c1⟩];exact hc,by rw[←E0,zB0 ⟨c0,c1⟩],fun id h=>zA2 g4.nx (S6 id h)⟩)
theorem kG {nm:List UInt8} {us:List Pr} (h:aR nm us=0):∃ x l,us=x::l∧x.2=1:=by
 unfold aR at h;cases hl:eD nm us with
 | false=>rw[hl,zB1 zA8] at h;cases h
 | true=>
  unfold eD at hl;simp only[Bool.and_eq_true] at hl;obtain ⟨⟨⟨⟨_,h1⟩,_⟩,_⟩,h2⟩:=hl;cases us with
  | nil=>simp at h1
  | cons x l=>
   refine ⟨x,l,rfl,?_⟩;have:=List.all_eq_true.1 h2 0 (List.mem_range.2 (Nat.succ_pos _));unfold okU at this;simp only[Bool.and_eq_true] at this;have h3:=this.2;simp at h3
   exact h3
structure Cs where
 face:Int
 col:Int
 line:Int
 kind:Int
 num:Nm
 aN:List UInt8
 ws:List Pr
def CsR (H:Hp) (c:List AC) (x:Cs):Prop:=∃ p q w,c=[.i .i64 x.face,.i .i64 x.col,.i .i64 x.line,.i .i64 x.kind,p,q,.o (.str x.aN),w]∧aO H p x.num.1∧aO H q x.num.2∧SlP H w x.ws
theorem CsR.gr {H H':Hp} {c:List AC} {x:Cs} (h:CsR H c x) (hg:Gr H H'):CsR H' c x:=let ⟨p,q,w,h1,h2,h3,h4⟩:=h;⟨p,q,w,h1,h2.gr hg,h3.gr hg,h4.gr hg⟩
theorem oL {a b d e:Int} {s:List UInt8} {p q w:AC}:jh [.i .i64 a,.i .i64 b,.i .i64 d,.i .i64 e,p,q,.o (.str s),w]=(AV.one p).ids++((AV.one q).ids++(AV.one w).ids):=by
 simp only[qg,uL,PI,KD,List.nil_append,List.append_nil]
theorem cK:FrR CsR:=fun Y H H' c x ⟨p,q,w,h1,h2,h3,h4⟩ hf hi=>by
 subst h1;rw[oL] at hi;exact ⟨p,q,w,rfl,SlC.fr h2 hf fun i h=>hi i (List.mem_append_left _ h),SlC.fr h3 hf fun i h=>hi i (List.mem_append_right _ (List.mem_append_left _ h)),SlC.fr h4 hf fun i h=>hi i (List.mem_append_right _ (List.mem_append_right _ h))⟩
theorem cM:LtR CsR:=fun H c x ⟨p,q,w,h1,h2,h3,h4⟩ i hi=>by
 subst h1;rw[oL] at hi;rcases List.mem_append.1 hi with h|h
 ·exact h2.lt i h
 rcases List.mem_append.1 h with h|h
 ·exact h3.lt i h
 exact h4.lt i h
def ca (H:Hp) (v:AC) (l:List Cs):Prop:=SlR CsR 8 H v l
theorem ca.gr {H H':Hp} {v:AC} {l:List Cs} (h:ca H v l) (hg:Gr H H'):ca H' v l:=SlR.dE h hg.nx (fun i hi=>hg.get i hi zB2) fun _ _ h=>h.gr hg
theorem ca.len {H:Hp} {v:AC} {l:List Cs} (h:ca H v l):cR H 1 (.one v)=.val (.one (.i .i64 (l.length:Int))) H:=SlR.len h
theorem ca.lt {H:Hp} {v:AC} {l:List Cs} (h:ca H v l):ltV (.one v) H.nx:=SlR.lt h
structure CsAt (H:Hp) (cells:List AC) (o:Nat) (x:Cs) (p q w:AC):Prop where
 of1:aO H p x.num.1
 of2:aO H q x.num.2
 of3:SlP H w x.ws
 all:(cells.drop o).take 8=[.i .i64 x.face,.i .i64 x.col,.i .i64 x.line,.i .i64 x.kind,p,q,.o (.str x.aN),w]
 le:o+8≤cells.length
 f0:(cells.drop o).headD (.b false)=.i .i64 x.face
 f1:(cells.drop (o+1)).headD (.b false)=.i .i64 x.col
 f2:(cells.drop (o+2)).headD (.b false)=.i .i64 x.line
 f3:(cells.drop (o+3)).headD (.b false)=.i .i64 x.kind
 f4:(cells.drop (o+4)).take 2=[p,q]
 f6:(cells.drop (o+6)).headD (.b false)=.o (.str x.aN)
 f7:(cells.drop (o+7)).headD (.b false)=w
theorem Vg {cells:List AC} {o:Nat} {a b c d e f g h:AC} (hh:(cells.drop o).take 8=[a,b,c,d,e,f,g,h]):(cells.drop o).headD (.b false)=a∧(cells.drop (o+1)).headD (.b false)=b∧(cells.drop (o+2)).headD (.b false)=c∧(cells.drop (o+3)).headD (.b false)=d∧(cells.drop (o+4)).take 2=[e,f]∧(cells.drop (o+6)).headD (.b false)=g∧(cells.drop (o+7)).headD (.b false)=h:=by
 rw[←List.drop_drop,←List.drop_drop,←List.drop_drop,←List.drop_drop,←List.drop_drop,←List.drop_drop];match hd:cells.drop o,hh with
 | x0::x1::x2::x3::x4::x5::x6::x7::r,hh=>
  simp only[List.take_succ_cons,List.take_zero,List.cons.injEq,and_true] at hh;obtain ⟨rfl,rfl,rfl,rfl,rfl,rfl,rfl,rfl⟩:=hh;exact ⟨rfl,rfl,rfl,rfl,rfl,rfl,rfl⟩
theorem ca.open {H:Hp} {v:AC} {l:List Cs} (h:ca H v l) (hn:0<l.length):∃ id g off cells,v=.o (.sl id g off l.length 8)∧id<H.nx∧rowOf (H.get id) g=some cells∧∀ (i:Nat) (x:Cs),l[i]?=some x→∃ p q w,CsAt H cells (off+i*8) x p q w:=by
 obtain ⟨id,g,off,cells,h1,h2,h3,h4⟩:=SlR.open h hn;refine ⟨id,g,off,cells,h1,h2,h3,fun i x hx=>?_⟩;obtain ⟨h5,c,h6,h7,p,q,w,rfl,h8,h9,h10⟩:=h4 i x hx;obtain ⟨d0,d1,d2,d3,d4,d6,d7⟩:=Vg h6;exact ⟨p,q,w,h8,h9,h10,h6,h5,d0,d1,d2,d3,d4,d6,d7⟩
abbrev Tb:=List UInt8×List Cs
structure TbB (l:List Cs):Prop where
 c:l.length*120≤140737488355328
 n:∀ x∈l,x.num.1.length*32≤140737488355328∧x.num.2.length*32≤140737488355328
 w:∀ x∈l,x.ws.length*24≤140737488355328
theorem TbB.take {l:List Cs} (h:TbB l) (i:Nat):TbB (l.take i):=
 ⟨by have:=h.c;rw[List.length_take];omega,fun x hx=>h.n x (List.mem_of_mem_take hx),fun x hx=>h.w x (List.mem_of_mem_take hx)⟩
theorem TbB.drop {l:List Cs} (h:TbB l) (i:Nat):TbB (l.drop i):=
 ⟨by have:=h.c;rw[List.length_drop];omega,fun x hx=>h.n x (List.mem_of_mem_drop hx),fun x hx=>h.w x (List.mem_of_mem_drop hx)⟩
theorem cE {E:Env} {res:List ResultVar} {l:List (Bool×List AC)} {A:ab} {H H2:Hp} {e:aD} (he:e=.normal∨e=.ret) (hd:closeAll H A.dfr=some H2) (h:bc E.P res A.tm H2=some l):aC E res (e,A,H)=.ok [(cY l,H2)]:=by
 have key:(aw (closeAll H A.dfr) (R.bad "marks") fun h2=>aw (bc E.P res A.tm h2) (.bad "results") fun l=>.ok [(cY l,h2)])=.ok [(cY l,H2)]:=by
  rw[hd];show aw (bc E.P res A.tm H2) (R.bad "results") (fun l=>R.ok [(cY l,H2)])=_
  rw[h];rfl
 rcases he with rfl|rfl
 ·exact key
 exact key
theorem tl {P:Program} {tm:PT AV} {H:Hp}:bc P [] tm H=some []:=rfl
theorem qC {P:Program} {A:ab} {H:Hp} {t:Tmp} {c:AC} {rest:List ResultVar} {l:List (Bool×List AC)} (hs:slot A.tm t=.one c) (h:bc P rest A.tm H=some l):bc P (.tmp t::rest) A.tm H=some ((false,[c])::l):=by
 show aw (aw (A.tm.get t) none fg) none (fun x=>aw (bc P rest A.tm H) none fun l=>some (x::l))=_;rw[sJ hs,h];rfl
theorem jD {P:Program} {A:ab} {H:Hp} {s:Tmp} {t:TypeId} {n id g lim:Nat} {cells:List AC} {rest:List ResultVar} {l:List (Bool×List AC)} (ht:loadT P t=some (true,n)) (hs:slot A.tm s=.one (.o (.ptr id g 0 lim))) (hg:rowOf (H.get id) g=some cells) (hl:n≤lim) (ho:cells.length=n)
  (h:bc P rest A.tm H=some l):bc P (.cell s t::rest) A.tm H=some ((true,cells)::l):=by
 have e1:iv P (.cell s t) A.tm H=some (true,cells):=by
  have e0:iv P (.cell s t)=match loadT P t with
    | some p=>fun tm h=>aw (tm.get s) none fun v=>ad.rec (motive:=fun _=>Option (Bool×List AC)) (fun v _=>fg v) (fun _=>none) (fun _ _=>none) (fun _ _=>none) (fun _=>none) (bT h p.1 p.2 v)
    | none=>fun _ _=>none:=rfl
  rw[e0,ht];show aw (A.tm.get s) none (fun v=>ad.rec (motive:=fun _=>Option (Bool×List AC)) (fun v _=>fg v) (fun _=>none) (fun _ _=>none) (fun _ _=>none) (fun _=>none) (bT H true n v))=_;rw[sJ hs];show ad.rec (motive:=fun _=>Option (Bool×List AC)) (fun v _=>fg v) (fun _=>none) (fun _ _=>none) (fun _ _=>none) (fun _=>none) (bT H true n (.one (.o (.ptr id g 0 lim))))=_;rw[eV,hg,pQ hl (by omega),List.drop_zero,List.take_of_length_le (by omega)];rfl
 show aw (iv P (.cell s t) A.tm H) none (fun x=>aw (bc P rest A.tm H) none fun l=>some (x::l))=_;rw[e1,h];rfl
theorem yK {c:List AC} {e:TypeId}:rowOf (some (.arr c e 0 0)) 0=some c:=bX (zA1 _) (zA1 _)
def rW (x:Pr):Bool:=if x.2=1∨x.2=2∨x.2=3 then nmB x.1 else if x.2=4∨x.2=5 then lEq x.1 [] else false
def RI (acc:List Pr):Bool:=acc.getLast?.any fun y=>y.2==5
def goW:List Pr→List Pr→Int
 | _,[]=>0
 | acc,x::l=>if rW x=false then 42 else if x.2=5∧RI acc=true then 42 else goW (acc++[x]) l
def jl (l:List Pr):Int:=if (16:Int)<l.length then 42 else goW [] l
theorem Kj:∀ (acc l:List Pr),goW acc l=0∨goW acc l=42
 | _,[]=>.inl rfl
 | acc,x::l=>by
  unfold goW;split
  ·exact .inr rfl
  split
  ·exact .inr rfl
  exact Kj _ l
theorem HL (l:List Pr):jl l=0∨jl l=42:=by
 unfold jl;split
 ·exact .inr rfl
 exact Kj _ _
def gb (c:Cs):Bool:=
 if c.face<1∨6<c.face∨c.col<1∨12<c.col∨c.line<1∨99<c.line then false else
 if c.kind=4 then (decide (c.num.1.length=0)&&(decide (c.num.2.length=0)&&lEq c.aN [])) else
 if c.kind=1∨c.kind=2∨c.kind=3 then (decide (cC c.num=0)&&(lEq c.aN []||nmB c.aN)) else false
def pP (a b:Cs):Bool:=if b.face=a.face then (if b.col=a.col then decide (a.line<b.line) else decide (a.col<b.col)) else decide (a.face<b.face)
def fI (acc:List Cs) (c:Cs):Int:=
 if gb c=false then 41 else if jl c.ws≠0 then 42 else if acc.getLast?.any (fun y=>!pP y c)=true then 43 else 0
def goT:List Cs→List Cs→Int
 | _,[]=>0
 | acc,c::l=>if fI acc c≠0 then fI acc c else goT (acc++[c]) l
def kE (t:Tb):Int:=if nmB t.1=false then 40 else if (256:Int)<t.2.length then 3 else goT [] t.2
theorem zN {v:AV} {a b:Nat} (h:ltV v a) (hab:a≤b):ltV v b:=fun i hi=>zA0 (h i hi) hab
theorem MN {α:Type} {l:List α} {i:Nat} {y:α} (hi:0<i) (hy:l[i - 1]?=some y):(l.take i).getLast?=some y:=by
 have D0:=(List.getElem?_eq_some_iff.1 hy).1;rw[List.getLast?_eq_getElem?,List.length_take,Nat.min_eq_left (by omega),List.getElem?_take,zB0 (by omega)];exact hy
theorem oA:al Tryz.prog 193=true:=by kernel_rfl
theorem vX (H:Hp) (s:List UInt8) (k:Int):Con E2 193 [.agg [.o (.str s),.i .i64 k]] H (fun _=>False) fun r _=>r=.one (.b (rW (s,k))):=by
 refine Con.of rfl fun lg=>?_;generalize (⟨H.t,H.nx,lg⟩:Hp)=H at ⊢;refine C1.body (E:=E2) (nt:=18) (res:=[.tmp 2]) Tryz.func193 rfl rfl rfl rfl rfl fun tm A0=>?_;have h0:=A0 0 _ rfl;clear A0;have fin:∀ (e:Bool) (A:ab) (H3:Hp),slot A.tm 2=.one (.b e)→A.dfr=[]→Gr H H3→e=rW (s,k)→∃ w H4,aC E2 [.tmp 2] (.ret,A,H3)=.ok [(w,H4)]∧Gr H H4∧∀ _:List Nat,w=.one (.b (rW (s,k))):=fun e A H3 h1 h2 h3 h4=>⟨_,H3,aj (.b e) (.inr rfl) h2 h1,h3,fun _=>by rw[h4]⟩;generalize E0:rW (s,k)=r0 at fin;have c123:k=1∨k=2∨k=3→nmB s=r0:=fun h=>by rw[←E0];exact (zB0 h).symm
 have c45:k=4∨k=5→lEq s []=r0:=fun h=>by
  rw[←E0];unfold rW;rw[zB1 (by show ¬(k=1∨k=2∨k=3);omega),zB0 (by show k=4∨k=5;exact h)]
 have c0:¬(k=1∨k=2∨k=3)→¬(k=4∨k=5)→false=r0:=fun h h'=>by
  rw[←E0];unfold rW;rw[zB1 (by show ¬(k=1∨k=2∨k=3);exact h),zB1 (by show ¬(k=4∨k=5);exact h')]
 replace c123:Hd _:=c123;replace c45:Hd _:=c45;replace c0:Hd _:=c0;clear E0;refine zG tyF fun K hK=>?_;refine hK.out _ _ ?_;refine R1.gen (fun A1 H1=>Gr H H1∧H.nx<H1.nx∧H1.get H.nx=some (.arr [.o (.str s),.i .i64 k] 185 0 0)∧slot A1.tm 1=.one ((.o (.ptr H.nx 0 0 2)))∧A1.nt=18∧A1.dfr=[])
  ⟨(Fr.refl _).new _,zA6 _,az rfl,zL⟩ ?_
 clear h0 tm hK K;rintro A1 H1 ⟨g1,m1,rx,t1,B0,C0⟩;obtain ⟨N,hN⟩:∃ N,N=H.nx:=⟨_,rfl⟩;rw[←hN] at m1 rx t1;clear hN;have name:Hd (∀ (A:ab) (h123:k=1∨k=2∨k=3),slot A.tm 1=.one ((.o (.ptr N 0 0 2)))∧A.nt=18∧A.dfr=[]→True):=fun _ _ _=>trivial;clear name;by_cases q1:k=1∨k=2∨k=3
 ·have hn:=c123.out q1;replace hn:Hd _:=hn;clear c123 c45 c0;rcases q1 with rfl|rfl|rfl <;>
  ·refine zW tyF ?_;refine R1.dp fun K2 p1 p2 p3 p4=>?_;refine zW tyF ?_;refine zG (qA tyF dP) fun K hK=>?_;refine WE.con (nN (X:=fun _=>False) s _) fun w H2 g2 hq=>?_;subst hq;refine zK tyF ?_;exact p4.out _ _ (fin (nmB s) _ _ qp qe (g1.gr g2) (hn.out))
 by_cases q2:k=4∨k=5
 ·have hn:=c45.out q2;replace hn:Hd _:=hn;clear c123 c45 c0 q1;rcases q2 with rfl|rfl <;>
  ·refine zW tyF ?_;refine R1.dp fun K2 p1 p2 p3 p4=>?_;refine zW tyF ?_;exact p4.out _ _ (fin (lEq s []) _ _ qp qe (g1) (hn.out))
 have hn:=c0.out q1 q2;have e1:(k==1)=false:=zB5 (by omega);have e2:(k==2)=false:=zB5 (by omega);have e3:(k==3)=false:=zB5 (by omega);have e4:(k==4)=false:=zB5 (by omega);have e5:(k==5)=false:=zB5 (by omega);replace hn:Hd _:=hn;clear c123 c45 c0 q1 q2;refine zW tyF ?_;refine R1.dp fun K2 p1 p2 p3 p4=>?_;refine zW tyF ?_;refine p1.out _ _ ?_;refine zW tyF ?_;exact fin (false) _ _ qp qe (g1) (hn.out)
end Go.Proofs.YtnhbkodnmkojpaaGreat
end
