/- A part of the proof: BkLc2, BkLc3, BkLc4, BkLc5, BkRn1, BkRn2, BkEk1, BkEk2, BkEkEnd, BkEkHold. No conditions. -/
import Derived.Test.YtnhbkodnmkojpaaGreatSAq
set_option maxRecDepth 100000
set_option maxHeartbeats 64000000
set_option linter.unusedVariables false
set_option linter.unusedSimpArgs false
noncomputable section
namespace Go.Proofs.YtnhbkodnmkojpaaGreat
open Go Go.Eng
def ma:Lot:=([],0)
def bY:List Lot→List Lot→List (Lot×Lot)
 | [],[]=>[]
 | x::a,[]=>(x,ma)::bY a []
 | [],y::b=>(ma,y)::bY [] b
 | x::a,y::b=>if aW x.1 y.1=true then (x,ma)::bY a (y::b) else if aW y.1 x.1=true then (ma,y)::bY (x::a) b else (x,y)::bY a b
termination_by a b=>a.length+b.length
def eK {τ:Type} (ok:τ→Lot→Lot→Bool) (step:τ→Lot→Lot→τ):τ→List (Lot×Lot)→Option τ
 | t,[]=>some t
 | t,(x,y)::l=>if ok t x y=true then eK ok step (step t x y) l else none
def lW (v:AC) (n:Nat):Prop:=∀ id∈(AV.one v).ids,id<n
theorem SlL.fr {H H':Hp} {v:AC} {l:List Lot} {X:Nat→Prop} (h:SlL H v l) (hf:Fr X H H') (hx:∀ id∈(AV.one v).ids,¬X id):SlL H' v l:=by
 refine ⟨h.1,h.2.imp id ?_⟩;rintro ⟨id,g,off,h1,h2,h3⟩;subst h1;exact ⟨id,g,off,rfl,zA0 h2 hf.nx,h3.dp (hf.get _ h2 (hx id (List.mem_singleton.2 rfl)))⟩
structure MInv {σ τ:Type} (n0:Nat) (J:σ→Hp→Prop) (fp:σ→Nat→Prop) (pure:σ→τ) (ok:τ→Lot→Lot→Bool) (step:τ→Lot→Lot→τ) (B:τ→Nat→Prop) (fn:FuncId) (caps:List (Nat×Nat×Nat×Nat)) (H:Hp) (s0:σ) (r0:Option τ)
  (A:ab) (H1:Hp) (s:σ) (a b:List Lot) (va vb:AC) (q9:Nat):Prop where
 r:eK ok step (pure s) (bY a b)=r0
 j:J s H1
 bb:B (pure s) (a.length+b.length)
 fr:Fr (fp s0) H H1
 fpi:∀ i,fp s i→fp s0 i∨H.nx≤i
 sa:SlL H1 va a
 sb:SlL H1 vb b
 la:lW va n0
 lb:lW vb n0
 t0:slot A.tm 0=.one va
 t1:slot A.tm 1=.one vb
 t2:slot A.tm 2=.one (.o (.clo 98 []))
 t3:slot A.tm 3=.one (.o (.clo fn caps))
 t9:slot A.tm 9=.one (.o (.ptr q9 0 0 2))
 g9:H1.get q9=some (.arr [.o (.str []),.i .i64 0] 92 0 0)
 l9:H.nx≤q9∧q9<H1.nx
 f9:¬fp s q9
 nt:A.nt=80
 df:A.dfr=[]
theorem Ox {σ τ:Type} (n0:Nat) (J:σ→Hp→Prop) (fp:σ→Nat→Prop) (pure:σ→τ) (ok:τ→Lot→Lot→Bool) (step:τ→Lot→Lot→τ) (B:τ→Nat→Prop) (hB:∀ t n m x y,B t n→m<n→B (step t x y) m) (fn:FuncId) (caps:List (Nat×Nat×Nat×Nat)) (R4:al Tryz.prog fn=true)
  (hJt:∀ s (H H':Hp),H'.t=H.t→H'.nx=H.nx→J s H→J s H') (hJg:∀ s H H',J s H→Gr H H'→J s H') (hJl:∀ s H i,J s H→fp s i→n0≤i∧i<H.nx)
  (hpass:∀ s H x y n,J s H→B (pure s) n→0<n→Con E2 fn (.agg (dh x)::.agg (dh y)::dX caps) H (fp s) fun v H'=>v=.one (.b (ok (pure s) x y))∧(ok (pure s) x y=true→∃ s',J s' H'∧pure s'=step (pure s) x y∧∀ i,fp s' i→fp s i∨H.nx≤i))
  (H:Hp) (Q5:n0≤H.nx) (s0:σ) (hJ:J s0 H) (a b:List Lot) (T8:B (pure s0) (a.length+b.length)) (va vb:AC) (ha:SlL H va a) (hb:SlL H vb b) (la:lW va n0) (lb:lW vb n0):
  Con E2 97 [.one va,.one vb,.one (.o (.clo 98 [])),.one (.o (.clo fn caps))] H (fp s0) fun v H'=>
   v=.one (.b (eK ok step (pure s0) (bY a b)).isSome)∧∀ t,eK ok step (pure s0) (bY a b)=some t→∃ s',J s' H'∧pure s'=t:=by
 refine Con.of rfl fun lg=>?_;have hJ:J s0 ⟨H.t,H.nx,lg⟩:=hJt s0 H ⟨H.t,H.nx,lg⟩ rfl rfl hJ;have ha:SlL ⟨H.t,H.nx,lg⟩ va a:=ha;have hb:SlL ⟨H.t,H.nx,lg⟩ vb b:=hb;have Q5:n0≤(⟨H.t,H.nx,lg⟩:Hp).nx:=Q5;generalize (⟨H.t,H.nx,lg⟩:Hp)=H at hJ ha hb Q5 ⊢;refine C1.body (E:=E2) (nt:=80) (res:=[.tmp 8]) Tryz.func97 rfl rfl rfl rfl rfl fun tm A0=>?_;have h0:=A0 0 _ rfl;have h1:=A0 1 _ rfl;have h2:=A0 2 _ rfl;have h3:=A0 3 _ rfl;clear A0;generalize E0:eK ok step (pure s0) (bY a b)=r0;refine qW (qA ae (qA h0 (qA h1 (qA h2 (qA h3 oX))))) ?_;refine R1.aU fun K k1 k2 k3 k4=>?_;refine R1.loop (fun k A1 H1=>∃ s a b va vb q9,k=a.length+b.length∧MInv n0 J fp pure ok step B fn caps H s0 r0 A1 H1 s a b va vb q9) ?_ (a.length+b.length)
  ⟨s0,a,b,va,vb,H.nx,rfl,?_⟩
 ·clear h0 h1 h2 h3 tm E0;clear ha hb la lb hJ T8;rintro k A1 H1 ⟨s,a,b,va,vb,q9,rfl,I⟩;obtain ⟨hr,hj,T8,X5,I6,ha,hb,la,lb,t0,t1,t2,t3,t9,g9,⟨l9,l9'⟩,f9,B0,C0⟩:=I;refine R1.Za (fun A H2=>H1=H2∧0<a.length+b.length∧slot A.tm 0=.one va∧slot A.tm 1=.one vb∧slot A.tm 2=.one (.o (.clo 98 []))∧slot A.tm 3=.one (.o (.clo fn caps))∧slot A.tm 9=.one (.o (.ptr q9 0 0 2))∧A.nt=80∧A.dfr=[]) ?_ ?_
  ·cases a with
   | nil=>
    cases b with
    | nil=>
     refine qW (qA ae (qA t0 (qA t1 (qA B0 (qA eI (qA ha.len (qA ha.lt (qA hb.len hb.lt)))))))) ?_;refine qY ?_;refine qV ?_;refine k2 _ _ ?_;refine qW B0 ?_;refine ⟨_,_,ai (.b true) (.inr rfl) (qd C0) (by simp only[aa,reduceIte]),X5,fun lg'=>⟨?_,fun t ht=>⟨s,hJt s H1 _ rfl rfl hj,?_⟩⟩⟩
     ·rw[←hr,bY];rfl
     rw[←hr,bY] at ht;exact Option.some.inj ht
    | cons y b=>
     refine qW (qA ae (qA t0 (qA t1 (qA B0 (qA eI (qA ha.len (qA ha.lt (qA hb.len hb.lt)))))))) ?_;refine qY ?_;refine qV ?_;refine ⟨rfl,by simp only[List.length_cons];omega,?_⟩;simp only[aa,aE,ak,Nat.reduceEqDiff,reduceIte,t0,t1,t2,t3,t9,B0,C0,and_self]
   | cons x a=>
    refine qW (qA ae (qA t0 (qA t1 (qA B0 (qA eI (qA ha.len (qA ha.lt (qA hb.len hb.lt)))))))) ?_;refine qY ?_;refine qV ?_;refine ⟨rfl,by simp only[List.length_cons];omega,?_⟩;simp only[aa,aE,ak,Nat.reduceEqDiff,reduceIte,t0,t1,t2,t3,t9,B0,C0,and_self]
  clear t0 t1 t2 t3 t9 B0 C0 A1;rintro A1 H2 ⟨rfl,V3,t0,t1,t2,t3,t9,B0,C0⟩;refine R1.block ?_;repeat refine R1.aA ?_
  (first|refine R1.mq (ms:=[0,0,0,0,13,31]) (by kernel_rfl) (by kernel_rfl) fun K hK=>?_|refine R1.lZ (ms:=[0,0,0,0,13,31]) (by kernel_rfl) (by kernel_rfl) fun K hK=>?_)
  simp (config:={decide:=true}) only [qB,aq,Nat.reduceLT,Nat.reduceEqDiff,Nat.reduceLeDiff,reduceIte,Nat.reduceAdd,Nat.reduceSub,Nat.reduceMul,Int.reduceLT,Int.reduceLE,Int.reduceBEq,qD,bJ,bQ,aR,reduceCtorEq,t9,g9,l9',B0,ae,fM,oX,lD]
  refine hK _ _ ?_;clear hK K;refine R1.gen (fun A H2=>Gr H1 H2∧H2.nx=H1.nx+2∧H2.get H1.nx=some (.arr [.o (.str []),.i .i64 0] 92 0 0)∧H2.get (H1.nx+1)=some (.arr [.o (.str []),.i .i64 0] 92 0 0) ∧
   slot A.tm 0=.one va∧slot A.tm 1=.one vb∧slot A.tm 2=.one (.o (.clo 98 []))∧slot A.tm 3=.one (.o (.clo fn caps))∧slot A.tm 9=.one (.o (.ptr q9 0 0 2))∧slot A.tm 10=.one (.o (.ptr H1.nx 0 0 2))∧slot A.tm 11=.one (.o (.ptr (H1.nx+1) 0 0 2))∧A.nt=80∧A.dfr=[])
   ⟨((((Fr.refl _).new _).new _).mod _ (.inl (zA1 _))).mod _ (.inl (Nat.le_succ _)),?_⟩ ?_
  ·simp only[qB,aq,Nat.reduceLT,Nat.reduceEqDiff,Nat.reduceLeDiff,reduceIte,Nat.reduceAdd,Nat.reduceSub,Nat.reduceMul,Int.reduceLT,Int.reduceLE,Int.reduceBEq,aa,aE,ak,t0,t1,t2,t3,t9,B0,C0,and_self]
  clear t0 t1 t2 t3 t9 B0 C0 A1;rintro A1 H2 ⟨Z4,n2,g10,g11,t0,t1,t2,t3,t9,t10,t11,B0,C0⟩;have l10:H1.nx<H2.nx:=by omega
  have l11:H1.nx+1<H2.nx:=by omega
  have ha2:=ha.gr Z4;have Y6:=hb.gr Z4;refine R1.Sd (fun A H3=>∃ x y a' b' va' vb',bY a b=(x,y)::bY a' b'∧a'.length+b'.length<a.length+b.length∧SlL H1 va' a'∧SlL H1 vb' b'∧lW va' n0∧lW vb' n0∧Gr H1 H3∧H1.nx+2≤H3.nx∧H3.get H1.nx=some (.arr (dh x) 92 0 0)∧H3.get (H1.nx+1)=some (.arr (dh y) 92 0 0) ∧
   slot A.tm 0=.one va'∧slot A.tm 1=.one vb'∧slot A.tm 2=.one (.o (.clo 98 []))∧slot A.tm 3=.one (.o (.clo fn caps))∧slot A.tm 9=.one (.o (.ptr q9 0 0 2))∧slot A.tm 10=.one (.o (.ptr H1.nx 0 0 2))∧slot A.tm 11=.one (.o (.ptr (H1.nx+1) 0 0 2))∧A.nt=80∧A.dfr=[]) (fun K2 q1 q2 q3 q4=>?_) ?_
  ·cases a with
   | nil=>
    cases b with
    | nil=>exact absurd V3 (Nat.lt_irrefl 0)
    | cons y b=>
     obtain ⟨id,g,off,cells,rfl,hid,hg,O0⟩:=Y6.QY;refine qW (qA ae (qA t0 (qA t1 (qA B0 (qA eI (qA ha2.len (qA ha2.lt hid))))))) ?_;refine qY ?_;refine qW (qA ae (qA t0 (qA t1 (qA B0 (qA eI (qA ha2.len (qA ha2.lt hid))))))) ?_;refine qY ?_;refine qW (qA ae (qA t0 (qA t1 (qA t11 (qA l11 (qA g11 (qA B0 (qA dH (qA fM (qA lD (qA hid (qA hg (qA O0.all (qA O0.le fP)))))))))))))) ?_;refine q1 _ _ ⟨ma,y,[],b,va,_,by rw[bY],by simp,ha,SlL.Ad hb,la,fun i hi=>lb i hi,Z4.mod _ (.inl (Nat.le_succ _)),by rw[mb];omega,?_,?_,?_⟩
     ·rw[az (by omega)];exact g10
     ·rw[aj rfl];rfl
     simp only[qB,aq,Nat.reduceLT,Nat.reduceEqDiff,Nat.reduceLeDiff,reduceIte,Nat.reduceAdd,Nat.reduceSub,Nat.reduceMul,Int.reduceLT,Int.reduceLE,Int.reduceBEq,aa,aE,ak,t2,t3,t9,t10,t11,t0,t1,B0,C0,and_self]
   | cons x a=>
    obtain ⟨id,g,off,cells,rfl,hid,hg,O0⟩:=ha2.QY;cases b with
    | nil=>
     refine qW (qA ae (qA t0 (qA t1 (qA B0 (qA eI (qA Y6.len (qA Y6.lt hid))))))) ?_;refine qY ?_;refine qW (qA ae (qA t0 (qA t1 (qA t10 (qA l10 (qA g10 (qA B0 (qA dH (qA fM (qA lD (qA hid (qA hg (qA O0.all (qA O0.le fP)))))))))))))) ?_;refine q1 _ _ ⟨x,ma,a,[],_,vb,by rw[bY],by simp,SlL.Ad ha,hb,fun i hi=>la i hi,lb,Z4.mod _ (.inl (zA1 _)),by rw[mb];omega,?_,?_,?_⟩
     ·rw[aj rfl];rfl
     ·rw[az (by omega)];exact g11
     simp only[qB,aq,Nat.reduceLT,Nat.reduceEqDiff,Nat.reduceLeDiff,reduceIte,Nat.reduceAdd,Nat.reduceSub,Nat.reduceMul,Int.reduceLT,Int.reduceLE,Int.reduceBEq,aa,aE,ak,t2,t3,t9,t10,t11,t0,t1,B0,C0,and_self]
    | cons y b=>
     obtain ⟨id',g',off',cells',rfl,L2,M1,M4⟩:=Y6.QY;refine qG (qA ae (qA t0 (qA t1 (qA t2 (qA B0 (qA eI (qA hid (qA L2 (qA dH (qA fM (qA hg (qA M1 (qA O0.all (qA M4.all (qA O0.le (qA M4.le yH)))))))))))))))) fun K hK=>?_;refine WE.con (vE _ x y) fun v3 H3 Z3 hv=>?_;subst hv;have u_:=M1;have hidx:=L2;have l103:H1.nx<H3.nx:=by have:=Z3.nx;omega
     have l113:H1.nx+1<H3.nx:=by have:=Z3.nx;omega
     have g103:H3.get H1.nx=some (.arr [.o (.str []),.i .i64 0] 92 0 0):=by rw[Z3.get _ l10 zB2];exact g10
     have g113:H3.get (H1.nx+1)=some (.arr [.o (.str []),.i .i64 0] 92 0 0):=by rw[Z3.get _ l11 zB2];exact g11
     have hg3:rowOf (H3.get id) g=some cells:=by rw[Z3.get _ hid zB2];exact hg
     have hgx3:rowOf (H3.get id') g'=some cells':=by rw[Z3.get _ hidx zB2];exact u_
     have z8:id<H3.nx:=by have:=Z3.nx;omega
     have hidx3:id'<H3.nx:=by have:=Z3.nx;omega
     have hn:∀ {i:Nat},i<n0→i≠H1.nx∧i≠H1.nx+1:=fun h=>by have:=X5.nx;omega
     have C9:=hn (la id (List.mem_singleton.2 rfl));have V5:=hn (lb id' (List.mem_singleton.2 rfl));have hg23:=Z4.gr Z3;refine qS B0 ?_;refine hK _ _ ?_;clear hK K;refine qE fun Kx Ky hx hy=>?_;refine di (fun hc=>hx ?_) (fun hc=>hy ?_)
     ·clear hx hy Kx Ky;refine qW (qA ae (qA t0 (qA t1 (qA t10 (qA l103 (qA g103 (qA B0 (qA dH (qA fM (qA lD (qA z8 (qA hg3 (qA O0.all (qA O0.le fP)))))))))))))) ?_;refine q1 _ _ ⟨x,ma,a,y::b,_,_,by rw[bY,zB0 hc],by simp only[List.length_cons];omega,SlL.Ad ha,hb,fun i hi=>la i hi,lb,hg23.mod _ (.inl (zA1 _)),by rw[mb];omega,?_,?_,?_⟩
      ·rw[aj rfl];rfl
      ·rw[az (by omega)];exact g113
      simp only[qB,aq,Nat.reduceLT,Nat.reduceEqDiff,Nat.reduceLeDiff,reduceIte,Nat.reduceAdd,Nat.reduceSub,Nat.reduceMul,Int.reduceLT,Int.reduceLE,Int.reduceBEq,aa,aE,ak,t2,t3,t9,t10,t11,t0,t1,B0,C0,and_self]
     clear hx hy Kx Ky;refine qG (qA ae (qA t0 (qA t1 (qA t2 (qA B0 (qA eI (qA z8 (qA hidx3 (qA dH (qA fM (qA hg3 (qA hgx3 (qA O0.all (qA M4.all (qA O0.le (qA M4.le yH)))))))))))))))) fun K hK=>?_;refine WE.con (vE _ y x) fun v4 H4 X7 hv=>?_;subst hv;have l104:H1.nx<H4.nx:=by have:=X7.nx;omega
     have l114:H1.nx+1<H4.nx:=by have:=X7.nx;omega
     have g104:H4.get H1.nx=some (.arr [.o (.str []),.i .i64 0] 92 0 0):=by rw[X7.get _ l103 zB2];exact g103
     have g114:H4.get (H1.nx+1)=some (.arr [.o (.str []),.i .i64 0] 92 0 0):=by rw[X7.get _ l113 zB2];exact g113
     have hg4:rowOf (H4.get id) g=some cells:=by rw[X7.get _ z8 zB2];exact hg3
     have hgx4:rowOf (H4.get id') g'=some cells':=by rw[X7.get _ hidx3 zB2];exact hgx3
     have S3:id<H4.nx:=by have:=X7.nx;omega
     have hidx4:id'<H4.nx:=by have:=X7.nx;omega
     have hg24:=hg23.gr X7;refine qS B0 ?_;refine hK _ _ ?_;clear hK K;refine qE fun Kx Ky hx hy=>?_;refine di (fun hd=>hx ?_) (fun hd=>hy ?_)
     ·clear hx hy Kx Ky;refine qW (qA ae (qA t0 (qA t1 (qA t11 (qA l114 (qA g114 (qA B0 (qA dH (qA fM (qA lD (qA hidx4 (qA hgx4 (qA M4.all (qA M4.le fP)))))))))))))) ?_;refine q1 _ _ ⟨ma,y,x::a,b,_,_,by rw[bY,zB1 hc,zB0 hd],by simp only[List.length_cons];omega,ha,SlL.Ad hb,la,fun i hi=>lb i hi,hg24.mod _ (.inl (Nat.le_succ _)),by rw[mb];omega,?_,?_,?_⟩
      ·rw[az (by omega)];exact g104
      ·rw[aj rfl];rfl
      simp only[qB,aq,Nat.reduceLT,Nat.reduceEqDiff,Nat.reduceLeDiff,reduceIte,Nat.reduceAdd,Nat.reduceSub,Nat.reduceMul,Int.reduceLT,Int.reduceLE,Int.reduceBEq,aa,aE,ak,t2,t3,t9,t10,t11,t0,t1,B0,C0,and_self]
     clear hx hy Kx Ky;repeat refine R1.aA ?_
     (first|refine R1.mq (ms:=[0,1,3,0,8,24,0,64,0,256,7,1087,3327,8191]) (by kernel_rfl) (by kernel_rfl) fun K hK=>?_|refine R1.lZ (ms:=[0,1,3,0,8,24,0,64,0,256,7,1087,3327,8191]) (by kernel_rfl) (by kernel_rfl) fun K hK=>?_)
     simp (config:={decide:=true}) only [qB,aq,Nat.reduceLT,Nat.reduceEqDiff,Nat.reduceLeDiff,reduceIte,Nat.reduceAdd,Nat.reduceSub,Nat.reduceMul,Int.reduceLT,Int.reduceLE,Int.reduceBEq,qD,bJ,bQ,aR,reduceCtorEq,t0,t1,t10,t11,l104,l114,g104,g114,B0,ae,fM,lD,dH,S3,hidx4,hg4,hgx4,O0.all,M4.all,O0.le,M4.le,fP,C9,V5,C9.1.symm,V5.1.symm]
     refine hK _ _ ?_;clear hK K;refine q1 _ _ ⟨x,y,a,b,_,_,by rw[bY,zB1 hc,zB1 hd],by simp only[List.length_cons];omega,SlL.Ad ha,SlL.Ad hb,fun i hi=>la i hi,fun i hi=>lb i hi,(hg24.mod _ (.inl (zA1 _))).mod _ (.inl (Nat.le_succ _)),by rw[mb,mb];omega,?_,?_,?_⟩
     ·rw[az (by omega),aj rfl];rfl
     ·rw[aj rfl];rfl
     simp only[qB,aq,Nat.reduceLT,Nat.reduceEqDiff,Nat.reduceLeDiff,reduceIte,Nat.reduceAdd,Nat.reduceSub,Nat.reduceMul,Int.reduceLT,Int.reduceLE,Int.reduceBEq,aa,aE,ak,t2,t3,t9,t10,t11,t0,t1,B0,C0,and_self]
  clear t0 t1 t2 t3 t9 t10 t11 B0 C0 ha2 Y6 g10 g11 n2 l10 l11 Z4 A1 H2;rintro A1 H2 ⟨x,y,a',b',va',vb',hp,D0,ha',D5,la',lb',Z4,n2,g10,g11,t0,t1,t2,t3,t9,t10,t11,B0,C0⟩;have l10:H1.nx<H2.nx:=by omega
  have l11:H1.nx+1<H2.nx:=by omega
  have hj2:=hJg _ _ _ hj Z4;rw[hp,eK] at hr;have hP:=hpass s H2 x y _ hj2 T8 V3;have i':=R4;refine qG (qA t3 (qA t10 (qA t11 (qA g10 (qA g11 (qA l10 (qA l11 (qA B0 (qA ae (qA fM fP)))))))))) fun K hK=>?_;rw[oV R4];refine WE.con hP fun v3 H3 Z3 ⟨hv,Y1⟩=>?_;subst hv;refine qS B0 ?_;refine hK _ _ ?_;clear hK K;refine qE fun Kx Ky hx hy=>?_;have hfr3:Fr (fp s0) H H3:=(X5.gr Z4).then Z3 fun i hi=>(I6 i hi).symm;refine di (fun hc=>hx ?_) (fun hc=>hy ?_)
  ·clear hx hy Kx Ky;rw[hc,zB1 (by decide)] at hr;refine qW B0 ?_;refine k4 _ _ ⟨_,_,ai (.b false) (.inr rfl) (qd C0) (by simp only[aa,reduceIte]),hfr3,fun lg'=>⟨?_,fun t ht=>?_⟩⟩
   ·rw[←hr];rfl
   rw[←hr] at ht;cases ht
  clear hx hy Kx Ky;rw[Bool.not_eq_false] at hc;rw[hc,zB0 rfl] at hr;obtain ⟨s',V6,S6,hfs⟩:=Y1 hc;have M8:∀ {v:AC},lW v n0→∀ id∈(AV.one v).ids,¬fp s id:=fun hl id hi hf=>by
   have:=(hJl _ _ _ hj hf).1;have:=hl id hi;omega
  refine qW B0 ?_;refine ⟨a'.length+b'.length,D0,s',a',b',va',vb',q9,rfl,?_⟩;refine ⟨by rw[S6];exact hr,V6,by rw[S6];exact hB _ _ _ _ _ T8 D0,hfr3,fun i hi=>?_,(ha'.gr Z4).fr Z3 (M8 la'),(D5.gr Z4).fr Z3 (M8 lb'),la',lb',?_,?_,?_,?_,?_,?_,⟨l9,?_⟩,fun hf=>?_,?_,?_⟩
  ·rcases hfs i hi with h|h
   ·exact I6 i h
   right;have:=X5.nx;have:=Z4.nx;omega
  ·simp only[aa,Nat.reduceEqDiff,reduceIte,t0]
  ·simp only[aa,Nat.reduceEqDiff,reduceIte,t1]
  ·simp only[aa,Nat.reduceEqDiff,reduceIte,t2]
  ·simp only[aa,Nat.reduceEqDiff,reduceIte,t3]
  ·simp only[aa,Nat.reduceEqDiff,reduceIte,t9]
  ·rw[Z3.get _ (by have:=Z4.nx;omega) f9,Z4.get _ l9' zB2];exact g9
  ·have:=Z3.nx;have:=Z4.nx;omega
  ·rcases hfs _ hf with h|h
   ·exact f9 h
   have:=Z4.nx;omega
  ·simp only[aE,B0]
  simp only[ak,C0]
 refine ⟨E0,hJg _ _ _ hJ ((Fr.refl _).new _),T8,(Fr.refl _).new _,fun i h=>.inl h,ha.gr ((Fr.refl _).new _),hb.gr ((Fr.refl _).new _),la,lb,?_,?_,?_,?_,?_,?_,⟨zA1 _,zA6 _⟩,fun h=>?_,rfl,rfl⟩
 ·simp only[aa,Nat.reduceEqDiff,reduceIte,h0]
 ·simp only[aa,Nat.reduceEqDiff,reduceIte,h1]
 ·simp only[aa,Nat.reduceEqDiff,reduceIte,h2]
 ·simp only[aa,Nat.reduceEqDiff,reduceIte,h3]
 ·simp only[aa,Nat.reduceEqDiff,reduceIte]
 ·simp only[aG]
 have:=(hJl _ _ _ hJ h).2;omega
theorem xb {l:List Lot} (h:jH l=true) {i:Nat} (hi:i<l.length):okI l i (l.getD i ([],0))=true:=by
 unfold jH at h;rw[List.all_eq_true] at h;exact h i (List.mem_range.2 hi)
theorem yq {l:List Lot} (h:jH l=true):∀ n,n≤l.length→mv (l.drop (l.length - n))∧(∀ m,m<l.length - n→∀ y∈l.drop (l.length - n),aW (l.getD m ([],0)).1 y.1=true)
 | 0,_=>by
  rw[Nat.sub_zero,List.drop_length];exact ⟨trivial,fun m _ y hy=>by cases hy⟩
 | n+1,hn=>by
  obtain ⟨ih1,ih2⟩:=yq h n (by omega);have hi:l.length - (n+1)<l.length:=by omega
  have e:l.drop (l.length - (n+1))=l.getD (l.length - (n+1)) ([],0)::l.drop (l.length - n):=by
   rw[List.drop_eq_getElem_cons hi];have e1:l.length - (n+1)+1=l.length - n:=by omega
   have e2:l.getD (l.length - (n+1)) ([],0)=l[l.length - (n+1)]:=by rw[List.getD_eq_getElem?_getD,zB4 hi];rfl
   rw[e1,e2]
  have Y1:=xb h hi;unfold okI at Y1;simp only[Bool.and_eq_true,Bool.not_eq_true',beq_eq_false_iff_ne] at Y1;rw[e];refine ⟨⟨fun y hy=>ih2 _ (by omega) y hy,Y1.1.1.2,ih1⟩,fun m hm y hy=>?_⟩;have I5:∀ k,k+1<l.length→aW (l.getD k ([],0)).1 (l.getD (k+1) ([],0)).1=true:=fun k hk=>by
   have:=xb h hk;unfold okI at this;simp only[Bool.and_eq_true,Bool.or_eq_true,Bool.not_eq_true',decide_eq_false_iff_not] at this;have h2:=this.1.1.1.2;rcases h2 with h2|h2
   ·omega
   exact h2
  have D0:∀ d k,k+d+1<l.length→aW (l.getD k ([],0)).1 (l.getD (k+d+1) ([],0)).1=true:=by
   intro d;induction d with
   | zero=>intro k hk;exact I5 k hk
   | succ d ih=>intro k hk;exact fu (ih k (by omega)) (I5 (k+d+1) (by omega))
  rcases List.mem_cons.1 hy with rfl|hy
  ·have:=D0 (l.length - (n+1) - m - 1) m (by omega);have e3:m+(l.length - (n+1) - m - 1)+1=l.length - (n+1):=by omega
   rw[e3] at this;exact this
  exact ih2 m (by omega) y hy
theorem sc {l:List Lot} (h:jH l=true):mv l:=by
 have:=(yq h l.length (zA1 _)).1;rwa [Nat.sub_self,List.drop_zero] at this
theorem je {l:List Lot} (h:bG l=0):jH l=true∧l.length≤64:=by
 unfold bG at h;split at h
 ·cases h
 split at h
 ·rename_i h1 h2;exact ⟨h2,by omega⟩
 cases h
theorem Nu {a b:List Lot} (ha:bG a=0) (hb:bG b=0):gH a b=0:=by rw[gH,zB0 ha,hb]
def Hi (sign u v:Int):Int:=IntKind.i64.wrap (u+IntKind.i64.wrap (sign*v))
def fA (sign:Int) (x y:Lot):Int:=Hi sign x.2 y.2
def okC (sign:Int) (_:List Lot) (x y:Lot):Bool:=!(decide (1099511627776<fA sign x y)||decide (fA sign x y < -1099511627776))
def mh (sign:Int) (out:List Lot) (x y:Lot):List Lot:=if fA sign x y=0 then out else out++[(eC x y,fA sign x y)]
def kS (sign:Int) (a b:List Lot):List Lot×Int:=
 if gH a b=0 then (eK (okC sign) (mh sign) [] (bY a b)).elim ([],6) fun t=>if 64<t.length then ([],3) else (t,0) else ([],gH a b)
def okP (sign u v:Int):Prop:=-1099511627776≤Hi sign u v∧Hi sign u v≤1099511627776
theorem Un {sign:Int} {out:List Lot} {x y:Lot}:okC sign out x y=true↔okP sign x.2 y.2:=by
 unfold okC okP fA;rw[Bool.not_eq_true',Bool.or_eq_false_iff,decide_eq_false_iff_not,decide_eq_false_iff_not];omega
def kO (p:Lot×Lot):List UInt8:=eC p.1 p.2
def EB:List (Lot×Lot)→List UInt8→Int×Int
 | [],_=>(0,0)
 | p::l,s=>if kO p=s then (p.1.2,p.2.2) else EB l s
def RM:List (Lot×Lot)→Prop
 | []=>True
 | p::l=>(∀ q∈l,aW (kO p) (kO q)=true)∧RM l
theorem fY (p:Lot×Lot) (l:List (Lot×Lot)) {s:List UInt8} (h:kO p=s):EB (p::l) s=(p.1.2,p.2.2):=zB0 h
theorem fj {p:Lot×Lot} {l:List (Lot×Lot)} {s:List UInt8} (h:kO p≠s):EB (p::l) s=EB l s:=zB1 h
theorem ta (x:Lot):kO (x,ma)=x.1:=by
 unfold kO eC;by_cases h:x.1=[]
 ·rw[zB0 h,h];rfl
 rw[zB1 h]
theorem tL (y:Lot):kO (ma,y)=y.1:=(zB0 rfl:(if ma.1=[] then y.1 else ma.1)=y.1)
theorem Kf {x y:Lot} (e:x.1=y.1):kO (x,y)=x.1:=by
 unfold kO eC;by_cases h:x.1=[]
 ·rw[zB0 h,←e]
 rw[zB1 h]
theorem yh (a b:List Lot):mv a→mv b→(∀ N:List UInt8→Prop,(∀ x∈a,N x.1)→(∀ y∈b,N y.1)→∀ p∈bY a b,N (kO p))∧RM (bY a b)∧∀ s,EB (bY a b) s=(amt a s,amt b s):=by
 induction a,b using bY.induct with
 | case1=>intro _ _;rw[bY];exact ⟨fun _ _ _ p hp=>(by cases hp),trivial,fun _=>rfl⟩
 | case2 x a ih=>
  intro ha hb;rw[bY];obtain ⟨h1,h2,h3⟩:=ih ha.2.2 hb;refine ⟨fun N hx hy=>List.forall_mem_cons.2 ⟨by rw[ta];exact hx x (List.mem_cons_self ..),h1 N (fun z hz=>hx z (List.mem_cons_of_mem _ hz)) hy⟩,⟨?_,h2⟩,fun s=>?_⟩
  ·rw[ta];exact h1 (fun k=>aW x.1 k=true) ha.1 fun y hy=>by cases hy
  by_cases e:x.1=s
  ·rw[fY _ _ (by rw[ta];exact e)];subst e;rw[cW];rfl
  rw[fj (by rw[ta];exact e),h3,dU e]
 | case3 y b ih=>
  intro ha hb;rw[bY];obtain ⟨h1,h2,h3⟩:=ih ha hb.2.2;refine ⟨fun N hx hy=>List.forall_mem_cons.2 ⟨by rw[tL];exact hy y (List.mem_cons_self ..),h1 N hx (fun z hz=>hy z (List.mem_cons_of_mem _ hz))⟩,⟨?_,h2⟩,fun s=>?_⟩
  ·rw[tL];exact h1 (fun k=>aW y.1 k=true) (fun y hy=>by cases hy) hb.1
  by_cases e:y.1=s
  ·rw[fY _ _ (by rw[tL];exact e)];subst e;rw[cW];rfl
  rw[fj (by rw[tL];exact e),h3,dU e]
 | case4 x a y b Z6 ih=>
  intro ha hb;rw[bY,zB0 Z6];obtain ⟨h1,h2,h3⟩:=ih ha.2.2 hb;refine ⟨fun N hx hy=>List.forall_mem_cons.2 ⟨by rw[ta];exact hx x (List.mem_cons_self ..),h1 N (fun z hz=>hx z (List.mem_cons_of_mem _ hz)) hy⟩,⟨?_,h2⟩,fun s=>?_⟩
  ·rw[ta];exact h1 (fun k=>aW x.1 k=true) ha.1 (gz Z6 hb)
  by_cases e:x.1=s
  ·rw[fY _ _ (by rw[ta];exact e)];subst e;rw[cW,gR (gz Z6 hb)];rfl
  rw[fj (by rw[ta];exact e),h3,dU (x:=x) e]
 | case5 x a y b Z6 z_ ih=>
  intro ha hb;rw[bY,zB1 Z6,zB0 z_];obtain ⟨h1,h2,h3⟩:=ih ha hb.2.2;refine ⟨fun N hx hy=>List.forall_mem_cons.2 ⟨by rw[tL];exact hy y (List.mem_cons_self ..),h1 N hx (fun z hz=>hy z (List.mem_cons_of_mem _ hz))⟩,⟨?_,h2⟩,fun s=>?_⟩
  ·rw[tL];exact h1 (fun k=>aW y.1 k=true) (gz z_ ha) hb.1
  by_cases e:y.1=s
  ·rw[fY _ _ (by rw[tL];exact e)];subst e;rw[cW,gR (gz z_ ha)];rfl
  rw[fj (by rw[tL];exact e),h3,dU (x:=y) e]
 | case6 x a y b Z6 z_ ih=>
  intro ha hb;rw[bY,zB1 Z6,zB1 z_];obtain ⟨h1,h2,h3⟩:=ih ha.2.2 hb.2.2;have e0:x.1=y.1:=iQ (by simpa using Z6) (by simpa using z_);refine ⟨fun N hx hy=>List.forall_mem_cons.2 ⟨by rw[Kf e0];exact hx x (List.mem_cons_self ..),h1 N (fun z hz=>hx z (List.mem_cons_of_mem _ hz)) (fun z hz=>hy z (List.mem_cons_of_mem _ hz))⟩,⟨?_,h2⟩,fun s=>?_⟩
  ·rw[Kf e0];exact h1 (fun k=>aW x.1 k=true) ha.1 (by rw[e0];exact hb.1)
  by_cases e:x.1=s
  ·rw[fY _ _ (by rw[Kf e0];exact e)];subst e;rw[cW,e0,cW]
  rw[fj (by rw[Kf e0];exact e),h3,dU (x:=x) e,dU (x:=y) (by rw[←e0];exact e)]
theorem Ie:∀ {l:List (Lot×Lot)},RM l→∀ p∈l,EB l (kO p)=(p.1.2,p.2.2)
 | q::l,h,p,hp=>by
  rcases List.mem_cons.1 hp with rfl|hp
  ·exact fY _ _ rfl
  rw[fj (FZ (h.1 p hp)),Ie h.2 p hp]
def qo (sign:Int):List (Lot×Lot)→List Lot
 | []=>[]
 | p::l=>if fA sign p.1 p.2=0 then qo sign l else (kO p,fA sign p.1 p.2)::qo sign l
theorem mH {sign:Int}:∀ {l:List (Lot×Lot)},∀ w∈qo sign l,∃ p∈l,w=(kO p,fA sign p.1 p.2)∧w.2≠0
 | p::l,w,hw=>by
  rw[qo] at hw;by_cases e:fA sign p.1 p.2=0
  ·rw[zB0 e] at hw;obtain ⟨q,hq,h⟩:=mH w hw;exact ⟨q,List.mem_cons_of_mem _ hq,h⟩
  rw[zB1 e] at hw;rcases List.mem_cons.1 hw with rfl|hw
  ·exact ⟨p,List.mem_cons_self ..,rfl,e⟩
  obtain ⟨q,hq,h⟩:=mH w hw;exact ⟨q,List.mem_cons_of_mem _ hq,h⟩
theorem wR {sign:Int}:∀ {l:List (Lot×Lot)},RM l→mv (qo sign l)
 | [],_=>trivial
 | p::l,h=>by
  rw[qo];by_cases e:fA sign p.1 p.2=0
  ·rw[zB0 e];exact wR h.2
  rw[zB1 e];refine ⟨fun w hw=>?_,e,wR h.2⟩;obtain ⟨q,hq,rfl,_⟩:=mH w hw;exact h.1 q hq
theorem Xr (sign:Int):Hi sign 0 0=0:=by
 unfold Hi;rw[Int.mul_zero];rfl
theorem Fw {sign:Int} (s:List UInt8):∀ {l:List (Lot×Lot)},RM l→amt (qo sign l) s=Hi sign (EB l s).1 (EB l s).2
 | [],_=>(Xr sign).symm
 | p::l,h=>by
  rw[qo];by_cases k:kO p=s
  ·rw[fY _ _ k];by_cases e:fA sign p.1 p.2=0
   ·rw[zB0 e,gR fun w hw=>?_]
    ·exact e.symm
    obtain ⟨q,hq,rfl,_⟩:=mH w hw;rw[←k];exact h.1 q hq
   rw[zB1 e];subst k;exact cW (kO p,fA sign p.1 p.2) _
  rw[fj k,←Fw s h.2];by_cases e:fA sign p.1 p.2=0
  ·rw[zB0 e]
  rw[zB1 e];exact dU (x:=(kO p,fA sign p.1 p.2)) k
theorem Rz {sign:Int}:∀ {l:List (Lot×Lot)} {out:List Lot},(∀ p∈l,okP sign p.1.2 p.2.2)→eK (okC sign) (mh sign) out l=some (out++qo sign l)
 | [],out,_=>by rw[eK,qo,List.append_nil]
 | (x,y)::l,out,h=>by
  rw[eK,zB0 (Un.2 (h (x,y) (List.mem_cons_self ..))),Rz fun p hp=>h p (List.mem_cons_of_mem _ hp),qo];unfold mh;by_cases e:fA sign x y=0
  ·rw[zB0 e,zB0 e]
  rw[zB1 e,zB1 e,List.append_assoc];rfl
theorem IN {l:List Lot} (h:jH l=true) {x:Lot} (hx:x∈l):nmB x.1=true∧-1099511627776≤x.2∧x.2≤1099511627776:=by
 obtain ⟨i,hi,rfl⟩:=List.getElem_of_mem hx;have:=xb h hi;rw[List.getD_eq_getElem?_getD,zB4 hi] at this;unfold okI at this;simp only[Option.getD_some,Bool.and_eq_true,Bool.not_eq_true',decide_eq_false_iff_not] at this;exact ⟨this.1.1.1.1,by omega,by omega⟩
theorem SA:∀ {l:List Lot},mv l→l.Pairwise fun x y=>aW x.1 y.1=true
 | [],_=>.nil
 | _::_,h=>.cons h.1 (SA h.2.2)
theorem Uk:∀ {l:List Lot},mv l→∀ x∈l,x.2≠0
 | y::l,h,x,hx=>by
  rcases List.mem_cons.1 hx with rfl|hx
  ·exact h.2.1
  exact Uk h.2.2 x hx
theorem xW {l:List Lot} (h:mv l) (hm:∀ x∈l,nmB x.1=true∧-1099511627776≤x.2∧x.2≤1099511627776):jH l=true:=by
 refine yC fun j hj=>?_;rw[List.getD_eq_getElem?_getD,zB4 hj];unfold okI;have hx:=List.getElem_mem hj;obtain ⟨h1,h2,h3⟩:=hm _ hx;have h4:=Uk h _ hx;simp only[Option.getD_some,Bool.and_eq_true,Bool.not_eq_true',decide_eq_false_iff_not,Bool.or_eq_true,beq_eq_false_iff_ne];refine ⟨⟨⟨⟨h1,?_⟩,h4⟩,by omega⟩,by omega⟩;by_cases h0:0<(j:Int)
 ·right;have V6:j - 1<l.length:=by omega
  rw[List.getD_eq_getElem?_getD,zB4 V6];exact List.pairwise_iff_getElem.1 (SA h) (j - 1) j V6 hj (by omega)
 left;exact h0
theorem xK:∀ {l:List Lot},(∀ x∈l,-1099511627776≤x.2∧x.2≤1099511627776)→∀ s,-1099511627776≤amt l s∧amt l s≤1099511627776
 | [],_,_=>⟨(by omega:(-1099511627776:Int)≤0),(by omega:(0:Int)≤1099511627776)⟩
 | x::l,h,s=>by
  by_cases e:x.1=s
  ·subst e;rw[cW];exact h x (List.mem_cons_self ..)
  rw[dU e];exact xK (fun y hy=>h y (List.mem_cons_of_mem _ hy)) s
theorem Lj {sign u v:Int} (hs:sign=1∨sign=-1) (hu:-1099511627776≤u∧u≤1099511627776) (hv:-1099511627776≤v∧v≤1099511627776):Hi sign u v=u+sign*v:=by
 unfold Hi;rcases hs with rfl|rfl
 ·rw[au (n:=1*v) (by omega) (by omega),au (by omega) (by omega)]
 rw[au (n:=-1*v) (by omega) (by omega),au (by omega) (by omega)]
theorem kP {l:List Lot} (h:bG l=0):∀ s,-1099511627776≤amt l s∧amt l s≤1099511627776:=xK fun _ hx=>(IN (je h).1 hx).2
theorem Ye {l:List Lot} (h1:jH l=true) (h2:l.length≤64):bG l=0:=by
 unfold bG;rw[zB1 (by omega),zB0 h1]
theorem Uc {sign:Int} {a b:List Lot} (hs:sign=1∨sign=-1) (ha:bG a=0) (hb:bG b=0) (h:∀ p∈bY a b,okP sign p.1.2 p.2.2):
  jH (qo sign (bY a b))=true∧∀ s,amt (qo sign (bY a b)) s=amt a s+sign*amt b s:=by
 obtain ⟨h1,h2,h3⟩:=yh a b (sc (je ha).1) (sc (je hb).1);refine ⟨xW (wR h2) fun w hw=>?_,fun s=>?_⟩
 ·obtain ⟨p,hp,rfl,_⟩:=mH w hw;exact ⟨h1 (fun k=>nmB k=true) (fun x hx=>(IN (je ha).1 hx).1) (fun x hx=>(IN (je hb).1 hx).1) p hp,h p hp⟩
 rw[Fw s h2,h3];exact Lj hs (kP ha s) (kP hb s)
theorem Lz {sign:Int} {a b t:List Lot} (hs:sign=1∨sign=-1) (ha:bG a=0) (hb:bG b=0) (ht:bG t=0) (h:∀ s,amt t s=amt a s+sign*amt b s):kS sign a b=(t,0):=by
 obtain ⟨h1,h2,h3⟩:=yh a b (sc (je ha).1) (sc (je hb).1);have Y1:∀ p∈bY a b,okP sign p.1.2 p.2.2:=fun p hp=>by
  have e:=Ie h2 p hp;rw[h3] at e;have e1:=congrArg Prod.fst e;have e2:=congrArg Prod.snd e;have:=kP ht (kO p);rw[h] at this;unfold okP;rw[←show amt a (kO p)=p.1.2 from e1,←show amt b (kO p)=p.2.2 from e2,Lj hs (kP ha _) (kP hb _)];exact this
 obtain ⟨k1,k2⟩:=Uc hs ha hb Y1;have e:qo sign (bY a b)=t:=qk (sc k1) (sc (je ht).1) fun s=>by rw[k2,h]
 unfold kS;rw[zB0 (Nu ha hb),Rz Y1,List.nil_append,e];simp only[Option.elim_some];rw[zB1 (by have:=(je ht).2;omega)]
theorem sub_self {a:List Lot} (h:bG a=0):kS (-1) a a=([],0):=
 Lz (.inr rfl) h h (by decide +kernel) fun s=>by show (0:Int)=_;omega
structure lr (n0 is io:Nat) (sign:Int) (s:List Lot×Option Nat) (H:Hp):Prop where
 sg:H.get is=some (.arr [.i .i64 sign] 3 0 0)
 ls:n0≤is∧is<H.nx
 lo:n0≤io∧io<H.nx
 ne:is≠io
 out:∃ v,H.get io=some (.arr [v] 43 0 0)∧eU H v 92 2 s.1.length (s.1.flatMap dh) s.2
 row:∀ r,s.2=some r→n0≤r∧r≠is∧r≠io
theorem lr.XH {n0 is io:Nat} {sign:Int} {s:List Lot×Option Nat} {H:Hp} (h:lr n0 is io sign s H) {r:Nat} (hr:s.2=some r):r<H.nx:=by
 obtain ⟨v,_,ho⟩:=h.out;rcases ho with ⟨_,_,_,h4⟩|⟨id,lo,gen,h1,_,_,_,_,h6⟩
 ·rw[h4] at hr;cases hr
 rw[h1] at hr;cases hr;exact h6
theorem lr.gr {n0 is io:Nat} {sign:Int} {s:List Lot×Option Nat} {H H':Hp} (h:lr n0 is io sign s H) (hg:Gr H H'):lr n0 is io sign s H' where
 sg:=by rw[hg.get _ h.ls.2 zB2];exact h.sg
 ls:=⟨h.ls.1,zA0 h.ls.2 hg.nx⟩
 lo:=⟨h.lo.1,zA0 h.lo.2 hg.nx⟩
 ne:=h.ne
 out:=by
  obtain ⟨v,h1,h2⟩:=h.out;exact ⟨v,by rw[hg.get _ h.lo.2 zB2];exact h1,h2.fr hg fun _ _ h=>h⟩
 row:=h.row
theorem lr.same {n0 is io:Nat} {sign:Int} {s:List Lot×Option Nat} {H H':Hp} (ht:H'.t=H.t) (hn:H'.nx=H.nx) (h:lr n0 is io sign s H):lr n0 is io sign s H':=by
 obtain ⟨t,nx,l⟩:=H;obtain ⟨t',nx',l'⟩:=H';cases ht;cases hn
 exact ⟨h.sg,h.ls,h.lo,h.ne,h.out,h.row⟩
theorem Nz (n0 is io:Nat) (sign:Int) (s:List Lot×Option Nat) (H:Hp) (x y:Lot) (hj:lr n0 is io sign s H) (hlen:s.1.length+1≤1000000):
  Con E2 104 [.agg (dh x),.agg (dh y),.one (.o (.ptr is 0 0 1)),.one (.o (.ptr io 0 0 1))] H (fun i=>i=io∨s.2=some i) fun v H'=>
   v=.one (.b (okC sign s.1 x y))∧(okC sign s.1 x y=true→∃ s',lr n0 is io sign s' H'∧s'.1=mh sign s.1 x y∧∀ i,(i=io∨s'.2=some i)→(i=io∨s.2=some i)∨H.nx≤i):=by
 refine Con.of rfl fun lg=>?_;have hj:lr n0 is io sign s ⟨H.t,H.nx,lg⟩:=lr.same (H:=H) (H':=⟨H.t,H.nx,lg⟩) rfl rfl hj;have W0:H.nx=(⟨H.t,H.nx,lg⟩:Hp).nx:=rfl;rw[W0];clear W0;generalize (⟨H.t,H.nx,lg⟩:Hp)=H at hj ⊢;have F_:=hj;obtain ⟨hsg,⟨hls,S_⟩,⟨B2,hlo'⟩,Y0,⟨v,V7,I1⟩,B1⟩:=hj;refine C1.body (E:=E2) (nt:=31) (res:=[.tmp 6]) Tryz.func104 rfl rfl rfl rfl rfl fun tm A0=>?_;have h0:=A0 0 _ rfl;have h1:=A0 1 _ rfl;have h2:=A0 2 _ rfl;have h3:=A0 3 _ rfl;clear A0;repeat' first|refine R1.ret ?_|refine R1.exit ?_|refine R1.skip ?_|refine R1.mJ ?_|refine R1.iU ?_|refine R1.aA ?_|refine R1.bg ?_|refine R1.fD ?_|((first|refine R1.xA fun K hK=>?_|refine R1.oy fun K hK=>?_|refine R1.Br (by kernel_rfl) fun K hK=>?_|refine R1.xG (by kernel_rfl) fun K hK=>?_);simp only[qB,aq,Nat.reduceLT,Nat.reduceEqDiff,Nat.reduceLeDiff,reduceIte,Nat.reduceAdd,Nat.reduceSub,Nat.reduceMul,Int.reduceLT,Int.reduceLE,Int.reduceBEq,ae,h0,h1,h2,h3,fP,fG,qx,aQ,cD,hsg,S_,(fun k=>@Mn _ _ k S_),Nat.lt_succ_of_lt S_];refine hK _ _ ?_;clear hK K)
 have hN:fA sign x y=IntKind.i64.wrap (x.2+IntKind.i64.wrap (sign*y.2)):=rfl;rw[←hN];refine qG ae fun K hK=>?_;repeat' (refine ub (fun hc=>?_) (fun hc=>?_) <;> (try simp only[Bool.not_eq_true,Bool.not_eq_false,Classical.not_not] at hc) <;> simp only[hc,qB,aq,Nat.reduceLT,Nat.reduceEqDiff,Nat.reduceLeDiff,reduceIte,Nat.reduceAdd,Nat.reduceSub,Nat.reduceMul,Int.reduceLT,Int.reduceLE,Int.reduceBEq])
 rotate_left
 ·refine hK _ _ ?_;clear hK K;refine qY ?_;refine qV ?_;refine ⟨_,_,ai (.b false) (.inr rfl) rfl qp,((Fr.refl _).new _).new _,fun _=>⟨?_,fun h=>?_⟩⟩
  ·simp only[okC,hc,decide_true,Bool.true_or,Bool.not_true]
  simp only[okC,hc,decide_true,Bool.true_or,Bool.not_true,Bool.false_eq_true] at h
 refine hK _ _ ?_;clear hK K;refine qE fun Kx Ky hx hy=>?_;refine di (fun hd=>hx ?_) (fun hd=>hy ?_)
 ·clear hx hy Kx Ky;refine qV ?_;refine ⟨_,_,ai (.b false) (.inr rfl) rfl qp,((Fr.refl _).new _).new _,fun _=>⟨?_,fun h=>?_⟩⟩
  ·simp only[okC,hd,decide_true,Bool.or_true,Bool.not_true]
  simp only[okC,hd,decide_true,Bool.or_true,Bool.not_true,Bool.false_eq_true] at h
 clear hx hy Kx Ky;have Y1:okC sign s.1 x y=true:=by simp only[okC,hc,hd,decide_false,Bool.or_false,Bool.not_false]
 refine qV ?_;refine qE fun Kx Ky hx hy=>?_;refine di (fun he=>hx ?_) (fun he=>hy ?_)
 ·clear hx hy Kx Ky;refine R1.gen (fun A H2=>Gr H H2∧H.nx+1<H2.nx∧H2.get H.nx=some (.arr (dh x) 92 0 0)∧H2.get (H.nx+1)=some (.arr (dh y) 92 0 0)∧slot A.tm 3=.one (.o (.ptr io 0 0 1))∧slot A.tm 4=.one (.o (.ptr H.nx 0 0 2))∧slot A.tm 5=.one (.o (.ptr (H.nx+1) 0 0 2))∧slot A.tm 7=.one (.i .i64 (fA sign x y))∧A.nt=31∧A.dfr=[])
   ⟨((Fr.refl _).new _).new _,?_⟩ ?_
  ·exact qZ (qA h3 fP)
  rintro A H2 ⟨g2,n2,gx,gy,t3,t4,t5,t7,B0,C0⟩;have hj2:=F_.gr g2;obtain ⟨v2,hio2,hown2⟩:=hj2.out;have l4:H.nx<H2.nx:=by omega
  have lio:io<H2.nx:=by omega
  refine qH (qA ae (qA t3 (qA t4 (qA t5 (qA t7 (qA B0 (qA gx (qA gy (qA hio2 (qA l4 (qA n2 (qA lio (qA rD (qA fM (qA Sl fP))))))))))))))) fun K hK=>?_;refine WE.Pm (QZ _ x y) fun v3 H3 Z3 hv=>?_;subst hv;obtain ⟨z,hz,L1⟩:=Tx;have lio3:io<H3.nx:=zA0 lio Z3.nx;have hio3:H3.get io=some (.arr [v2] 43 0 0):=by rw[Z3.get _ lio zB2];exact hio2
  have g3:Gr H H3:=g2.gr Z3;have g4:Gr H (H3.new (.arr [.o (.str (eC x y)),.i .i64 (fA sign x y)] 92 0 0)):=g3.new _;have hown4:eU (H3.new (.arr [.o (.str (eC x y)),.i .i64 (fA sign x y)] 92 0 0)) v2 92 2 s.1.length (s.1.flatMap dh) s.2:=(hown2.fr Z3 fun _ _ h=>h).fr ((Fr.refl _:Gr _ _).new _) fun _ _ h=>h;have hlt4:=hown4.lt;obtain ⟨v5,H5,r5,Q1,how5,hf5,hr5⟩:=oT (P:=Tryz.prog) (t:=43) (H:=H3.new (.arr [.o (.str (eC x y)),.i .i64 (fA sign x y)] 92 0 0)) (x:=.one (.o (.sl H3.nx 0 0 1 2))) (k:=1) (c:=[.o (.str (eC x y)),.i .i64 (fA sign x y)]) dH QX hz L1 (by decide) hown4
   (by rw[kQ (cells:=[.o (.str (eC x y)),.i .i64 (fA sign x y)]) (by rw[aG rfl];rfl) (by simp)];rfl) (by decide) rfl (by omega) (by omega)
  have hio4:(H3.new (.arr [.o (.str (eC x y)),.i .i64 (fA sign x y)] 92 0 0)).get io=some (.arr [v2] 43 0 0):=by rw[aZ lio3];exact hio3
  have hio5:H5.get io=some (.arr [v2] 43 0 0):=by rw[hf5.get _ (by rw[gN];omega) fun h=>(hj2.row io h).2.2 rfl];exact hio4
  have lio5:io<H5.nx:=zA0 (by rw[gN];omega) hf5.nx;simp only[qB,aq,Nat.reduceLT,Nat.reduceEqDiff,Nat.reduceLeDiff,reduceIte,Nat.reduceAdd,Nat.reduceSub,Nat.reduceMul,Int.reduceLT,Int.reduceLE,Int.reduceBEq,ae,B0,t7,oX,IM,vl,vw,dH,rj,@Mn,lio3,hlt4,Q1,CZ,hio5,lio5,t3];refine ⟨hlt4,?_⟩;refine hK _ _ ?_;clear hK K;refine qW B0 ?_;refine qW B0 ?_;have hnz:fA sign x y≠0:=by simpa using he
  have f5:Fr (fun i=>i=io∨s.2=some i) H H5:=(g4.none).then hf5 fun i hi=>.inr (.inr hi);have hr5':n0≤r5∧r5≠is∧r5≠io:=by
   rcases hr5 with h|⟨_,h⟩
   ·exact F_.row _ h
   rw[gN] at h;have:=g3.nx;refine ⟨?_,?_,?_⟩ <;> omega
  refine ⟨_,_,ai (.b true) (.inr rfl) (qd C0) qp,f5.mod _ (.inr (.inl rfl)),fun lg'=>⟨by rw[Y1],fun _=>⟨(s.1++[(eC x y,fA sign x y)],some r5),?_,?_,?_⟩⟩⟩
  ·refine lr.same (H:=H5.mod io (.arr [v5] 43 0 0)) rfl rfl ⟨?_,⟨hls,?_⟩,⟨B2,?_⟩,Y0,⟨v5,aj rfl,?_⟩,fun r hr=>?_⟩
   ·rw[az Y0,f5.get _ S_ fun h=>h.elim Y0 fun h=>(B1 _ h).2.1 rfl];exact hsg
   ·rw[mb];have:=f5.nx;omega
   ·rw[mb];exact lio5
   ·have e1:(s.1++[(eC x y,fA sign x y)]).length=s.1.length+1:=by simp
    have e2:(s.1++[(eC x y,fA sign x y)]).flatMap dh=s.1.flatMap dh++[.o (.str (eC x y)),.i .i64 (fA sign x y)]:=by
     rw[List.flatMap_append];rfl
    rw[e1,e2];exact how5.fr (X:=fun i=>i=io) ((Fr.refl _).mod _ (.inr rfl)) fun i hi=>by
     cases hi
     exact hr5'.2.2
   cases hr
   exact hr5'
  ·rw[mh,zB1 hnz]
  rintro i (h|h)
  ·exact .inl (.inl h)
  cases h
  rcases hr5 with h|⟨_,h⟩
  ·exact .inl (.inr h)
  right;rw[gN] at h;have:=g3.nx;omega
 clear hx hy Kx Ky;refine qV ?_;refine ⟨_,_,ai (.b true) (.inr rfl) rfl qp,((Fr.refl _).new _).new _,fun _=>⟨by rw[Y1],fun _=>⟨s,lr.same (H:=(H.new (.arr (dh x) 92 0 0)).new (.arr (dh y) 92 0 0)) rfl rfl (F_.gr (((Fr.refl _).new _).new _)),?_,fun i hi=>.inl hi⟩⟩⟩;have:fA sign x y=0:=by simpa using he
 rw[mh,zB0 this]
theorem OO {sign:Int} (t:List Lot) (x y:Lot):(mh sign t x y).length≤t.length+1:=by
 unfold mh;by_cases h:fA sign x y=0
 ·rw[zB0 h];omega
 rw[zB1 h,List.length_append];exact zA1 _
theorem JX {a b:List Lot} (h:gH a b=0):a.length+b.length≤128:=by
 have ha:bG a=0:=by
  unfold gH at h;split at h
  ·assumption
  exact h
 have hb:bG b=0:=by rwa [gH,zB0 ha] at h
 have:=(je ha).2;have:=(je hb).2;omega
theorem JQ (n0 is io:Nat) (sign:Int) (H:Hp) (Q5:n0≤H.nx) (hj:lr n0 is io sign ([],none) H) (a b:List Lot) (hl:a.length+b.length≤128) (va vb:AC) (ha:SlL H va a) (hb:SlL H vb b) (la:lW va n0) (lb:lW vb n0):
  Con E2 97 [.one va,.one vb,.one (.o (.clo 98 [])),.one (.o (.clo 104 [(is,0,0,1),(io,0,0,1)]))] H (fun i=>i=io∨(none:Option Nat)=some i) fun v H'=>
   v=.one (.b (eK (okC sign) (mh sign) [] (bY a b)).isSome)∧∀ t,eK (okC sign) (mh sign) [] (bY a b)=some t→∃ s',lr n0 is io sign s' H'∧s'.1=t:=
 Ox (σ:=List Lot×Option Nat) (τ:=List Lot) n0 (fun s H=>lr n0 is io sign s H) (fun s i=>i=io∨s.2=some i) Prod.fst (okC sign) (mh sign) (fun t n=>t.length+n≤128) (fun t n m x y h hm=>by have:=OO (sign:=sign) t x y;omega) 104 [(is,0,0,1),(io,0,0,1)] TY
  (fun s H H' h1 h2 h=>lr.same h1 h2 h) (fun s H H' h g=>h.gr g) (fun s H i h hi=>by
   rcases hi with rfl|hi
   ·exact h.lo
   exact ⟨(h.row i hi).1,h.XH hi⟩)
  (fun s H x y n h hb hn=>Nz n0 is io sign s H x y h (by omega))
  H Q5 ([],none) hj a b (by simpa using hl) va vb ha hb la lb
theorem Ub (sign:Int) (H:Hp) (a b:List Lot) (va vb:AC) (ha:SlL H va a) (hb:SlL H vb b):
  Con E2 54 [.one va,.one vb,.one (.i .i64 sign)] H (fun _=>False) fun v H'=>∃ vs,v=.tup [(false,[vs]),(false,[.i .i64 (kS sign a b).2])]∧SlL H' vs (kS sign a b).1:=by
 refine Con.of rfl fun lg=>?_;have ha:SlL ⟨H.t,H.nx,lg⟩ va a:=ha;have hb:SlL ⟨H.t,H.nx,lg⟩ vb b:=hb;generalize (⟨H.t,H.nx,lg⟩:Hp)=H at ha hb ⊢;refine C1.body (E:=E2) (nt:=27) (res:=[.tmp 6,.tmp 7]) Tryz.func54 rfl rfl rfl rfl rfl fun tm A0=>?_;have h0:=A0 0 _ rfl;have h1:=A0 1 _ rfl;have h2:=A0 2 _ rfl;clear A0;refine qW (qA ae (qA h0 (qA h1 h2))) ?_;have gb:Gr H (H.new (.arr [.i .i64 sign] 3 0 0)):=(Fr.refl _).new _;refine qG (qA ae (qA h0 (qA h1 (qA h2 DT)))) fun K hK=>?_;refine WE.con (BN _ a b va vb (ha.gr gb) (hb.gr gb)) fun v2 H2 hf hv=>?_;subst hv;refine qT ?_;refine hK _ _ ?_;clear hK K;have gs2:H2.get H.nx=some (.arr [.i .i64 sign] 3 0 0):=by rw[hf.get _ (by rw[gN];omega) zB2,aG rfl]
 have ln2:H.nx<H2.nx:=zA0 (by rw[gN];omega) hf.nx;have g2:Gr H H2:=gb.gr hf;refine qW ae ?_;refine qE fun Kx Ky hx hy=>?_;refine di (fun hc=>hx ?_) (fun hc=>hy ?_)
 ·clear hx hy Kx Ky;refine qW ae ?_;refine ⟨_,_,aM (.o .nilS) (.i .i64 (gH a b)) (.inr rfl) rfl qp qp,g2,fun _=>?_⟩;have:gH a b≠0:=by simpa using hc
  rw[kS,zB1 this];exact ⟨_,rfl,SlL.nil⟩
 clear hx hy Kx Ky;have h00:gH a b=0:=by simpa using hc
 refine qW (qA ae BW) ?_;have g3:Gr H (H2.new (.arr [.o .nilS] 43 0 0)):=g2.new _;have hj:lr H.nx H.nx H2.nx sign ([],none) (H2.new (.arr [.o .nilS] 43 0 0)):=
  ⟨by rw[aZ ln2];exact gs2,⟨zA1 _,by rw[gN];omega⟩,⟨by omega,by rw[gN];omega⟩,by omega,⟨.o .nilS,aG rfl,.inl ⟨rfl,rfl,rfl,rfl⟩⟩,fun r hr=>by cases hr⟩
 refine qG (qA ae (qA h0 (qA h1 QI))) fun K hK=>?_;refine WE.con (JQ H.nx H.nx H2.nx sign _ (by rw[gN];omega) hj a b (JX h00) va vb (ha.gr g3) (hb.gr g3) ha.lt hb.lt) fun v3 H3 Z3 ⟨hv,q8⟩=>?_;subst hv;refine qT ?_;refine hK _ _ ?_;clear hK K;have g4:Gr H H3:=g3.then Z3 fun i hi=>hi.elim (fun h=>.inl (by omega)) fun h=>(by cases h);cases hr:eK (okC sign) (mh sign) [] (bY a b) with
 | none=>
  repeat' first|refine R1.ret ?_|refine R1.exit ?_|refine R1.skip ?_|refine R1.mJ ?_|refine R1.iU ?_|refine R1.aA ?_|refine R1.bg ?_|refine R1.fD ?_|((first|refine R1.xA fun K hK=>?_|refine R1.oy fun K hK=>?_|refine R1.Br (by kernel_rfl) fun K hK=>?_|refine R1.xG (by kernel_rfl) fun K hK=>?_);simp only[qB,aq,Nat.reduceLT,Nat.reduceEqDiff,Nat.reduceLeDiff,reduceIte,Nat.reduceAdd,Nat.reduceSub,Nat.reduceMul,Int.reduceLT,Int.reduceLE,Int.reduceBEq,ae,@Option.isSome_none];refine hK _ _ ?_;clear hK K)
  refine qY ?_;refine qV ?_;refine ⟨_,_,aM (.o .nilS) (.i .i64 6) (.inr rfl) rfl qp qp,g4,fun _=>?_⟩;rw[kS,zB0 h00,hr];exact ⟨_,rfl,SlL.nil⟩
 | some t=>
  obtain ⟨s',V6,a7⟩:=q8 t hr;obtain ⟨v,V7,I1⟩:=V6.out;have hsl:SlL H3 v t:=by rw[←a7];exact I1.slc
  have lio:=V6.lo.2;repeat' first|refine R1.ret ?_|refine R1.exit ?_|refine R1.skip ?_|refine R1.mJ ?_|refine R1.iU ?_|refine R1.aA ?_|refine R1.bg ?_|refine R1.fD ?_|((first|refine R1.xA fun K hK=>?_|refine R1.oy fun K hK=>?_|refine R1.Br (by kernel_rfl) fun K hK=>?_|refine R1.xG (by kernel_rfl) fun K hK=>?_);simp only[qB,aq,Nat.reduceLT,Nat.reduceEqDiff,Nat.reduceLeDiff,reduceIte,Nat.reduceAdd,Nat.reduceSub,Nat.reduceMul,Int.reduceLT,Int.reduceLE,Int.reduceBEq,ae,@Option.isSome_some];refine hK _ _ ?_;clear hK K)
  refine qY ?_;refine qW (qA ae (qA V7 (qA lio (qA rD (qA eI (qA hsl.len hsl.lt)))))) ?_;refine qE fun Kx Ky hx hy=>?_;refine di (fun hd=>hx ?_) (fun hd=>hy ?_)
  ·clear hx hy Kx Ky;refine qV ?_;refine ⟨_,_,aM (.o .nilS) (.i .i64 3) (.inr rfl) rfl qp qp,g4,fun _=>?_⟩;have:64<t.length:=by omega
   rw[kS,zB0 h00,hr,Option.elim_some,zB0 this];exact ⟨_,rfl,SlL.nil⟩
  clear hx hy Kx Ky;refine qW (qA ae (qA V7 (qA lio rD))) ?_;refine ⟨_,_,aM v (.i .i64 0) (.inr rfl) rfl qp qp,g4,fun _=>?_⟩;have:¬64<t.length:=by omega
  rw[kS,zB0 h00,hr,Option.elim_some,zB1 this];exact ⟨_,rfl,hsl⟩
theorem UO (H:Hp) (a b:List Lot) (va vb:AC) (ha:SlL H va a) (hb:SlL H vb b):
  Con E2 20 [.one va,.one vb] H (fun _=>False) fun v H'=>∃ vs,v=.tup [(false,[vs]),(false,[.i .i64 (kS 1 a b).2])]∧SlL H' vs (kS 1 a b).1:=by
 refine Con.of rfl fun lg=>?_;have ha:SlL ⟨H.t,H.nx,lg⟩ va a:=ha;have hb:SlL ⟨H.t,H.nx,lg⟩ vb b:=hb;generalize (⟨H.t,H.nx,lg⟩:Hp)=H at ha hb ⊢;refine C1.body (E:=E2) (nt:=11) (res:=[.tmp 4,.tmp 5]) Tryz.func20 rfl rfl rfl rfl rfl fun tm A0=>?_;have h0:=A0 0 _ rfl;have h1:=A0 1 _ rfl;clear A0;refine qW (qA ae (qA h0 h1)) ?_;refine qG (qA ae (qA h0 (qA h1 Vz))) fun K hK=>?_;refine WE.con (Ub 1 H a b va vb ha hb) fun v2 H2 hf ⟨vs,hv,hs⟩=>?_;subst hv;refine qT ?_;refine hK _ _ ?_;clear hK K;refine qV ?_;exact ⟨_,_,aM vs (.i .i64 (kS 1 a b).2) (.inr rfl) rfl qp qp,hf,fun _=>⟨_,rfl,hs⟩⟩
theorem HH:al Tryz.prog 17=true:=by kernel_rfl
def Cs.pos (c:Cs) (a b:Int):Cs:=⟨c.face,a,b,c.kind,c.num,c.good,c.ws⟩
def ik:Option Cs→Int→Int→Cs→Int×Int
 | none,_,_,_=>(1,1)
 | some p,a,b,c=>if c.face≠p.face then (1,1) else if c.col≠p.col then (a+1,1) else (a,b+1)
def gQ:Option Cs→Int→Int→List Cs→List Cs
 | _,_,_,[]=>[]
 | p,a,b,c::l=>c.pos (ik p a b c).1 (ik p a b c).2::gQ (some c) (ik p a b c).1 (ik p a b c).2 l
theorem vm:∀ (p:Option Cs) (a b:Int) (l:List Cs),(gQ p a b l).length=l.length
 | _,_,_,[]=>rfl
 | p,a,b,c::l=>congrArg (·+1) (vm _ _ _ l)
theorem UY {p:Option Cs} {a b:Int} {c:Cs} {n:Int} (ha:0≤a∧a≤n) (hb:0≤b∧b≤n):(0≤(ik p a b c).1∧(ik p a b c).1≤n+1)∧(0≤(ik p a b c).2∧(ik p a b c).2≤n+1):=by
 unfold ik;split
 ·show (0≤(1:Int)∧(1:Int)≤n+1)∧0≤(1:Int)∧(1:Int)≤n+1;omega
 split
 ·show (0≤(1:Int)∧(1:Int)≤n+1)∧0≤(1:Int)∧(1:Int)≤n+1;omega
 split
 ·show (0≤a+1∧a+1≤n+1)∧0≤(1:Int)∧(1:Int)≤n+1;omega
 show (0≤a∧a≤n+1)∧0≤b+1∧b+1≤n+1;omega
theorem Tk (cells:List AC) (m:Nat) (x y:AC) (h:m+2≤cells.length):List.take (m+1) (List.take m cells++x::List.drop (m+1) cells)++y::List.drop (m+1+1) (List.take m cells++x::List.drop (m+1) cells)=cells.take m++[x,y]++cells.drop (m+2):=by
 have hl:(List.take m cells).length=m:=by rw[List.length_take];omega
 have e1:List.take (m+1) (List.take m cells++x::List.drop (m+1) cells)=List.take m cells++[x]:=by
  have:=List.take_length_add_append (l₁:=List.take m cells) (l₂:=x::List.drop (m+1) cells) 1;rw[hl] at this;rw[this];rfl
 have e2:List.drop (m+1+1) (List.take m cells++x::List.drop (m+1) cells)=cells.drop (m+2):=by
  have:=List.drop_length_add_append (l₁:=List.take m cells) (l₂:=x::List.drop (m+1) cells) 2;rw[hl] at this;have e:m+1+1=m+2:=by omega
  rw[e,this,List.drop_succ_cons,List.drop_drop]
 rw[e1,e2,List.append_assoc,List.append_assoc];rfl
theorem bx.setPos {X:Nat→Prop} {H:Hp} {v:AC} {l:List Cs} {r:Option Nat} {e:TypeId} (ho:bx CsR 8 e X H v l r) {i:Nat} {x:Cs} (hx:l[i]?=some x) (a b:Int):
  ∃ k gen lo cells,v=.o (.sl k gen 0 l.length 8)∧r=some k∧k<H.nx∧H.get k=some (.arr cells e lo gen)∧lo≤gen∧i*8+8≤cells.length ∧
   ∀ H',Fr (fun j=>j=k) H H'→H'.get k=some (.arr (cells.take (i*8+1)++[.i .i64 a,.i .i64 b]++cells.drop (i*8+1+2)) e gen gen)→bx CsR 8 e X H' v (l.set i (x.pos a b)) r:=by
 obtain ⟨css,ha,hb⟩:=ho.own;have hi:=(List.getElem?_eq_some_iff.1 hx).1;rcases ha with ⟨rfl,h0,_⟩|⟨k,lo,gen,rfl,rfl,h3,h4,h5,h6⟩
 ·omega
 obtain ⟨hl8,hln⟩:=Al.Yp (fun c x (h:c.length=8∧_)=>h.1) hb;obtain ⟨c,hc,hc8,⟨p0,q0,w0,rfl,r1,r2,r3⟩,hcn⟩:=Al.at i hb hx;have B1:=ho.row k rfl;refine ⟨k,gen,lo,css.flatMap id,rfl,rfl,h6,h3,h4,by omega,fun H' X5 M1=>⟨fun q hq=>?_,css.set i [.i .i64 x.face,.i .i64 a,.i .i64 b,.i .i64 x.kind,p0,q0,.o (.str x.good),w0],?_,?_⟩⟩
 ·cases hq
  exact ⟨B1.1,zA0 h6 X5.nx⟩
 ·have o_:(css.set i [.i .i64 x.face,.i .i64 a,.i .i64 b,.i .i64 x.kind,p0,q0,.o (.str x.good),w0]).flatMap id=(css.flatMap id).take (i*8+1)++[.i .i64 a,.i .i64 b]++(css.flatMap id).drop (i*8+1+2):=
   Dr (sz:=8) i css _ [.i .i64 x.face,.i .i64 a,.i .i64 b,.i .i64 x.kind,p0,q0,.o (.str x.good),w0] 1 0 [.i .i64 a,.i .i64 b] hl8 hc rfl (by show 1+2≤8;decide)
  refine .inr ⟨k,gen,gen,rfl,by rw[List.length_set],by rw[o_];exact M1,zA1 _,?_,zA0 h6 X5.nx⟩;rw[o_,List.length_set,List.length_append,List.length_append,List.length_take,List.length_drop];show min (i*8+1) _+2+_=_;omega
 have l6:jB [.i .i64 x.face,.i .i64 a,.i .i64 b,.i .i64 x.kind,p0,q0,.o (.str x.good),w0]=jB [.i .i64 x.face,.i .i64 x.col,.i .i64 x.line,.i .i64 x.kind,p0,q0,.o (.str x.good),w0]:=by rw[rp,rp]
 refine Al.setAt i hb (fun c x ⟨h1,h2,h3⟩=>⟨h1,dk _ _ _ _ _ h2 X5 fun j hj e=>(h3 j hj).2 (by rw[e]),h3⟩) ⟨rfl,?_,fun j hj=>hcn j (by rw[←l6];exact hj)⟩;have h8:=dk _ _ _ _ _ (⟨p0,q0,w0,rfl,r1,r2,r3⟩:CsR H [.i .i64 x.face,.i .i64 x.col,.i .i64 x.line,.i .i64 x.kind,p0,q0,.o (.str x.good),w0] x) X5 fun j hj e=>(hcn j hj).2 (by rw[e]);obtain ⟨p1,q1,w1,e1,a1,a2,a3⟩:=h8;simp only[List.cons.injEq,and_true,true_and] at e1;obtain ⟨rfl,rfl,rfl⟩:=e1;exact ⟨p0,q0,w0,rfl,a1,a2,a3⟩
def Ae (l:List Cs):Nat→Option Cs
 | 0=>none
 | j+1=>l[j]?
theorem Sk {α:Type} {ds:List α} {i:Nat} {z:α} (h:i<ds.length):(ds.set i z).take (i+1)=ds.take i++[z]∧(ds.set i z).drop (i+1)=ds.drop (i+1):=by
 have e:ds.set i z=ds.take i++z::ds.drop (i+1):=List.set_eq_take_append_cons_drop.trans (zB0 h);have hl:(ds.take i).length=i:=by rw[List.length_take];omega
 rw[e];constructor
 ·have:=List.take_length_add_append (l₁:=ds.take i) (l₂:=z::ds.drop (i+1)) 1;rw[hl] at this;rw[this];rfl
 have:=List.drop_length_add_append (l₁:=ds.take i) (l₂:=z::ds.drop (i+1)) 1;rw[hl] at this;rw[this];rfl
theorem Kk {cells L:List AC} {n k:Nat} {x d:AC} (h:List.take 8 (List.drop n cells)=L) (hk:k<8) (hx:L[k]?=some x):(List.drop (n+k) cells).headD d=x:=by
 have e:(List.drop (n+k) cells)[0]?=some x:=by
  rw[List.getElem?_drop,Nat.add_zero,←List.getElem?_drop,←hx,←h,List.getElem?_take_of_lt hk]
 cases hd:List.drop (n+k) cells with
 | nil=>rw[hd] at e;cases e
 | cons y l=>rw[hd] at e;exact Option.some.inj e
theorem By (H:Hp) (nm:List UInt8) (v:AC) (l:List Cs) (hv:dg H v l) (hB:TbB l) (G9:gM (nm,l)=0):
  Con E2 17 [.agg [.o (.str nm),v]] H (fun _=>False) fun r H'=>∃ v',r=.tup [(true,[.o (.str nm),v']),(false,[.i .i64 0])]∧dg H' v' (gQ none 0 0 l):=by
 generalize hR:gQ none 0 0 l=R;refine Con.of rfl fun lg=>?_;have hv:dg ⟨H.t,H.nx,lg⟩ v l:=hv;generalize (⟨H.t,H.nx,lg⟩:Hp)=H at hv ⊢;refine C1.body (E:=E2) (nt:=73) (res:=[.cell 2 26,.tmp 3]) Tryz.func17 rfl rfl rfl rfl rfl fun tm A0=>?_;have h0:=A0 0 _ rfl;clear A0;have fin:∀ (v':AC) (A:ab) (H9:Hp) (M:Nat),slot A.tm 2=.one (.o (.ptr M 0 0 2))→slot A.tm 3=.one (.i .i64 0)→closeAll H9 A.dfr=some H9→H9.get M=some (.arr [.o (.str nm),v'] 26 0 0)→Gr H H9→dg H9 v' R →
   ∃ w H4,aC E2 [.cell 2 26,.tmp 3] (.ret,A,H9)=.ok [(w,H4)]∧Gr H H4∧∀ lg:List Nat,∃ v',w=.tup [(true,[.o (.str nm),v']),(false,[.i .i64 0])]∧dg ⟨H4.t,H4.nx,lg⟩ v' R:=fun v' A H9 M s2 s3 hd r1 T0 h1=>
  ⟨_,H9,cE (.inr rfl) hd (qN lK s2 (by rw[r1];exact Nd) (zA1 _) rfl (BT s3 Jl)),T0,fun lg=>⟨v',rfl,h1⟩⟩
 have hl:l.length*120≤140737488355328:=hB.c;have hlen:l.length≤256:=(lU G9).2.1;have lv:=hv.lt;replace fin:Hd _:=fin;replace hR:Hd _:=hR;refine zG tyF fun K hK=>?_;refine hK.out _ _ ?_;refine R1.gen (fun A1 H1=>Gr H H1∧H.nx+1<H1.nx∧H1.get H.nx=some (.arr [.o (.str nm),v] 26 0 0)∧H1.get (H.nx+1)=some (.arr [.o (.str []),.o .nilS] 26 0 0)∧slot A1.tm 1=.one ((.o (.ptr H.nx 0 0 2)))∧slot A1.tm 2=.one ((.o (.ptr (H.nx+1) 0 0 2)))∧A1.nt=73∧A1.dfr=[])
  ⟨((Fr.refl _).new _).new _,by show H.nx+1<H.nx+1+1;omega,by rw[aZ (by show H.nx<H.nx+1;omega)];exact aG rfl,aG rfl,zL⟩ ?_
 clear h0 tm hK K lv;rintro A1 H1 ⟨g1,n1,r0,r1,t1,t2,B0,C0⟩;obtain ⟨N,hN⟩:∃ N,N=H.nx:=⟨_,rfl⟩;rw[←hN] at n1 r0 r1 t1 t2;have hNl:H.nx≤N:=Nat.le_of_eq hN.symm;clear hN;have n0:N<H1.nx:=by omega
 have D2:=hv.gr g1;refine zG (qA tyF pf) fun K hK=>?_;refine WE.con (np H1 nm v l D2 hB) fun w2 H2 g2 P2=>?_;rw[G9] at P2;subst P2;have r0:=(g2.get _ n0 zB2).trans r0;have n0:=zA0 n0 g2.nx;have r1:=(g2.get _ n1 zB2).trans r1;have n1:=zA0 n1 g2.nx;have N2:=D2.gr g2;have g2:=g1.gr g2;have B6:((0:Int)==0)=true:=rfl;have lv:=N2.lt;clear D2 g1 hv;refine zK tyF ?_;refine zG (qA tyF gX) fun K hK=>?_;refine WE.con (fO H2 nm v l N2 hB) fun w3 H3 g3 ⟨v',q,O5,I1⟩=>?_;subst O5;have lv':=I1.lt;have hBN:N+1<H2.nx:=n1;have r0:=(g3.get _ n0 zB2).trans r0;have n0:=zA0 n0 g3.nx;have r1:=(g3.get _ n1 zB2).trans r1;have n1:=zA0 n1 g3.nx;have F6:=N2.gr g3;have l3:=F6.lt;have ll3:=F6.len;clear lv;refine zE tyF ?_;refine R1.gen (fun A4 H4=>Gr H2 H4∧H3.nx<H4.nx∧H4.get H3.nx=some (.arr [.o (.str nm),v'] 26 0 0)∧bx CsR 8 69 (fun j=>j<H2.nx∨j=H3.nx) H4 v' l q∧slot A4.tm 1=.one ((.o (.ptr N 0 0 2)))∧slot A4.tm 2=.one ((.o (.ptr (N+1) 0 0 2)))∧slot A4.tm 5=.one ((.o (.ptr H3.nx 0 0 2)))∧A4.nt=73∧A4.dfr=[])
  ⟨(g3.new _).mod _ (.inl g3.nx),zA6 _,aj rfl,((I1.WW dG).less (X':=fun j=>j<H2.nx∨j=H3.nx) fun j h=>h.elim .inl fun h=>.inr (by omega)).gr dk dG (((Fr.refl _).new _).mod _ (.inl (zA1 _))),zL⟩ ?_
 clear t1 t2 B0 C0 A1 lv' hK K l3 ll3 I1 F6;rintro A H4 ⟨g24,mT,rT,I1,t1,t2,t5,B0,C0⟩;obtain ⟨T,hT⟩:∃ T,T=H3.nx:=⟨_,rfl⟩;have hBT:H2.nx≤T:=by have:=g3.nx;omega
 rw[←hT] at mT rT t5 I1;clear hT g3;have r04:=(g24.get _ (show N<H2.nx by omega) zB2).trans (show H2.get N=some (.arr [.o (.str nm),v] 26 0 0) by assumption);have r14:=(g24.get _ (show N+1<H2.nx by omega) zB2).trans (show H2.get (N+1)=some (.arr [.o (.str []),.o .nilS] 26 0 0) by assumption);have n04:N<H4.nx:=zA0 (show N<H2.nx by omega) g24.nx;have n14:N+1<H4.nx:=zA0 hBN g24.nx;have rN:=(show H2.get N=some (.arr [.o (.str nm),v] 26 0 0) by assumption);have rN1:=(show H2.get (N+1)=some (.arr [.o (.str []),.o .nilS] 26 0 0) by assumption);have hv4:=N2.gr g24;have l1:=hv4.len;have l3:=hv4.lt;have lo:=I1.lt;refine zW tyF ?_;refine R1.dS fun K k1 k2 k3 k4=>?_;refine R1.loop (fun z A H5=>∃ (i:Nat) (a b:Int) (ds:List Cs),z=l.length - i∧i≤l.length∧ds.length=l.length∧Hd (ds.drop i=l.drop i)∧Hd (ds.take i++gQ (Ae l i) a b (l.drop i)=R)∧Hd ((0≤a∧a≤i)∧(0≤b∧b≤i))∧Gr H2 H5∧T<H5.nx∧H5.get T=some (.arr [.o (.str nm),v'] 26 0 0)∧bx CsR 8 69 (fun j=>j<H2.nx∨j=T) H5 v' ds q∧slot A.tm 1=.one ((.o (.ptr N 0 0 2)))∧slot A.tm 2=.one ((.o (.ptr (N+1) 0 0 2)))∧slot A.tm 5=.one ((.o (.ptr T 0 0 2)))∧slot A.tm 6=.one (.i .i64 (a:Int))∧slot A.tm 7=.one (.i .i64 (b:Int))∧slot A.tm 22=.one (v)∧slot A.tm 23=.one (.i .i64 (l.length:Int))∧slot A.tm 24=.one (.i .i64 (i:Int))∧A.nt=73∧A.dfr=[]) ?_ l.length ⟨0,0,0,l,rfl,Nat.zero_le _,rfl,rfl,hR.out,⟨⟨Int.le_refl _,Int.le_refl _⟩,⟨Int.le_refl _,Int.le_refl _⟩⟩,g24,mT,rT,I1,zL⟩;clear t1 t2 t5 B0 C0 A l1 l3 lo k3 g24 mT rT I1 hv4 r04 r14 n04 n14 hR H4;rintro z A H5 ⟨i,a,b,ds,rfl,hi,L_,M3,hR,F4,g5,mT,rT,I1,t1,t2,t5,t6,t7,t22,t23,t24,B0,C0⟩;have hv5:=N2.gr g5;have l1:=hv5.len;have l3:=hv5.lt;refine zW tyF ?_;refine zI tyF (fun hc=>?_) (fun hc=>?_)
 ·have D0:i<l.length:=by omega
  have ex:=zB4 D0;have Z0:=zC1 D0;have U2:=zC2 D0;have N0:l[i]∈l:=List.getElem_mem D0;generalize l[i]=x at ex Z0 U2 N0;have J1:=zC0 i (by omega);have hdx:Hd (ds[i]?=some x):=by
   have h1:(ds.drop i)[0]?=some x:=by rw[M3.out,Z0];rfl
   rwa [List.getElem?_drop,Nat.add_zero] at h1
  have m8:=hR.out;rw[Z0,gQ] at m8;have hab2:=UY (p:=Ae l i) (c:=x) F4.out.1 F4.out.2;have hds2:Hd (ds.drop (i+1)=l.drop (i+1)):=by
   have h1:=congrArg (List.drop 1) M3.out;rwa [List.drop_drop,List.drop_drop] at h1
  obtain ⟨id,g,off,cells,rfl,hid,T0,O0⟩:=hv5.open (by omega);obtain ⟨p,w1,u,hx⟩:=O0 i x ex;have y1:=hx.all;have y2:=hx.le;have J1:=zC0 i (by omega);have hpx:Ae l (i+1)=some x:=ex;replace m8:Hd _:=m8;replace hab2:Hd _:=hab2;replace hpx:Hd _:=hpx;replace O0:Hd _:=O0;replace F4:Hd _:=F4;clear hx Z0 U2 N0 ex hR M3;refine zW tyF ?_;refine R1.dS fun K2 p1 p2 p3 p4=>?_;refine zG (qA tyF (ixC D0)) fun K3 Y4=>?_;refine Y4.out _ _ ?_;refine R1.gen (fun A6 H6=>Gr H5 H6∧H5.nx<H6.nx∧H6.get H5.nx=some (.arr [.i .i64 x.face,.i .i64 x.col,.i .i64 x.line,.i .i64 x.kind,p,w1,.o (.str x.good),u] 69 0 0)∧slot A6.tm 1=.one ((.o (.ptr N 0 0 2)))∧slot A6.tm 2=.one ((.o (.ptr (N+1) 0 0 2)))∧slot A6.tm 5=.one ((.o (.ptr T 0 0 2)))∧slot A6.tm 6=.one (.i .i64 (a:Int))∧slot A6.tm 7=.one (.i .i64 (b:Int))∧slot A6.tm 8=.one (.i .i64 (i:Int))∧slot A6.tm 9=.one ((.o (.ptr H5.nx 0 0 8)))∧slot A6.tm 22=.one ((.o (.sl id g off l.length 8)))∧slot A6.tm 23=.one (.i .i64 (l.length:Int))∧slot A6.tm 24=.one (.i .i64 (i:Int))∧A6.nt=73∧A6.dfr=[])
   ⟨((Fr.refl _).new _).mod _ (.inl (zA1 _)),zA6 _,aj rfl,zL⟩ ?_
  clear t1 t2 t5 t6 t7 t22 t23 t24 B0 C0 A y1 y2 Y4 K3 l1 l3;rintro A H6 ⟨g56,mC,rC,t1,t2,t5,t6,t7,t8,t9,t22,t23,t24,B0,C0⟩;obtain ⟨C,hC⟩:∃ C,C=H5.nx:=⟨_,rfl⟩;rw[←hC] at mC rC t9;clear hC;have d_:=I1.gr dk dG g56;have g6:=g5.gr g56;have rT:=(g56.get _ mT zB2).trans rT;have mT:=zA0 mT g56.nx;have hrow6:rowOf (H6.get id) g=some cells:=by rw[g56.get _ hid zB2];exact T0
  have rN6:=(g6.get _ (show N<H2.nx by omega) zB2).trans rN;have nN6:N<H6.nx:=zA0 (show N<H2.nx by omega) g6.nx;have N9:=zA0 hid g56.nx;clear T0 hid I1 g5 g56 hv5;refine zW tyF ?_;refine R1.dS fun K5 q1 q2 q3 q4=>?_;have key:Hd (∀ (a' b':Int) (A:ab),slot A.tm 1=.one ((.o (.ptr N 0 0 2)))∧slot A.tm 2=.one ((.o (.ptr (N+1) 0 0 2)))∧slot A.tm 5=.one ((.o (.ptr T 0 0 2)))∧slot A.tm 6=.one (.i .i64 (a':Int))∧slot A.tm 7=.one (.i .i64 (b':Int))∧slot A.tm 8=.one (.i .i64 (i:Int))∧slot A.tm 22=.one ((.o (.sl id g off l.length 8)))∧slot A.tm 23=.one (.i .i64 (l.length:Int))∧slot A.tm 24=.one (.i .i64 (i:Int))∧A.nt=73∧A.dfr=[]→ik (Ae l i) a b x=(a',b')→K5 .normal A H6):=by
   clear t1 t2 t5 t6 t7 t8 t9 t22 t23 t24 B0 C0 A rC mC rN6 nN6 hrow6 N9;rintro a' b' A ⟨t1,t2,t5,t6,t7,t8,t22,t23,t24,B0,C0⟩ S4;have hR3:=m8.out;have hab3:=hab2.out;rw[S4] at hR3 hab3;replace hR3:Hd _:=hR3;replace hab3:Hd _:=hab3;clear S4 m8 hab2 F4;obtain ⟨k,gen,lo,qcells,hva,hqq,hkq,S0,B2,hle,hoS⟩:=bx.setPos d_ hdx.out a' b';have hXq:=(d_.row k hqq).1;rw[L_] at hva;subst hva;have hTk:T≠k:=fun e=>hXq (.inr e.symm);have hBk:H2.nx≤k:=Nat.not_lt.1 fun h=>hXq (.inl h);refine q1.out _ _ ?_;have f1:i*8+1+1≤qcells.length:=by omega
   have f2:i*8+1<qcells.length:=by omega
   have f3:i*8+2+1≤(List.take (i*8+1) qcells++.i .i64 a'::List.drop (i*8+1+1) qcells).length:=by
    rw[List.length_append,List.length_cons,List.length_take,List.length_drop];omega
   have f4:=Tk qcells (i*8+1) (.i .i64 a') (.i .i64 b') (by omega);replace hoS:Hd _:=hoS;replace hXq:Hd _:=hXq;replace hqq:Hd _:=hqq;have hkT:k≠T:=fun e=>hTk e.symm;repeat refine R1.aA ?_
   (first|refine R1.mq (ms:=[0,1,0,0,8,0,0,0,71,327,839,2047,4095,8191]) (by kernel_rfl) (by kernel_rfl) fun K hK=>?_|refine R1.lZ (ms:=[0,1,0,0,8,0,0,0,71,327,839,2047,4095,8191]) (by kernel_rfl) (by kernel_rfl) fun K hK=>?_)
   simp (config:={decide:=true}) only [qB,aq,Nat.reduceLT,Nat.reduceEqDiff,Nat.reduceLeDiff,reduceIte,Nat.reduceAdd,Nat.reduceSub,Nat.reduceMul,Int.reduceLT,Int.reduceLE,Int.reduceBEq,qD,bJ,bQ,aR,reduceCtorEq,ae,t5,t6,t7,t8,B0,rT,mT,iX,ju,gV,sS,sk,rX,cD,eD D0,hkq,S0,B2,f1,f2,f3,f4,hTk,hkT]
   refine hK _ _ ?_;clear hK K;refine p1.out _ _ ?_;have X5:=((Fr.refl H6).mod (.arr (List.take (i*8+1) qcells++.i .i64 a'::List.drop (i*8+1+1) qcells) 69 gen gen) (.inr (rfl:k=k)):Fr (fun j=>j=k) H6 _);have hfr2:=X5.mod (.arr (List.take (i*8+1) qcells++[.i .i64 a',.i .i64 b']++List.drop (i*8+1+2) qcells) 69 gen gen) (.inr (rfl:k=k));have ho9:=hoS.out _ hfr2 (aj rfl);obtain ⟨s1,s2⟩:=Sk (z:=x.pos a' b') (show i<ds.length by omega);refine zW tyF ?_;exact ⟨l.length - (i+1),by omega,i+1,a',b',ds.set i (x.pos a' b'),rfl,D0,by rw[List.length_set];exact L_,by show _=_;rw[s2];exact hds2.out,by show _=_;rw[s1,hpx.out,List.append_assoc];exact hR3.out,by show _∧_;exact hab3.out,(g6.mod _ (.inl hBk)).mod _ (.inl hBk),mT,by rw[az hTk,az hTk];exact rT,ho9,zL⟩
  clear d_ hdx m8 hds2 hpx fin;cases i with
  | zero=>
   have c0:(((0:Nat):Int)==0)=true:=rfl;have S4:ik (Ae l 0) a b x=(1,1):=rfl;replace S4:Hd _:=S4;refine zW tyF ?_;exact key.out 1 1 _ zL S4.out
  | succ j=>
   have c0:(((j+1:Nat):Int)==0)=false:=zB5 (by omega);have cw:IntKind.i64.wrap (((j+1:Nat):Int) - 1)=(j:Int):=by rw[au (by omega) (by omega)];omega
   have hjl:j<l.length:=by omega
   have ey:l[j]?=some l[j]:=zB4 hjl;have hpv:Ae l (j+1)=some l[j]:=ey;generalize l[j]=y at ey hpv;obtain ⟨p2',w2',u2',hy⟩:=O0.out j y ey;have y3:=hy.all;have y4:=hy.le;have z1:=Kk (d:=.b false) y3 (show 0<8 by decide) rfl;have z2:=Kk (d:=.b false) y3 (show 1<8 by decide) rfl;have z3:off+j*8+1≤cells.length:=by omega
   have z4:off+j*8+1+1≤cells.length:=by omega
   have z5:off+j*8+1<cells.length:=by omega
   rw[Nat.add_zero] at z1;rw[hpv] at key;clear hy ey hpv O0;by_cases d1:x.face=y.face
   ·have e1:(x.face==y.face)=true:=beq_iff_eq.2 d1;by_cases d2:x.col=y.col
    ·have e2:(x.col==y.col)=true:=beq_iff_eq.2 d2;have S4:ik (some y) a b x=(a,b+1):=by
      show (if x.face≠y.face then ((1:Int),(1:Int)) else if x.col≠y.col then (a+1,1) else (a,b+1))=_;rw[zB1 (fun h=>h d1),zB1 (fun h=>h d2)]
     have hwb:IntKind.i64.wrap (b+1)=b+1:=by have:=F4.out.2;exact au (by omega) (by omega)
     replace S4:Hd _:=S4;clear d1 d2;refine zW (qA tyF (ixC hjl)) ?_;exact key.out a (b+1) _ zL S4.out
    have e2:(x.col==y.col)=false:=zB5 d2;have S4:ik (some y) a b x=(a+1,1):=by
     show (if x.face≠y.face then ((1:Int),(1:Int)) else if x.col≠y.col then (a+1,1) else (a,b+1))=_;rw[zB1 (fun h=>h d1),zB0 d2]
    have hwb:IntKind.i64.wrap (a+1)=a+1:=by have:=F4.out.1;exact au (by omega) (by omega)
    replace S4:Hd _:=S4;clear d1 d2;refine zW (qA tyF (ixC hjl)) ?_;exact key.out (a+1) 1 _ zL S4.out
   have e1:(x.face==y.face)=false:=zB5 d1;have S4:ik (some y) a b x=(1,1):=by
    show (if x.face≠y.face then ((1:Int),(1:Int)) else if x.col≠y.col then (a+1,1) else (a,b+1))=_;rw[zB0 d1]
   replace S4:Hd _:=S4;clear d1;refine zW (qA tyF (ixC hjl)) ?_;exact key.out 1 1 _ zL S4.out
 have E3:i=l.length:=by omega
 subst E3;have hn:=hR.out;rw[List.drop_length,gQ,List.append_nil,←L_,List.take_length] at hn;subst hn;have rN15:=(g5.get _ hBN zB2).trans rN1;have nN5:N+1<H5.nx:=zA0 hBN g5.nx;have lv:=I1.lt;have ho8:=I1.fr dk dG (Y:=fun i=>i=N+1) (H':=H5.mod (N+1) (.arr [.o (.str nm),v'] 26 0 0)) ((Fr.refl _).mod _ (.inr rfl)) fun i h=>.inl (.inl (by omega));have g9:Gr H (H5.mod (N+1) (.arr [.o (.str nm),v'] 26 0 0)):=(g2.gr g5).mod _ (.inl (by omega));have b1:=ho8.slr;clear hR ho8 I1 M3 F4;replace b1:Hd _:=b1;replace g9:Hd _:=g9;refine zW tyF ?_;refine k2.out _ _ ?_;refine zW tyF ?_;exact fin.out v' _ _ (N+1) (by simp only[aa,Nat.reduceEqDiff,reduceIte,t2]) qp (by simp only[ak,C0];rfl) (aj rfl) g9.out b1.out
theorem vF {acc:List Cs} {c:Cs} (h:eW acc c=0):eV c=true∧ga c.ws=0∧∀ y,acc.getLast?=some y→oz y c=true:=by
 unfold eW at h;by_cases h1:eV c=false
 ·rw[zB0 h1] at h;cases h
 rw[zB1 h1] at h;by_cases h2:ga c.ws≠0
 ·rw[zB0 h2] at h;exact absurd h (by decide)
 rw[zB1 h2] at h;by_cases h3:acc.getLast?.any (fun y=>!oz y c)=true
 ·rw[zB0 h3] at h;cases h
 refine ⟨by simpa using h1,Classical.byContradiction h2,fun y hy=>?_⟩;rw[hy] at h3;simpa using h3
theorem KY {acc:List Cs} {c:Cs} (h1:eV c=true) (h2:ga c.ws=0) (h3:∀ y,acc.getLast?=some y→oz y c=true):eW acc c=0:=by
 unfold eW;rw[zB1 (by rw[h1];decide),zB1 (fun h=>h h2),zB1];cases e:acc.getLast? with
 | none=>exact Bool.noConfusion
 | some y=>show ¬(!oz y c)=true;rw[h3 y e];decide
theorem wO {acc:List Cs} {c:Cs} {l:List Cs} (h:goT acc (c::l)=0):eW acc c=0∧goT (acc++[c]) l=0:=by
 rw[goT] at h;by_cases hn:eW acc c≠0
 ·rw[zB0 hn] at h;exact absurd h hn
 rw[zB1 hn] at h;exact ⟨Classical.byContradiction hn,h⟩
theorem Jv {acc:List Cs} {c:Cs} {l:List Cs} (h1:eW acc c=0) (h2:goT (acc++[c]) l=0):goT acc (c::l)=0:=by
 rw[goT,zB1 (fun h=>h h1)];exact h2
theorem RQ {c:Cs} (h:eV c=true):1≤c.col∧c.col≤12∧1≤c.line∧c.line≤99:=by
 unfold eV at h;by_cases h1:c.face<1∨6<c.face∨c.col<1∨12<c.col∨c.line<1∨99<c.line
 ·rw[zB0 h1] at h;cases h
 omega
theorem NO {c:Cs} (h:eV c=true) {a b:Int} (ha:1≤a∧a≤c.col) (hb:1≤b∧b≤c.line):eV (c.pos a b)=true:=by
 unfold eV at h ⊢;by_cases h1:c.face<1∨6<c.face∨c.col<1∨12<c.col∨c.line<1∨99<c.line
 ·rw[zB0 h1] at h;cases h
 rw[zB1 h1] at h;have h2:¬((c.pos a b).face<1∨6<(c.pos a b).face∨(c.pos a b).col<1∨12<(c.pos a b).col∨(c.pos a b).line<1∨99<(c.pos a b).line):=by
  show ¬(c.face<1∨6<c.face∨a<1∨12<a∨b<1∨99<b);omega
 rw[zB1 h2];exact h
theorem Ni:∀ (l acc acc':List Cs) (p:Option Cs) (a b:Int),acc.getLast?=p→acc'.getLast?=p.map (fun q=>q.pos a b)→(∀ q,p=some q→1≤a∧a≤q.col∧1≤b∧b≤q.line)→goT acc l=0→goT acc' (gQ p a b l)=0
 | [],_,_,_,_,_,_,_,_,_=>rfl
 | c::l,acc,acc',p,a,b,h1,h2,h3,h=>by
  obtain ⟨hn,hg⟩:=wO h;obtain ⟨n1,n2,n3⟩:=vF hn;obtain ⟨r1,r2,r3,r4⟩:=RQ n1;have key:(1≤(ik p a b c).1∧(ik p a b c).1≤c.col)∧(1≤(ik p a b c).2∧(ik p a b c).2≤c.line)∧∀ y,acc'.getLast?=some y→oz y (c.pos (ik p a b c).1 (ik p a b c).2)=true:=by
   cases p with
   | none=>
    refine ⟨⟨Int.le_refl _,r1⟩,⟨Int.le_refl _,r3⟩,fun y hy=>?_⟩;rw[h2] at hy;cases hy
   | some q=>
    have hq:=n3 q h1;obtain ⟨a1,a2,b1,b2⟩:=h3 q rfl;rw[h2];unfold oz at hq;by_cases d1:c.face=q.face
    ·rw[zB0 d1] at hq;by_cases d2:c.col=q.col
     ·rw[zB0 d2,decide_eq_true_eq] at hq;have e:ik (some q) a b c=(a,b+1):=by
       show (if c.face≠q.face then ((1:Int),(1:Int)) else if c.col≠q.col then (a+1,1) else (a,b+1))=_;rw[zB1 (fun h=>h d1),zB1 (fun h=>h d2)]
      rw[e];refine ⟨⟨a1,by show a≤c.col;omega⟩,⟨by show 1≤b+1;omega,by show b+1≤c.line;omega⟩,fun y hy=>?_⟩;cases hy
      show (if c.face=q.face then (if a=a then decide (b<b+1) else _) else _)=true;rw[zB0 d1,zB0 rfl,decide_eq_true_eq];omega
     rw[zB1 d2,decide_eq_true_eq] at hq;have e:ik (some q) a b c=(a+1,1):=by
      show (if c.face≠q.face then ((1:Int),(1:Int)) else if c.col≠q.col then (a+1,1) else (a,b+1))=_;rw[zB1 (fun h=>h d1),zB0 d2]
     rw[e];refine ⟨⟨by show 1≤a+1;omega,by show a+1≤c.col;omega⟩,⟨Int.le_refl _,r3⟩,fun y hy=>?_⟩;cases hy
     show (if c.face=q.face then (if a+1=a then _ else decide (a<a+1)) else _)=true;rw[zB0 d1,zB1 (by omega),decide_eq_true_eq];omega
    rw[zB1 d1] at hq;have e:ik (some q) a b c=(1,1):=by
     show (if c.face≠q.face then ((1:Int),(1:Int)) else if c.col≠q.col then (a+1,1) else (a,b+1))=_;rw[zB0 d1]
    rw[e];refine ⟨⟨Int.le_refl _,r1⟩,⟨Int.le_refl _,r3⟩,fun y hy=>?_⟩;cases hy
    show (if c.face=q.face then _ else decide (q.face<c.face))=true;rw[zB1 d1];exact hq
  obtain ⟨k1,k2,k3⟩:=key;rw[gQ];refine Jv (KY (NO n1 k1 k2) n2 k3) (Ni l (acc++[c]) _ (some c) _ _ (wc _ _) (wc _ _) (fun q hq=>?_) hg);cases hq
  exact ⟨k1.1,k1.2,k2.1,k2.2⟩
theorem oP (gs:List Gd):∀ (l:List Cs) (i:Nat) (p:Option Cs) (a b:Int) (acc:List (Cl×Int)),aL gs i (gQ p a b l) acc=aL gs i l acc
 | [],_,_,_,_,_=>rfl
 | c::l,i,p,a,b,acc=>by
  rw[gQ,aL,aL];have ih:=fun acc=>oP gs l (i+1) (some c) (ik p a b c).1 (ik p a b c).2 acc;show (if c.kind=4∨c.good=[] then aL gs (i+1) (gQ _ _ _ l) acc else if dO 0 gs c.good<0 then ([],4) else if c.kind=1∧(ke gs c.good).2.2≠[] then ([],52) else if acc.length=64 then ([],3) else aL gs (i+1) (gQ _ _ _ l) (acc++[(((i:Int),c.good,(ke gs c.good).2.1,c.num),c.kind)]))=_;rw[ih,ih]
theorem SB {nm:List UInt8} {l:List Cs} (h:gM (nm,l)=0):gM (nm,gQ none 0 0 l)=0:=by
 obtain ⟨h1,h2,h3⟩:=lU h;have h1:nmB nm=true:=h1;have h2:l.length≤256:=h2;unfold gM;show (if nmB nm=false then (40:Int) else if (256:Int)<(gQ none 0 0 l).length then 3 else goT [] (gQ none 0 0 l))=0;rw[vm,zB1 (by rw[h1];decide),zB1 (by omega)];exact Ni l [] [] none 0 0 rfl rfl (fun q h=>by cases h) h3
theorem SW {o:Option (List Lad)} {gs:List Gd} {nm:List UInt8} {l:List Cs} (h:gM (nm,l)=0):fU o gs (nm,gQ none 0 0 l)=fU o gs (nm,l):=by
 have e1:jl o gs (nm,gQ none 0 0 l)=jl o gs (nm,l):=by
  unfold jl;rw[SB h,h];show (if mF o gs≠0 then mF o gs else if (0:Int)≠0 then 0 else (aL gs 0 (gQ none 0 0 l) []).2)=_;rw[oP]
 have e2:ig o gs (nm,gQ none 0 0 l)=ig o gs (nm,l):=by
  unfold ig;rw[e1];show (if jl o gs (nm,l)=0 then (aL gs 0 (gQ none 0 0 l) []).1 else [])=_;rw[oP]
 unfold fU;rw[e1,e2]
theorem Jb:∀ (l:List Cs) (p:Option Cs) (a b:Int) (P:Nm→List Pr→Prop),(∀ x∈l,P x.num x.ws)→∀ x∈gQ p a b l,P x.num x.ws
 | [],_,_,_,_,_=>fun _ h=>absurd h List.not_mem_nil
 | c::l,p,a,b,P,h=>fun x hx=>by
  rw[gQ] at hx;rcases List.mem_cons.1 hx with rfl|hx
  ·exact h c (List.mem_cons_self ..)
  exact Jb l _ _ _ P (fun y hy=>h y (List.mem_cons_of_mem _ hy)) x hx
theorem TbB.ren {l:List Cs} (h:TbB l):TbB (gQ none 0 0 l):=
 ⟨by rw[vm];exact h.c,Jb l _ _ _ (fun n _=>n.1.length*32≤140737488355328∧n.2.length*32≤140737488355328) h.n,Jb l _ _ _ (fun _ w=>w.length*24≤140737488355328) h.w⟩
theorem MZ:∀ (l acc l2:List Cs),goT acc (l++l2)=0→goT acc l=0∧goT (acc++l) l2=0
 | [],acc,l2,h=>⟨rfl,by rw[List.append_nil];exact h⟩
 | c::l,acc,l2,h=>by
  obtain ⟨h1,h2⟩:=wO (l:=l++l2) h;obtain ⟨a,b⟩:=MZ l (acc++[c]) l2 h2;exact ⟨Jv h1 a,by rw[List.append_assoc] at b;exact b⟩
theorem EX:∀ (l acc acc':List Cs),(∀ y,acc'.getLast?=some y→acc.getLast?=some y)→goT acc l=0→goT acc' l=0
 | [],_,_,_,_=>rfl
 | c::l,acc,acc',hl,h=>by
  obtain ⟨h1,h2⟩:=wO h;obtain ⟨n1,n2,n3⟩:=vF h1;exact Jv (KY n1 n2 fun y hy=>n3 y (hl y hy)) (EX l (acc++[c]) _ (fun y hy=>by rw[wc] at hy ⊢;exact hy) h2)
def shK (n:Nat) (x:Cl×Int):Cl×Int:=((x.1.1+n,x.1.2),x.2)
theorem oY (gs:List Gd):∀ (l l2:List Cs) (i:Nat) (acc:List (Cl×Int)),(aL gs i (l++l2) acc).2=0→(aL gs i l acc).2=0∧aL gs i (l++l2) acc=aL gs (i+l.length) l2 (aL gs i l acc).1
 | [],l2,i,acc,_=>⟨rfl,rfl⟩
 | c::l,l2,i,acc,h=>by
  rw[List.cons_append,aL] at h ⊢;rw[aL];have el:i+(c::l).length=i+1+l.length:=by rw[List.length_cons];omega
  rw[el];by_cases c1:c.kind=4∨c.good=[]
  ·rw[zB0 c1] at h ⊢;rw[zB0 c1];exact oY gs l l2 (i+1) acc h
  rw[zB1 c1] at h ⊢;rw[zB1 c1];by_cases c2:dO 0 gs c.good<0
  ·rw[zB0 c2] at h;cases h
  rw[zB1 c2] at h ⊢;rw[zB1 c2];by_cases c3:c.kind=1∧(ke gs c.good).2.2≠[]
  ·rw[zB0 c3] at h;cases h
  rw[zB1 c3] at h ⊢;rw[zB1 c3];by_cases c4:acc.length=64
  ·rw[zB0 c4] at h;cases h
  rw[zB1 c4] at h ⊢;rw[zB1 c4];exact oY gs l l2 (i+1) _ h
theorem lM (gs:List Gd) (n:Nat) (K1:List (Cl×Int)):∀ (l:List Cs) (i:Nat) (acc:List (Cl×Int)),(K1++acc.map (shK n)).length≤64→(aL gs (n+i) l (K1++acc.map (shK n))).2=0 →
  (aL gs i l acc).2=0∧(aL gs (n+i) l (K1++acc.map (shK n))).1=K1++(aL gs i l acc).1.map (shK n)
 | [],i,acc,_,_=>⟨rfl,rfl⟩
 | c::l,i,acc,hl,h=>by
  rw[aL] at h ⊢;rw[aL];by_cases c1:c.kind=4∨c.good=[]
  ·rw[zB0 c1] at h ⊢;rw[zB0 c1];exact lM gs n K1 l (i+1) acc hl h
  rw[zB1 c1] at h ⊢;rw[zB1 c1];by_cases c2:dO 0 gs c.good<0
  ·rw[zB0 c2] at h;cases h
  rw[zB1 c2] at h ⊢;rw[zB1 c2];by_cases c3:c.kind=1∧(ke gs c.good).2.2≠[]
  ·rw[zB0 c3] at h;cases h
  rw[zB1 c3] at h ⊢;rw[zB1 c3];by_cases c4:(K1++acc.map (shK n)).length=64
  ·rw[zB0 c4] at h;cases h
  rw[zB1 c4] at h ⊢;have O8:=hl;rw[List.length_append,List.length_map] at O8 c4;rw[zB1 (by omega)];have e:K1++acc.map (shK n)++[((((n+i:Nat):Int),c.good,(ke gs c.good).2.1,c.num),c.kind)]=K1++(acc++[(((i:Int),c.good,(ke gs c.good).2.1,c.num),c.kind)]).map (shK n):=by
   rw[List.map_append,List.append_assoc];show _=K1++(_++[(((i:Int)+(n:Int),c.good,(ke gs c.good).2.1,c.num),c.kind)]);have:((n+i:Nat):Int)=(i:Int)+(n:Int):=by omega
   rw[this]
  rw[e] at h ⊢;exact lM gs n K1 l (i+1) _ (by rw[List.length_append,List.length_map,List.length_append];show K1.length+(acc.length+1)≤64;omega) h
theorem uX (a b:List (Cl×Int)):eR (a++b)=eR a++eR b:=by unfold eR;rw[List.filter_append,List.map_append]
def shC (n:Nat) (x:Cl):Cl:=(x.1+n,x.2)
theorem um (n:Nat):∀ l:List (Cl×Int),eR (l.map (shK n))=(eR l).map (shC n)
 | []=>rfl
 | x::l=>by
  have ih:=um n l;unfold eR at ih ⊢;rw[List.map_cons,List.filter_cons,List.filter_cons];by_cases hx:x.2=1
  ·rw[zB0 (show decide ((shK n x).2=1)=true from decide_eq_true hx),zB0 (decide_eq_true hx),List.map_cons,List.map_cons,List.map_cons,ih];rfl
  rw[zB1 (show ¬decide ((shK n x).2=1)=true from fun h=>hx (of_decide_eq_true h)),zB1 (fun h=>hx (of_decide_eq_true h)),ih]
theorem gZ (o:Option (List Lad)):∀ (l:List Cl) (acc:List Lot),(gj o l acc).2=0↔∀ x∈l,(cX o x).2=0
 | [],acc=>⟨fun _ _ h=>absurd h List.not_mem_nil,fun _=>rfl⟩
 | x::l,acc=>by
  rw[gj];by_cases h:(cX o x).2≠0
  ·rw[zB0 h];exact ⟨fun e=>absurd e h,fun e=>absurd (e x (List.mem_cons_self ..)) h⟩
  rw[zB1 h,gZ o l];refine ⟨fun e y hy=>?_,fun e y hy=>e y (List.mem_cons_of_mem _ hy)⟩;rcases List.mem_cons.1 hy with rfl|hy
  ·exact Classical.byContradiction h
  exact e y hy
theorem Ia (o:Option (List Lad)) (s:List UInt8):∀ a b:List Cl,kN o (a++b) s=kN o a s+kN o b s
 | [],b=>by show kN o b s=0+_;omega
 | x::a,b=>by
  show _+kN o (a++b) s=_+kN o a s+_;rw[Ia o s a b];omega
theorem LS (o:Option (List Lad)) (n:Nat) (s:List UInt8):∀ a:List Cl,kN o (a.map (shC n)) s=kN o a s
 | []=>rfl
 | x::a=>by
  show _+kN o (a.map (shC n)) s=_;rw[LS o n s a];rfl
theorem uV (o:Option (List Lad)) (s:List UInt8):∀ a:List Cl,(∀ x∈a,(cX o x).2=0)→0≤kN o a s
 | [],_=>Int.le_refl _
 | x::a,h=>by
  have h1:=(wz (h x (List.mem_cons_self ..))).1;have h2:=uV o s a fun y hy=>h y (List.mem_cons_of_mem _ hy);show 0≤(if x.2.1=s then (cX o x).1 else 0)+kN o a s;split <;> omega
theorem Ih (o:Option (List Lad)):∀ (l:List Cl) (acc:List Lot),∀ p∈(gj o l acc).1,(∃ x∈l,p.1=x.2.1)∨∃ q∈acc,p.1=q.1
 | [],acc,p,h=>.inr ⟨p,h,rfl⟩
 | x::l,acc,p,h=>by
  rw[gj] at h;by_cases he:(cX o x).2≠0
  ·rw[zB0 he] at h;cases h
  rw[zB1 he] at h;rcases Ih o l _ p h with ⟨y,hy,e⟩|⟨q,hq,e⟩
  ·exact .inl ⟨y,List.mem_cons_of_mem _ hy,e⟩
  rcases Ft _ _ _ q hq with e2|⟨z,hz,e2⟩
  ·exact .inl ⟨x,List.mem_cons_self ..,e.trans e2⟩
  exact .inr ⟨z,hz,e.trans e2.symm⟩
theorem Bh {l:List Lot}:kz l=false↔∀ p∈l,p.2≤1099511627776:=by
 unfold kz;rw[List.any_eq_false];exact ⟨fun h p hp=>by have:=h p hp;rw[decide_eq_true_eq] at this;omega,fun h p hp=>by rw[decide_eq_true_eq];have:=h p hp;omega⟩
theorem XP {l:List Lot} {m:Int} (h:∀ p∈l,p.2≤m) (hm:0≤m) (s:List UInt8):amt l s≤m:=by
 induction l with
 | nil=>exact hm
 | cons p l ih=>
  rw[amt];split
  ·exact h p (List.mem_cons_self ..)
  exact ih fun q hq=>h q (List.mem_cons_of_mem _ hq)
theorem Dv {o:Option (List Lad)} {l k:List Cl} (hl:∀ x∈l,(cX o x).2=0) (hk:∀ x∈k,(cX o x).2=0) (h:kz (gj o l []).1=false) (hs:∀ s,kN o k s≤kN o l s):kz (gj o k []).1=false:=by
 refine Bh.2 fun p hp=>?_;have Y1:=CD o k [] 0 jE.nil ((gZ o _ _).2 hk);have e1:=rq o p.1 k [] ((gZ o _ _).2 hk);have e2:=rq o p.1 l [] ((gZ o _ _).2 hl);rw[pQ Y1.pw hp] at e1;have e3:=XP (Bh.1 h) (by decide) p.1;have e4:=hs p.1;have e5:amt [] p.1=0:=rfl;omega
theorem od {o:Option (List Lad)} {gs:List Gd} {nm:List UInt8} {cs:List Cs} (h:(fU o gs (nm,cs)).2=0):
  mF o gs=0∧gM (nm,cs)=0∧(aL gs 0 cs []).2=0∧(∀ x∈eR (aL gs 0 cs []).1,(cX o x).2=0)∧kz (gj o (eR (aL gs 0 cs []).1) []).1=false∧(fU o gs (nm,cs)).1=(gj o (eR (aL gs 0 cs []).1) []).1:=by
 unfold fU at h ⊢;by_cases hb:jl o gs (nm,cs)≠0
 ·rw[zB0 hb] at h;exact absurd h hb
 have i':jl o gs (nm,cs)=0:=Classical.byContradiction hb;have hk:ig o gs (nm,cs)=(aL gs 0 cs []).1:=zB0 i';obtain ⟨b1,b2,b3⟩:=vA i';rw[hk,zB1 hb] at h ⊢;by_cases he:(gj o (eR (aL gs 0 cs []).1) []).2≠0
 ·rw[zB0 he] at h;exact absurd h he
 rw[zB1 he] at h ⊢;by_cases hg:kz (gj o (eR (aL gs 0 cs []).1) []).1=true
 ·rw[zB0 hg] at h;cases h
 rw[zB1 hg];exact ⟨b1,b2,b3,(gZ o _ _).1 (Classical.byContradiction he),by simpa using hg,rfl⟩
theorem Tg {o:Option (List Lad)} {gs:List Gd} {nm:List UInt8} {cs:List Cs} (h1:mF o gs=0) (h2:gM (nm,cs)=0) (h3:(aL gs 0 cs []).2=0) (h4:∀ x∈eR (aL gs 0 cs []).1,(cX o x).2=0) (h5:kz (gj o (eR (aL gs 0 cs []).1) []).1=false):(fU o gs (nm,cs)).2=0:=by
 have hb:jl o gs (nm,cs)=0:=by
  unfold jl;rw[zB1 (fun h=>h h1),zB1 (fun h=>h h2)];exact h3
 have hk:ig o gs (nm,cs)=(aL gs 0 cs []).1:=zB0 hb;unfold fU;rw[hk,zB1 (fun h=>h hb),zB1 (fun h=>h ((gZ o _ _).2 h4)),h5];rfl
theorem BP {o:Option (List Lad)} {gs:List Gd} {nm:List UInt8} {cs:List Cs} (h:(fU o gs (nm,cs)).2=0) (s:List UInt8):amt (fU o gs (nm,cs)).1 s=kN o (eR (aL gs 0 cs []).1) s:=by
 obtain ⟨_,_,_,h4,_,h6⟩:=od h;rw[h6,rq o s _ _ ((gZ o _ _).2 h4)];show 0+_=_;omega
theorem Cc {o:Option (List Lad)} {gs:List Gd} {nm:List UInt8} {cs:List Cs} {out:List Lot} (h:(fU o gs (nm,cs)).2=0) (hr:tW (fU o gs (nm,cs)) out):bG out=0:=by
 obtain ⟨h1,h2,h3,h4,h5,h6⟩:=od h;obtain ⟨r1,r2⟩:=hr.2.1 h;have Y1:=CD o (eR (aL gs 0 cs []).1) [] 0 jE.nil ((gZ o _ _).2 h4);rw[←h6] at Y1 h5;obtain ⟨out',a,b,c,d⟩:=Is _ Y1.pw fun x hx=>by have:=(Y1.bd x hx).1;omega
 have e:out=out':=qk r1 a fun s=>(r2 s).trans (c s).symm;subst e;obtain ⟨k1,k2⟩:=ky gs cs 0 cs [] rfl (fun _ h=>absurd h List.not_mem_nil) (Nat.zero_le _);have hle:(eR (aL gs 0 cs []).1).length≤64:=by
  unfold eR;rw[List.length_map];exact zA2 (List.length_filter_le _ _) k2
 refine Ye (xW a fun w hw=>?_) (by have:=Y1.len;omega);have J1:=(b w).1 hw;refine ⟨?_,by have:=(Y1.bd w J1).1;omega,Bh.1 h5 w J1⟩;rw[h6] at J1;rcases Ih o _ _ w J1 with ⟨x,hx,e⟩|⟨q,hq,_⟩
 ·unfold eR at hx;obtain ⟨y,hy,rfl⟩:=List.mem_map.1 hx;obtain ⟨j,c',j1,j2,j3,j4,j5,j6,j7,j8,j9⟩:=k1 y (List.mem_filter.1 hy).1;have hc:=(Gh _ _ (lU h2).2.2 c' (List.mem_of_getElem? j2)).1;rw[e,←j4];exact (NN hc (by rw[j3];exact j8)).2 (by rw[j4];exact j9)
 cases hq
theorem Vm {o:Option (List Lad)} {gs:List Gd} {nm:List UInt8} {cs:List Cs} (h:(fU o gs (nm,cs)).2=0) (n:Nat):
  (fU o gs (nm,cs.take n)).2=0∧(fU o gs (nm,cs.drop n)).2=0∧∀ p q a,tW (fU o gs (nm,cs.take n)) p→tW (fU o gs (nm,cs.drop n)) q→tW (fU o gs (nm,cs)) a→kS 1 p q=(a,0):=by
 obtain ⟨h1,h2,h3,h4,h5,h6⟩:=od h;obtain ⟨t1,t2,t3⟩:=lU h2;have t1:nmB nm=true:=t1;have t2:cs.length≤256:=t2;have t3:goT [] cs=0:=t3;have W2:cs.take n++cs.drop n=cs:=List.take_append_drop n cs;rw[←W2] at t3;obtain ⟨g1,g2⟩:=MZ _ _ _ t3;have g2:goT [] (cs.drop n)=0:=EX _ _ _ (fun y hy=>by cases hy) g2;have hlen:(cs.take n).length≤256:=by rw[List.length_take];omega
 have h_:(cs.drop n).length≤256:=by rw[List.length_drop];omega
 have tt:∀ l:List Cs,l.length≤256→goT [] l=0→gM (nm,l)=0:=fun l hl hg=>by
  unfold gM;show (if nmB nm=false then (40:Int) else if (256:Int)<l.length then 3 else goT [] l)=0;rw[zB1 (by rw[t1];decide),zB1 (by omega)];exact hg
 have E9:=h3;rw[←W2] at E9;obtain ⟨c1,c2⟩:=oY gs (cs.take n) (cs.drop n) 0 [] E9;rw[c2] at E9;have E4:=(ky gs (cs.take n) 0 (cs.take n) [] rfl (fun _ h=>absurd h List.not_mem_nil) (Nat.zero_le _)).2;rw[Nat.zero_add] at E9 c2;have sh:=lM gs (cs.take n).length (aL gs 0 (cs.take n) []).1 (cs.drop n) 0 [];rw[List.map_nil,List.append_nil,Nat.add_zero] at sh;obtain ⟨s1,s2⟩:=sh E4 E9;have hK:(aL gs 0 cs []).1=(aL gs 0 (cs.take n) []).1++(aL gs 0 (cs.drop n) []).1.map (shK (cs.take n).length):=by
  have e:=congrArg Prod.fst c2;rw[W2] at e;rw[e,s2]
 rw[hK,uX,um] at h4 h5;have k1:∀ x∈eR (aL gs 0 (cs.take n) []).1,(cX o x).2=0:=fun x hx=>h4 x (List.mem_append_left _ hx);have k2:∀ x∈eR (aL gs 0 (cs.drop n) []).1,(cX o x).2=0:=fun x hx=>h4 (shC (cs.take n).length x) (List.mem_append_right _ (List.mem_map_of_mem hx));have hsum:∀ s,kN o (eR (aL gs 0 cs []).1) s=kN o (eR (aL gs 0 (cs.take n) []).1) s+kN o (eR (aL gs 0 (cs.drop n) []).1) s:=fun s=>by
  rw[hK,uX,um,Ia,LS]
 have D3:=hsum;rw[hK,uX,um] at D3;have b1:=Dv h4 k1 h5 fun s=>by have:=D3 s;have:=uV o s _ k2;omega
 have b2:=Dv h4 k2 h5 fun s=>by have:=D3 s;have:=uV o s _ k1;omega
 have e1:(fU o gs (nm,cs.take n)).2=0:=Tg h1 (tt _ hlen g1) c1 k1 b1;have e2:(fU o gs (nm,cs.drop n)).2=0:=Tg h1 (tt _ h_ g2) s1 k2 b2;refine ⟨e1,e2,fun p q a hp hq ha=>Lz (.inl rfl) (Cc e1 hp) (Cc e2 hq) (Cc h ha) fun s=>?_⟩;have a1:=(hp.2.1 e1).2 s;have a2:=(hq.2.1 e2).2 s;have a3:=(ha.2.1 h).2 s;rw[BP e1] at a1;rw[BP e2] at a2;rw[BP h] at a3;have:=hsum s;omega
theorem EH:al Tryz.prog 18=true:=by kernel_rfl
theorem Vv:al Tryz.prog 19=true:=by kernel_rfl
theorem Wc:al Tryz.prog 20=true:=by kernel_rfl
theorem xR (H:Hp) (v w:AC) (l:List Lot) (hv:SlL H v l) (hw:SlL H w l) (hL:l.length≤4611686018427387904):
  Con E2 18 [.one v,.one w] H (fun _=>False) fun r _=>r=.one (.b true):=by
 refine Con.of rfl fun lg=>?_;have hv:SlL ⟨H.t,H.nx,lg⟩ v l:=hv;have hw:SlL ⟨H.t,H.nx,lg⟩ w l:=hw;generalize (⟨H.t,H.nx,lg⟩:Hp)=H at hv hw ⊢;refine C1.body (E:=E2) (nt:=26) (res:=[.tmp 4]) Tryz.func18 rfl rfl rfl rfl rfl fun tm A0=>?_;have h0:=A0 0 _ rfl;have h1:=A0 1 _ rfl;clear A0;have l1:=hv.len;have l2:=hw.len;have l3:=hv.lt;have l4:=hw.lt;have Y0:((l.length:Int)==(l.length:Int))=true:=beq_self_eq_true _;refine zW tyF ?_;refine R1.dS fun K k1 k2 k3 k4=>?_;refine R1.loop (fun k A H2=>∃ i:Nat,k=l.length - i∧i≤l.length∧Gr H H2∧slot A.tm 0=.one (v)∧slot A.tm 1=.one (w)∧slot A.tm 5=.one (.i .i64 (i:Int))∧A.nt=26∧A.dfr=[]) ?_ l.length ⟨0,rfl,Nat.zero_le _,Fr.refl _,zL⟩;clear h0 h1 tm l1 l2 l3 l4 k3;rintro k A H2 ⟨i,rfl,hi,g2,t0,t1,t5,B0,C0⟩;have N2:=hv.gr g2;have hw2':=hw.gr g2;have l1:=N2.len;have l3:=N2.lt;refine zW tyF ?_;refine zI tyF (fun hc=>?_) (fun hc=>?_)
 ·have D0:i<l.length:=by omega
  have ex:=zB4 D0;have Z0:=zC1 D0;have U2:=zC2 D0;have N0:l[i]∈l:=List.getElem_mem D0;generalize l[i]=x at ex Z0 U2 N0;have J1:=zC0 i (by omega);clear Z0 U2 N0 l1 l3;obtain ⟨id,g,off,cells,rfl,hid,T0,O0⟩:=N2.open (by omega);obtain ⟨id',g',off',cells',rfl,L2,A8,M4⟩:=hw2'.open (by omega);have V0:=O0 i x ex;have T5:=M4 i x ex;have y1:=V0.all;have y2:=V0.le;have y3:=T5.all;have y4:=T5.le;obtain ⟨x1,x2⟩:=x;replace y1:(cells.drop (off+i*2)).take 2=[.o (.str x1),.i .i64 x2]:=y1;replace y3:(cells'.drop (off'+i*2)).take 2=[.o (.str x1),.i .i64 x2]:=y3;have c1:(x1==x1)=true:=beq_self_eq_true _;have c2:(x2==x2)=true:=beq_self_eq_true _;clear O0 M4 V0 T5 ex Y0;refine zW tyF ?_;refine R1.dS fun K2 q1 q2 q3 q4=>?_;repeat refine R1.aA ?_
  (first|refine R1.XV (by kernel_rfl) fun K hK=>?_|refine R1.XK (by kernel_rfl) fun K hK=>?_)
  simp only[qB,aq,Nat.reduceLT,Nat.reduceEqDiff,Nat.reduceLeDiff,reduceIte,Nat.reduceAdd,Nat.reduceSub,Nat.reduceMul,Int.reduceLT,Int.reduceLE,Int.reduceBEq,ae,t0,t1,t5,B0,dH,fM,eD D0,hid,T0,L2,A8,y1,y2,y3,y4,NV XD,beq_self_eq_true,Bool.and_self,Bool.not_true];refine hK _ _ ?_;clear hK K;refine qY ?_;refine zW tyF ?_;refine q1.out _ _ ?_;refine zW tyF ?_;exact ⟨l.length - (i+1),by omega,i+1,rfl,D0,g2,zL⟩
 refine zW tyF ?_;refine k2.out _ _ ?_;refine zW tyF ?_;exact ⟨_,_,ai (.b true) (.inr rfl) qe qp,g2,fun _=>rfl⟩
theorem Js (H:Hp) (lv gv tv:AC) (ls:List Lad) (gs:List Gd) (nm:List UInt8) (cs:List Cs) (n:Int) (hl:fv H lv ls) (hg:SlG H gv gs) (ht:dg H tv cs) (hGB:∀ x∈gs,x.2.2.length*16≤140737488355328) (hB:TbB cs):
  C1 E2 4 [.agg [lv,gv,.o (.str nm),tv],.one (.i .i64 n)] H fun r _=>r=.one (.b true):=by
 refine C1.body (E:=E2) (nt:=122) (res:=[.tmp 4]) Tryz.func4 rfl rfl rfl rfl rfl fun tm A0=>?_;have h0:=A0 0 _ rfl;have h1:=A0 1 _ rfl;clear A0;have hO:∀ x∈gs,x.2.2.length≤4611686018427387904:=fun x hx=>by have:=hGB x hx;omega
 have lll:=hl.lt;have llg:=hg.lt;have llt:=ht.lt;refine zG tyF fun K hK=>?_;refine hK.out _ _ ?_;refine R1.gen (fun A1 H1=>Gr H H1∧H.nx<H1.nx∧H1.get H.nx=some (.arr [lv,gv,.o (.str nm),tv] 28 0 0)∧slot A1.tm 1=.one ((.i .i64 n))∧slot A1.tm 2=.one ((.o (.ptr H.nx 0 0 4)))∧A1.nt=122∧A1.dfr=[])
  ⟨(Fr.refl _).new _,zA6 _,aG rfl,zL⟩ ?_
 clear h0 h1 tm hK K lll llg llt;rintro A1 H1 ⟨g1,m1,r1,t1,t2,B0,C0⟩;obtain ⟨N,hN⟩:∃ N,N=H.nx:=⟨_,rfl⟩;rw[←hN] at m1 r1 t2;clear hN;have hl:=hl.gr g1;have hg:=hg.gr g1;have ht:=ht.gr g1;clear g1;refine zG (qA tyF Pt) fun K hK=>?_;refine WE.con (Np H1 lv ls hl) fun w2 H2 g2 ⟨p1,p2,P2,hp,hq,_⟩=>?_;subst P2;have r1:=(g2.get _ m1 zB2).trans r1;have m1:=zA0 m1 g2.nx;have hg:=hg.gr g2;have ht:=ht.gr g2;clear g2 hl hq;have N3:∀ l,bkO ls=some l→(∀ x∈l,x.2.length≤1000000)∧l.length≤1000000:=fun l h=>⟨fun x hx=>by have:=(Pc h).2 x hx;omega,by have:=(Pc h).1;omega⟩;generalize bkO ls=o at hp N3;refine zK tyF ?_;refine zG (qA tyF lB) fun K hK=>?_;refine WE.con (jC H2 p1 gv tv o gs nm cs hp (fun l h=>(N3 l h).1) hg ht hB hO) fun w3 H3 g3 ⟨c1,o1,O5,V1,F0⟩=>?_;subst O5;have r1:=(g3.get _ m1 zB2).trans r1;have m1:=zA0 m1 g3.nx;have hg:=hg.gr g3;have ht:=ht.gr g3;have hp:=hp.gr g3;clear g3;have l1:=V1.lt;have l2:=V1.len;by_cases he:(fU o gs (nm,cs)).2=0
 case neg=>
  have e0:=F0.1 he;subst e0;have z6:((fU o gs (nm,cs)).2==0)=false:=zB5 he;have c0:((0:Int)==0)=true:=rfl;replace l2:cG H3 1 (.one c1)=.val (.one (.i .i64 0)) H3:=l2;generalize (fU o gs (nm,cs)).2=er at z6;clear F0 he;refine zK tyF ?_;refine zG (qA tyF wj) fun K hK=>?_;refine WE.con (sT (X:=fun _=>False) H3) fun w4 H4 g4 a8=>?_;subst a8;refine zK tyF ?_;exact ⟨_,_,ai (.b true) (.inr rfl) qe qp,rfl⟩
 have c0:((0:Int)==0)=true:=rfl;have c8:((8:Int)==0)=false:=rfl;have c88:((8:Int)==8)=true:=rfl;have G9:=(od he).2.1;rw[he];refine zK tyF ?_;clear l1 l2;refine zG (qA tyF HH) fun K hK=>?_;refine WE.con (By H3 nm tv cs ht hB G9) fun w4 H4 g4 ⟨v4,a8,I2⟩=>?_;subst a8;have r1:=(g4.get _ m1 zB2).trans r1;have m1:=zA0 m1 g4.nx;have hg:=hg.gr g4;have ht:=ht.gr g4;have hp:=hp.gr g4;have V1:=V1.gr g4;clear g4;have l4:=I2.lt;have l1:=V1.lt;refine zE tyF ?_;refine R1.gen (fun A5 H5=>Gr H4 H5∧H4.nx<H5.nx∧H5.get H4.nx=some (.arr [.o (.str nm),v4] 26 0 0)∧slot A5.tm 1=.one ((.i .i64 n))∧slot A5.tm 2=.one ((.o (.ptr N 0 0 4)))∧slot A5.tm 5=.one (p1)∧slot A5.tm 7=.one (c1)∧slot A5.tm 9=.one ((.o (.ptr H4.nx 0 0 2)))∧slot A5.tm 10=.one (.i .i64 (0:Int))∧A5.nt=122∧A5.dfr=[])
  ⟨((Fr.refl _).new _).mod _ (.inl (zA1 _)),zA6 _,aj rfl,zL⟩ ?_
 clear t1 t2 B0 C0 A1 l1 l4 hK K;rintro A H5 ⟨g5,m2,r2,t1,t2,t5,t7,t9,t10,B0,C0⟩;have X0:dg H5 v4 (gQ none 0 0 cs):=dg.gr I2 g5;have r1:=(g5.get _ m1 zB2).trans r1;have m1:=zA0 m1 g5.nx;have hg:=hg.gr g5;have ht:=ht.gr g5;have hp:=hp.gr g5;have V1:=V1.gr g5;obtain ⟨M,hM⟩:∃ M,M=H4.nx:=⟨_,rfl⟩;rw[←hM] at m2 r2 t9;clear hM I2 g5;have hBR:=hB.ren;refine zG (qA tyF lB) fun K hK=>?_;refine WE.con (jC H5 p1 gv v4 o gs nm (gQ none 0 0 cs) hp (fun l h=>(N3 l h).1) hg X0 hBR hO) fun w6 H6 g6 ⟨c2,o2,hq6,D3,I0⟩=>?_;rw[SW G9] at hq6 I0;rw[he] at hq6;subst hq6;have e2:=I0.one F0;subst e2;have r1:=(g6.get _ m1 zB2).trans r1;have m1:=zA0 m1 g6.nx;have hg:=hg.gr g6;have ht:=ht.gr g6;have hp:=hp.gr g6;have V1:=V1.gr g6;clear g6 X0 r2 m2 I0 hBR;have l1:=V1.lt;have l2:=D3.lt;have hlen:=F0.2.2;refine zK tyF ?_;refine zG (qA tyF EH) fun K hK=>?_;refine WE.con (xR H6 c1 c2 o2 V1 D3 (by omega)) fun w7 H7 g7 hq7=>?_;subst hq7;have r1:=(g7.get _ m1 zB2).trans r1;have m1:=zA0 m1 g7.nx;have hg:=hg.gr g7;have ht:=ht.gr g7;have hp:=hp.gr g7;have V1:=V1.gr g7;clear g7 D3 l1 l2;refine zK tyF ?_;refine zG (qA tyF Vv) fun K hK=>?_;refine WE.con (Vq H7 nm tv cs n ht hB) fun w8 H8 g8 ⟨va,vb,hq8,hy8,hn8⟩=>?_;subst hq8;have r1:=(g8.get _ m1 zB2).trans r1;have m1:=zA0 m1 g8.nx;have hg:=hg.gr g8;have ht:=ht.gr g8;have hp:=hp.gr g8;have V1:=V1.gr g8;clear g8;by_cases X3:xp (nm,cs) n=0
 case neg=>
  have h8:xp (nm,cs) n=8:=by
   unfold xp at X3 ⊢;rw[zB1 (fun h=>h G9)] at X3 ⊢;split at X3
   ·rename_i hh;rw[zB0 hh]
   exact absurd rfl X3
  obtain ⟨e1,e2⟩:=hn8 X3;subst e1 e2;rw[h8];clear hy8 hn8 X3 h8 F0;refine zK tyF ?_;refine zG (qA tyF wj) fun K hK=>?_;refine WE.con (sT (X:=fun _=>False) _) fun w9 H9 g9 hq9=>?_;subst hq9;refine zK tyF ?_;exact ⟨_,_,ai (.b true) (.inr rfl) qe qp,rfl⟩
 obtain ⟨qa,qb,oa,ob⟩:=hy8 X3;have ha:=oa.slr;have hb:=ob.slr;rw[X3,zB0 rfl];clear hy8 hn8 X3 oa ob;generalize n.toNat=nn at ha hb;obtain ⟨ec1,ec2,ec3⟩:=Vm he nn;have hBt:=hB.take nn;have hBd:=hB.drop nn;have la:=ha.lt;have lb:=hb.lt;have l1:=V1.lt;refine zE tyF ?_;refine R1.gen (fun A9 H9=>Gr H8 H9∧H8.nx+1<H9.nx∧H9.get H8.nx=some (.arr [.o (.str nm),va] 26 0 0)∧H9.get (H8.nx+1)=some (.arr [.o (.str nm),vb] 26 0 0)∧slot A9.tm 2=.one ((.o (.ptr N 0 0 4)))∧slot A9.tm 5=.one (p1)∧slot A9.tm 7=.one (c1)∧slot A9.tm 10=.one (.i .i64 (0:Int))∧slot A9.tm 13=.one ((.o (.ptr H8.nx 0 0 2)))∧slot A9.tm 14=.one ((.o (.ptr (H8.nx+1) 0 0 2)))∧A9.nt=122∧A9.dfr=[])
  ⟨((((Fr.refl _).new _).new _).mod _ (.inl (zA1 _))).mod _ (.inl (Nat.le_succ _)),by show H8.nx+1<H8.nx+1+1;omega,by rw[az (by omega)];exact aj rfl,aj rfl,zL⟩ ?_
 clear t1 t2 t5 t7 t9 t10 B0 C0 A l1 la lb hK K;rintro A H9 ⟨g9,m3,r2,r3,t2,t5,t7,t10,t13,t14,B0,C0⟩;obtain ⟨M2,hM2⟩:∃ M2,M2=H8.nx:=⟨_,rfl⟩;rw[←hM2] at m3 r2 r3 t13 t14;clear hM2;have ha9:dg H9 va (cs.take nn):=dg.gr ha g9;have hb9:dg H9 vb (cs.drop nn):=dg.gr hb g9;have m2:M2<H9.nx:=by omega
 have r1:=(g9.get _ m1 zB2).trans r1;have m1:=zA0 m1 g9.nx;have hg:=hg.gr g9;have hp:=hp.gr g9;have V1:=V1.gr g9;clear g9 ha hb ht;refine zW tyF ?_;refine zG (qA tyF lB) fun K hK=>?_;refine WE.con (jC H9 p1 gv va o gs nm (cs.take nn) hp (fun l h=>(N3 l h).1) hg ha9 hBt hO) fun w10 H10 g10 ⟨c3,o3,Q_,r_,P3⟩=>?_;rw[ec1] at Q_;subst Q_;have r1:=(g10.get _ m1 zB2).trans r1;have m1:=zA0 m1 g10.nx;have r3:=(g10.get _ m3 zB2).trans r3;have m3:=zA0 m3 g10.nx;have hg:=hg.gr g10;have hp:=hp.gr g10;have V1:=V1.gr g10;have hb9:=hb9.gr g10;clear g10 ha9 r2 m2;have l3:=r_.lt;refine zK tyF ?_;refine zG (qA tyF lB) fun K hK=>?_;refine WE.con (jC H10 p1 gv vb o gs nm (cs.drop nn) hp (fun l h=>(N3 l h).1) hg hb9 hBd hO) fun w11 H11 g11 ⟨c4,o4,hq11,I2,b7⟩=>?_;rw[ec2] at hq11;subst hq11;have V1:=V1.gr g11;have r_:=r_.gr g11;clear g11 hb9 r3 m3 r1 m1 hg hp;have hcomb:=ec3 o3 o4 o2 P3 b7 F0;have l3:=r_.lt;have l4:=I2.lt;refine zK tyF ?_;refine zG (qA tyF Wc) fun K hK=>?_;refine WE.con (UO H11 o3 o4 c3 c4 r_ I2) fun w12 H12 g12 ⟨c5,hq12,X0⟩=>?_;rw[hcomb] at hq12 X0;subst hq12;have V1:=V1.gr g12;clear g12 r_ I2 l3 l4;have l1:=V1.lt;have l5:=X0.lt;refine zK tyF ?_;refine zG (qA tyF EH) fun K hK=>?_;refine WE.con (xR H12 c5 c1 o2 X0 V1 (by omega)) fun w13 H13 g13 hq13=>?_;subst hq13;refine zS (qA tyF wj) ?_;refine WE.con (sT (X:=fun _=>False) H13) fun w14 H14 g14 hq14=>?_;subst hq14;refine zK tyF ?_;exact ⟨_,_,ai (.b true) (.inr rfl) qe qp,rfl⟩
open Go.ChangeShapes Go.WideShapes Go.ChangeAt Go.RowKit Go.Eng
theorem VI:∀ t∈[28,3],Tryz.prog.readableRec t=true∧t<Tryz.prog.types.size:=by
 have h1:Tryz.prog.readableRec 28=true:=by kernel_rfl
 have h2:Tryz.prog.readableRec 3=true:=by kernel_rfl
 have k1:decide (28<Tryz.prog.types.size)=true:=by kernel_rfl
 have k2:decide (3<Tryz.prog.types.size)=true:=by kernel_rfl
 intro t ht;simp only[List.mem_cons,List.not_mem_nil,or_false] at ht;rcases ht with rfl|rfl
 ·exact ⟨h1,of_decide_eq_true k1⟩
 exact ⟨h2,of_decide_eq_true k2⟩
theorem Fl (os:Os) (started:os.Started) (H:Type) (enc:TypeId×Value→H):
  ReturnsInHanded {} Tryz.checked os 4 .any (Rows.accountEntriesKeepSpec.pre6 enc Tryz.prog Tryz.f4 Rows.accountEntriesKeepRow.domain false) (Rows.accountEntriesKeepSpec.post enc Tryz.prog Tryz.f4 false true false false):=by
 refine returnsInHanded_of_change_sized (C:=Tryz.checked) Tryz.own started (by kernel_rfl) Tryz.func4
  (ChangeSpec.witness6 (enc:=enc) (C:=Tryz.checked) false ⟨#[],#[.agg #[.slice none 0 0,.slice none 0 0,.string ⟨#[]⟩,.slice none 0 0],.int .i64 0],[]⟩ 8 (by kernel_rfl) (by kernel_rfl) (by kernel_rfl) (by kernel_rfl)) ?_
 intro W base args ds gs before hval0 hW hcnd0 G1 _;clear hcnd0;have F9:∀ (j:Nat) t v,Tryz.f4.params[j]?=some t→args[j]?=some v→Value.okWide Tryz.prog W .any base t v:=hval0;have hW':=hW;obtain ⟨p,q,hA0,hV,rfl,hfz,T4⟩:=hW;have hA:DataW.TrodAll enc Tryz.prog W 0 (fun _=>true) true Tryz.f4.params.toList args.toList ds p:=hA0;rw[Tryz.params4] at hA F9 G1;have hAll:=hA;obtain ⟨v0,v1,d0,d1,p0,p1,rfl,rfl,rfl,h0,h1⟩:=trodAll_two hA;obtain ⟨rfl,rfl⟩:=trodVars_none hV;clear hA0 hval0;simp only[List.append_nil] at hW' hfz;have hw:∀ (j:Nat) (t:TypeId) (d:DataW H),[28,3][j]?=some t→[d0,d1][j]?=some d→∀ n∈d.weights Tryz.prog t,n≤reachBytes:=fun j t d ht hd n hn=>by
  have:=List.all_eq_true.1 G1 n (DataW.weights_mem_each (j:=j) (by rw[List.getElem?_append_left (by have:=(List.getElem?_eq_some_iff.1 ht).1;exact this)];exact ht) (by rw[List.getElem?_append_left (by have:=(List.getElem?_eq_some_iff.1 hd).1;exact this)];exact hd) n hn);simpa using this
 obtain ⟨y0,u0,l0,a0,b0,_,c0⟩:=PV Tryz.underlying28 (fun hB=>NT hB) JA (F9 0 _ v0 rfl rfl) h0 (hw 0 _ _ rfl rfl) [] Rx;clear hw G1;obtain ⟨n,rfl,rfl,rfl,_⟩:=open_int Tryz.underlying3 (F9 1 _ v1 rfl rfl) h1;obtain ⟨lv,gv,tv,rfl,e1,e2,e3,e4,e5⟩:=Rn RE c0;have X1:=Dz (E:=E2) Yt (f:=4) (args:=[.agg [lv,gv,.o (.str l0.2.2.1),tv],.one (.i .i64 n)]) (vs:=[v0,.int .i64 n]) (w:=W) (l:=[]++y0) a0
  ⟨b0,rfl,trivial⟩
  (Js _ lv gv tv l0.1 l0.2.1 l0.2.2.1 _ n e1 e2 e4 e3 e5)
 refine X1.mono fun e W' ⟨he,hw⟩=>?_;subst he;have D0:∀ x∈p0,x.block<W.heap.size:=fun x hx=>hW'.lt x (by simpa using hx);exact ⟨_,rfl,Su rfl hW' rfl (by kernel_rfl) rfl rfl rfl (tB hw) fun sp hsp=>oG Tryz.laidOut (tB hw) VI (by simpa using hAll) (by simpa using D0) hsp⟩
theorem keep_holds:Rows.AccountEntriesKeepSaid:=
 OpenClaim.holds_of_wide 4 Tryz.f4 rfl rfl rfl rfl rfl rfl rfl ⟨rfl,rfl,rfl,rfl,rfl⟩ rfl rfl rfl rfl rfl (by kernel_rfl) Tryz.func4 (by kernel_rfl)
  (of_decide_eq_true (by kernel_rfl)) (by unfold Func.isWrapper;first|(rw[zB0 (by decide +kernel)];kernel_rfl)|(rw[zB1 (by decide +kernel)];exact ⟨rfl,rfl⟩))
  (fun os started H enc _=>Fl os started H enc)
end Go.Proofs.YtnhbkodnmkojpaaGreat
end
