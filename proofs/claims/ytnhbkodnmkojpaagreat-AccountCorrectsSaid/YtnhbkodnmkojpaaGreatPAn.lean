/- A part of the proof: BkNum6, BkNum7, BkNum8, BkNum9, BkNum10, BkPz1, BkPz2, BkPz4, BkPz5, BkPz11, BkPzArg, BkFacts5, BkFacts9, BkAll. No conditions. -/
import Derived.Test.YtnhbkodnmkojpaaGreatPAm
import Derived.KernelRfl
set_option maxRecDepth 100000
set_option maxHeartbeats 64000000
namespace Go.Proofs.YtnhbkodnmkojpaaGreat
open Go Go.Eng
theorem RE:al Tryz.prog 122=true:=by kernel_rfl
theorem MU:al Tryz.prog 158=true:=by kernel_rfl
theorem pN {E:Env} {s s':Tmp} {t t':TypeId} {A:ab} {H H2:Hp} {e:aE} {id id' g g':Nat} {c c':AC} (ht:loadT E.P t=some (false,1)) (ht':loadT E.P t'=some (false,1)) (he:e=.normal∨e=.ret) (hd:closeAll H A.dfr=some H2)
  (hs:slot A.tm s=.one (.o (.ptr id g 0 1))) (hs':slot A.tm s'=.one (.o (.ptr id' g' 0 1))) (hg:rowOf (H2.get id) g=some [c]) (hg':rowOf (H2.get id') g'=some [c']):
  ao E [.cell s t,.cell s' t'] (e,A,H)=.ok [(.tup [(false,[c]),(false,[c'])],H2)]:=by
 have one:∀ (s:Tmp) (t:TypeId) (id g:Nat) (c:AC),loadT E.P t=some (false,1)→slot A.tm s=.one (.o (.ptr id g 0 1))→rowOf (H2.get id) g=some [c]→iy E.P (.cell s t) A.tm H2=some (false,[c]):=fun s t id g c ht hs hg=>by
  have e0:iy E.P (.cell s t)=match loadT E.P t with
    | some p=>fun tm h=>ay (tm.get s) none fun v=>ae.rec (motive:=fun _=>Option (Bool×List AC)) (fun v _=>fl v) (fun _=>none) (fun _ _=>none) (fun _ _=>none) (fun _=>none) (cm h p.1 p.2 v)
    | none=>fun _ _=>none:=rfl
  rw[e0,ht]
  show ay (A.tm.get s) none (fun v=>ae.rec (motive:=fun _=>Option (Bool×List AC)) (fun v _=>fl v) (fun _=>none) (fun _ _=>none) (fun _ _=>none) (fun _=>none) (cm H2 false 1 v))=_
  rw[sH hs]
  show ae.rec (motive:=fun _=>Option (Bool×List AC)) (fun v _=>fl v) (fun _=>none) (fun _ _=>none) (fun _ _=>none) (fun _=>none) (cm H2 false 1 (.one (.o (.ptr id g 0 1))))=_
  rw[eX,hg,sZ (Nat.le_refl _) (by simp)];rfl
 have key:(ay (closeAll H A.dfr) (R.bad "marks") fun h2=>ay (bj E.P [.cell s t,.cell s' t'] A.tm h2) (.bad "results") fun l=>.ok [(dm l,h2)])=.ok [(.tup [(false,[c]),(false,[c'])],H2)]:=by
  rw[hd]
  have hr:bj E.P [.cell s t,.cell s' t'] A.tm H2=some [(false,[c]),(false,[c'])]:=by
   show ay (iy E.P (.cell s t) A.tm H2) none (fun x=>ay (ay (iy E.P (.cell s' t') A.tm H2) none fun x=>ay (some []) none fun l=>some (x::l)) none fun l=>some (x::l))=_
   rw[one s t id g c ht hs hg,one s' t' id' g' c' ht' hs' hg'];rfl
  show ay (bj E.P [.cell s t,.cell s' t'] A.tm H2) (R.bad "results") (fun l=>R.ok [(dm l,H2)])=_
  rw[hr];rfl
 rcases he with rfl|rfl
 ·exact key
 ·exact key
def Dp:List (Pr×Int)→List UInt8→Int×Int
 | [],_=>(0,11)
 | y::ys,s=>if y.1.1=s then (y.2,0) else Dp ys s
def jl (n:List UInt8) (us:List Pr) (s:List UInt8):Int×Int:=if aP n us≠0 then (0,aP n us) else Dp (yv 1 us) s
theorem MV (H:Hp) (n:List UInt8) (u:AC) (us:List Pr) (s:List UInt8) (hu:SlP H u us):
  Con E2 122 [.agg [.o (.str n),u],.one (.o (.str s))] H (fun _=>False) fun r _=>r=.tup [(false,[.i .i64 (jl n us s).1]),(false,[.i .i64 (jl n us s).2])]:=by
 refine Con.of rfl fun lg=>?_
 have hu:SlP ⟨H.t,H.nx,lg⟩ u us:=hu
 generalize (⟨H.t,H.nx,lg⟩:Hp)=H at hu ⊢
 refine C1.body (E:=E2) (nt:=23) (res:=[.cell 4 3,.cell 5 38]) Tryz.func122 rfl rfl rfl rfl rfl fun tm hargs=>?_
 have h0:=hargs 0 _ rfl
 have h1:=hargs 1 _ rfl
 clear hargs
 refine qG (qA ad (qA h0 (qA h1 (qA pY qz)))) fun K hK=>?_
 refine hK _ _ ?_
 clear hK K
 have hid0:∀ id∈(AV.one u).ids,id<H.nx:=hu.lt
 refine R1.gen (fun A1 H1=>Gr H H1∧H.nx+3<H1.nx∧H1.get H.nx=some (.arr [.o (.str n),u] 97 0 0)∧H1.get (H.nx+1)=some (.arr [.o (.str s)] 9 0 0)∧H1.get (H.nx+1+1)=some (.arr [.i .i64 0] 3 0 0)∧H1.get (H.nx+1+1+1)=some (.arr [.i .i64 0] 38 0 0)∧slot A1.tm 2=.one (.o (.ptr H.nx 0 0 2))∧slot A1.tm 3=.one (.o (.ptr (H.nx+1) 0 0 1))∧slot A1.tm 4=.one (.o (.ptr (H.nx+1+1) 0 0 1))∧slot A1.tm 5=.one (.o (.ptr (H.nx+1+1+1) 0 0 1))∧A1.nt=23∧A1.dfr=[])
  ⟨((((Fr.refl _).new _).new _).new _).new _,?_⟩ ?_
 ·refine qT ?_
  rw[aN (by show H.nx<H.nx+1+1+1;omega),aN (by show H.nx<H.nx+1+1;omega),aN (by show H.nx<H.nx+1;omega)]
  exact an rfl
 rintro A1 H1 ⟨g1,n1,r1,r2,r4,r5,t2,t3,t4,t5,hnt,hdf⟩
 clear h0 h1 tm
 have hu1:SlP H1 u us:=hu.gr g1
 obtain ⟨c1,hc1⟩:∃ c,c=H.nx:=⟨_,rfl⟩
 obtain ⟨c2,hc2⟩:∃ c,c=H.nx+1:=⟨_,rfl⟩
 obtain ⟨c4,hc4⟩:∃ c,c=H.nx+1+1:=⟨_,rfl⟩
 obtain ⟨c5,hc5⟩:∃ c,c=H.nx+1+1+1:=⟨_,rfl⟩
 rw[←hc5] at r5 t5
 rw[←hc4] at r4 t4
 rw[←hc2] at r2 t3
 rw[←hc1] at r1 t2 hid0
 have o12:c1<c2:=by omega
 have o24:c2<c4:=by omega
 have o45:c4<c5:=by omega
 have o5:c5<H1.nx:=by omega
 have hcc:H.nx≤c1:=by omega
 clear hc5 hc4 hc2 n1
 have l1:c1<H1.nx:=by omega
 have l2:c2<H1.nx:=by omega
 have l4:c4<H1.nx:=by omega
 have fin:∀ (e:aE) (A:ab) (H2 H3:Hp) (v w:Int),(e=.normal∨e=.ret)→closeAll H2 A.dfr=some H3→Gr H H3→slot A.tm 4=.one (.o (.ptr c4 0 0 1))→slot A.tm 5=.one (.o (.ptr c5 0 0 1))→H3.get c4=some (.arr [.i .i64 v] 3 0 0)→H3.get c5=some (.arr [.i .i64 w] 38 0 0)→(v,w)=jl n us s →
   ∃ w H4,ao E2 [.cell 4 3,.cell 5 38] (e,A,H2)=.ok [(w,H4)]∧Gr H H4∧∀ _:List Nat,w=.tup [(false,[.i .i64 (jl n us s).1]),(false,[.i .i64 (jl n us s).2])]:=fun e A H2 H3 v w he hd hg hs hs' hr hr' hv=>
  ⟨_,H3,pN (c:=.i .i64 v) (c':=.i .i64 w) cj oR he hd hs hs' (by rw[hr];exact bm (Nat.le_refl _) (Nat.le_refl _)) (by rw[hr'];exact bm (Nat.le_refl _) (Nat.le_refl _)),hg,fun _=>by rw[←hv]⟩
 generalize hr0:jl n us s=r0 at fin
 unfold jl at hr0
 repeat refine R1.aw ?_
 refine qG (qA ad (qA t2 (qA hnt (qA r1 (qA l1 (qA bP mu)))))) fun K hK=>?_
 refine WE.con (jF H1 n u us hu1) fun v H2 g2 hv=>?_
 subst hv
 have r1:H2.get c1=some (.arr [.o (.str n),u] 97 0 0):=by rw[g2.get _ l1 not_false];exact r1
 have r2:H2.get c2=some (.arr [.o (.str s)] 9 0 0):=by rw[g2.get _ l2 not_false];exact r2
 have r4:H2.get c4=some (.arr [.i .i64 0] 3 0 0):=by rw[g2.get _ l4 not_false];exact r4
 have r5:H2.get c5=some (.arr [.i .i64 0] 38 0 0):=by rw[g2.get _ o5 not_false];exact r5
 have o5:c5<H2.nx:=Nat.lt_of_lt_of_le o5 g2.nx
 have l1:c1<H2.nx:=by omega
 have l2:c2<H2.nx:=by omega
 have l4:c4<H2.nx:=by omega
 have hu2:=hu1.gr g2
 have g2:=g1.gr g2
 have hlen:=@iz n us
 refine qS (qA ad hnt) ?_
 refine hK _ _ ?_
 clear hK K
 generalize aP n us=e0 at hr0 hlen ⊢
 by_cases he0:e0=0
 case neg=>
  have ce:(e0 != 0)=true:=bne_iff_ne.2 he0
  rw[if_pos he0] at hr0
  refine qW (qA ad (qA hnt ce)) ?_
  refine qE fun Kx Ky hx hy=>?_
  refine db (fun _=>hx ?_) (fun h=>absurd ce (by simpa using h))
  clear hx hy Kx Ky
  repeat' first|refine R1.ret ?_|refine R1.exit ?_|refine R1.skip ?_|refine R1.oP ?_|refine R1.kQ ?_|refine R1.aw ?_|refine R1.aS ?_|refine R1.gW ?_|((first|refine R1.Dl fun K hK=>?_|refine R1.ns fun K hK=>?_|refine R1.ID (by kernel_rfl) fun K hK=>?_|refine R1.Cu (by kernel_rfl) fun K hK=>?_);simp only[qB,au,Nat.reduceLT,ad,t4,t5,hnt,vJ,dR,r4,r5,l4,o5,az (Nat.ne_of_gt o45)];refine hK _ _ ?_;clear hK K)
  exact fin .ret _ _ _ 0 e0 (.inr rfl) (by simp only[ag,hdf];rfl) ((g2.mod _ (.inl (by omega))).mod _ (.inl (by omega))) (by simp only[aa,Nat.reduceEqDiff,reduceIte,t4]) (by simp only[aa,Nat.reduceEqDiff,reduceIte,t5]) (by rw[az (by omega)];exact ai rfl) (ai rfl) hr0
 rw[if_neg (fun h=>h he0)] at hr0
 have hlen:=hlen he0
 refine qW (qA ad (qA hnt he0)) ?_
 refine qY ?_
 refine R1.aS ?_
 repeat refine R1.aw ?_
 refine qG (qA ad (qA t2 (qA hnt (qA r1 (qA l1 (qA bP EL)))))) fun K hK=>?_
 refine WE.con (xB H2 (.o (.str n)) u hu2.lt) fun v H5 g5 ⟨hv,hil,hln⟩=>?_
 subst hv
 refine qS (qA ad hnt) ?_
 refine hK _ _ ?_
 clear hK K
 refine R1.Gh (fun A4=>slot A4.tm 3=.one (.o (.ptr c2 0 0 1))∧slot A4.tm 4=.one (.o (.ptr c4 0 0 1))∧slot A4.tm 5=.one (.o (.ptr c5 0 0 1))∧slot A4.tm 15=.one (.o (.clo 170 [(H2.nx,0,0,2)]))∧A4.nt=23∧A4.dfr=[])
  ⟨by simp only[aa,Nat.reduceEqDiff,reduceIte,t3],by simp only[aa,Nat.reduceEqDiff,reduceIte,t4],by simp only[aa,Nat.reduceEqDiff,reduceIte,t5],by simp only[aa,Nat.reduceEqDiff,reduceIte],by simp only[aA,hnt],by simp only[ag,hdf]⟩ ?_
 clear t2 t3 t4 t5 hnt hdf A1
 rintro A ⟨t3,t4,t5,t15,hnt,hdf⟩
 have gg:Gr H H5:=g2.gr g5
 have r2:H5.get c2=some (.arr [.o (.str s)] 9 0 0):=by rw[g5.get _ l2 not_false];exact r2
 have r4:H5.get c4=some (.arr [.i .i64 0] 3 0 0):=by rw[g5.get _ l4 not_false];exact r4
 have r5:H5.get c5=some (.arr [.i .i64 0] 38 0 0):=by rw[g5.get _ o5 not_false];exact r5
 have hu5:SlP H5 u us:=hu2.gr g5
 obtain ⟨il,hild⟩:∃ i,i=H2.nx:=⟨_,rfl⟩
 rw[←hild] at hil hln t15 o5 l1 l2 l4
 clear hild
 generalize hys:yv 1 us=ys at hr0
 have hyl:ys.length≤us.length:=by rw[←hys];exact AT 1 us
 refine R1.aJ fun K k1 k2 k3 k4=>?_
 refine R1.range (σ:=Unit) (g:=170) (caps:=[(il,0,0,2)]) (n:=ys.length) (ar:=yA ys) (D:=DL il u) (by simp only[Jf,t15]) xx (fun _=>rfl)
  (zQ H5 il (.o (.str n)) u us hln hil hu5 (by omega) ys hys) (fun k hk=>by
   rcases hk with h|h
   ·omega
   ·exact Nat.lt_trans (hid0 k h) (by omega)) (by rw[hnt];rfl) (fun i _=>RF ys i)
  (fun i _ H6=>H6.get c2=some (.arr [.o (.str s)] 9 0 0)∧H6.get c4=some (.arr [.i .i64 0] 3 0 0)∧H6.get c5=some (.arr [.i .i64 0] 38 0 0)∧Dp (ys.drop i) s=r0∧H5.nx≤H6.nx)
  (fun e _ H6=>e=.ret∧H6.get c4=some (.arr [.i .i64 r0.1] 3 0 0)∧H6.get c5=some (.arr [.i .i64 r0.2] 38 0 0)∧H5.nx≤H6.nx)
  (fun _ k=>k=c4∨k=c5) ?_ ?_ ?_ () ?_ ?_ ?_ ?_
 ·rintro i _ H6 H7 ⟨a1,a2,a3,a4,a5⟩ hs
  exact ⟨by rw[hs.get _ (by omega) (by omega)];exact a1,by rw[hs.get _ (by omega) (by omega)];exact a2,by rw[hs.get _ (by omega) (by omega)];exact a3,a4,Nat.le_trans a5 hs.nx⟩
 ·rintro e _ H6 H7 ⟨a1,a2,a3,a5⟩ hs
  exact ⟨a1,by rw[hs.get _ (by omega) (by omega)];exact a2,by rw[hs.get _ (by omega) (by omega)];exact a3,Nat.le_trans a5 hs.nx⟩
 ·rintro i _ H6 k ⟨a1,a2,a3,a4,a5⟩ hk
  have:k<H5.nx∧c1<k∧k<il:=by rcases hk with rfl|rfl <;> omega
  refine ⟨by omega,by omega,by omega,fun h=>?_⟩
  rcases h with h|h
  ·omega
  ·have:=hid0 k h;omega
 ·intro H6 g6 n6
  exact ⟨by rw[g6.get _ (by omega) not_false];exact r2,by rw[g6.get _ (by omega) not_false];exact r4,by rw[g6.get _ (by omega) not_false];exact r5,by rw[List.drop_zero];exact hr0,g6.nx⟩
 ·rintro i _ H6 hi ⟨a1,a2,a3,a4,a5⟩ n6
  have hy:ys[i]?=some ys[i]:=List.getElem?_eq_getElem hi
  have hdr:ys.drop i=ys[i]::ys.drop (i+1):=List.drop_eq_getElem_cons hi
  generalize ys[i]=y at hy hdr
  rw[hdr,Dp] at a4
  rw[Rb hy]
  obtain ⟨x,yval⟩:=y
  refine R1.Gh (fun A7=>slot A7.tm 3=.one (.o (.ptr c2 0 0 1))∧slot A7.tm 4=.one (.o (.ptr c4 0 0 1))∧slot A7.tm 5=.one (.o (.ptr c5 0 0 1))∧slot A7.tm 16=.agg (prC x)∧slot A7.tm 17=.one (.i .i64 yval)∧A7.nt=23∧A7.dfr=[]) ⟨?_,?_,?_,?_,?_,hnt,rfl⟩ ?_
  ·show slot ((A.tm.set 16 _).set 17 _) 3=_
   simp only[fq,Nat.reduceEqDiff,reduceIte,t3]
  ·show slot ((A.tm.set 16 _).set 17 _) 4=_
   simp only[fq,Nat.reduceEqDiff,reduceIte,t4]
  ·show slot ((A.tm.set 16 _).set 17 _) 5=_
   simp only[fq,Nat.reduceEqDiff,reduceIte,t5]
  ·show slot ((A.tm.set 16 _).set 17 _) 16=_
   simp only[fq,Nat.reduceEqDiff,reduceIte]
  ·show slot ((A.tm.set 16 _).set 17 _) 17=_
   simp only[fq,Nat.reduceEqDiff,reduceIte]
  rintro A7 ⟨u3,u4,u5,u16,u17,unt,udf⟩
  refine qW (qA ad (qA u16 (qA u17 (qA unt (qA kT (qA nh ea)))))) ?_
  refine ⟨rfl,((Fr.refl _).new _).mod _ (.inl (Nat.le_refl _)),fun H8 n8 s8=>?_⟩
  have gu:H8.get H6.nx=some (.arr (prC x) 165 0 0):=by
   rw[s8.get _ (by show H6.nx<H6.nx+1;omega) (by omega)]
   exact ai rfl
  have keep:∀ k,k<H5.nx→H8.get k=H6.get k:=fun k hk=>by
   rw[s8.get _ (by show k<H6.nx+1;omega) (by omega),az (by omega),aN (by omega)]
  have n8':H8.nx=H6.nx+1:=n8
  have b2:H8.get c2=some (.arr [.o (.str s)] 9 0 0):=(keep c2 (by omega)).trans a1
  have b4:H8.get c4=some (.arr [.i .i64 0] 3 0 0):=(keep c4 (by omega)).trans a2
  have b5:H8.get c5=some (.arr [.i .i64 0] 38 0 0):=(keep c5 (by omega)).trans a3
  have lu:H6.nx<H8.nx:=by omega
  have m2:c2<H8.nx:=by omega
  have m4:c4<H8.nx:=by omega
  have m5:c5<H8.nx:=by omega
  refine R1.tk fun K2 p1 p2 p3 p4=>?_
  repeat refine R1.aw ?_
  by_cases hxs:x.1=s
  ·rw[if_pos hxs] at a4
   have cs:(x.1==s)=true:=beq_iff_eq.2 hxs
   refine qW (qA ad (qA u3 (qA unt (qA gu (qA lu (qA b2 (qA m2 (qA bS (qA aL ea))))))))) ?_
   refine qE fun Kx Ky hx hy=>?_
   rw[bU,cs]
   refine hx ?_
   clear hx hy Kx Ky
   repeat' first|refine R1.ret ?_|refine R1.exit ?_|refine R1.skip ?_|refine R1.oP ?_|refine R1.kQ ?_|refine R1.aw ?_|refine R1.aS ?_|refine R1.gW ?_|((first|refine R1.Dl fun K hK=>?_|refine R1.ns fun K hK=>?_|refine R1.ID (by kernel_rfl) fun K hK=>?_|refine R1.Cu (by kernel_rfl) fun K hK=>?_);simp only[qB,au,Nat.reduceLT,ad,u4,u5,unt,vJ,dR,b4,b5,m4,m5,az (Nat.ne_of_gt o45)];refine hK _ _ ?_;clear hK K)
   refine p4 _ _ ⟨by simp only[ag,udf],((Fr.refl _).mod _ (.inr (.inl (.inl rfl)))).mod _ (.inr (.inl (.inr rfl))),(),fun h=>(by cases h),fun _=>⟨rfl,?_,?_,by show H5.nx≤H8.nx;omega⟩,fun k hk=>.inl hk⟩
   ·rw[az (by omega),←a4];exact ai rfl
   ·rw[←a4];exact ai rfl
  ·rw[if_neg hxs] at a4
   have cs:(x.1==s)=false:=beq_false_of_ne hxs
   refine qW (qA ad (qA u3 (qA unt (qA gu (qA lu (qA b2 (qA m2 (qA bS (qA aL ea))))))))) ?_
   refine qE fun Kx Ky hx hy=>?_
   rw[bU,cs]
   refine hy ?_
   clear hx hy Kx Ky
   refine qV ?_
   refine p1 _ _ ⟨by simp only[ag,udf],Fr.refl _,(),fun _=>⟨b2,b4,b5,a4,by omega⟩,fun h=>absurd rfl h,fun k hk=>.inl hk⟩
 ·rintro s' H6 ⟨a1,a2,a3,a4,a5⟩ n6 hd6 hf6 hfp
  have g6:Gr H H6:=gg.then hf6 fun k hk=>.inl (by rcases hk with rfl|rfl <;> omega)
  have m4:c4<H6.nx:=by omega
  have m5:c5<H6.nx:=by omega
  rw[List.drop_length,Dp] at a4
  refine k1 _ _ ?_
  refine R1.Gh (fun A7=>slot A7.tm 4=.one (.o (.ptr c4 0 0 1))∧slot A7.tm 5=.one (.o (.ptr c5 0 0 1))∧A7.nt=23∧A7.dfr=[H5.nx]) ⟨t4,t5,hnt,by show H5.nx::A.dfr=_;rw[hdf]⟩ ?_
  rintro A7 ⟨u4,u5,unt,udf⟩
  repeat' first|refine R1.ret ?_|refine R1.exit ?_|refine R1.skip ?_|refine R1.oP ?_|refine R1.kQ ?_|refine R1.aw ?_|refine R1.aS ?_|refine R1.gW ?_|((first|refine R1.Dl fun K hK=>?_|refine R1.ns fun K hK=>?_|refine R1.ID (by kernel_rfl) fun K hK=>?_|refine R1.Cu (by kernel_rfl) fun K hK=>?_);simp only[qB,au,ad,u4,u5,vJ,dR,a2,a3,m4,m5,az (Nat.ne_of_gt o45)];refine hK _ _ ?_;clear hK K)
  refine fin .ret _ _ _ 0 11 (.inr rfl) (by simp only[udf];exact gU (by rw[az (by omega),az (by omega)];exact hd6)) (((g6.mod _ (.inl (by omega))).mod _ (.inl (by omega))).mod _ (.inl (by have:=gg.nx;omega))) (by simp only[u4]) (by simp only[u5]) (by rw[az (by omega),az (by omega)];exact ai rfl) (by rw[az (by omega)];exact ai rfl) a4
 ·rintro e s' H6 hne ⟨rfl,a2,a3,a5⟩ n6 hd6 hf6 hfp
  have g6:Gr H H6:=gg.then hf6 fun k hk=>.inl (by rcases hk with rfl|rfl <;> omega)
  exact k4 _ _ (fin .ret _ _ _ _ _ (.inr rfl) (by show closeAll H6 (H5.nx::A.dfr)=_;rw[hdf];exact gU hd6) (g6.mod _ (.inl (by have:=gg.nx;omega))) t4 t5 (by rw[az (by omega)];exact a2) (by rw[az (by omega)];exact a3) rfl)
end Go.Proofs.YtnhbkodnmkojpaaGreat
namespace Go.Proofs.YtnhbkodnmkojpaaGreat
open Go Go.Eng
theorem fT {n:List UInt8} {us:List Pr} (h:aP n us=0):us.length≤12∧(yv 1 us).length=us.length∧∀ x∈us,1≤x.2∧x.2≤60:=by
 have hl:=iz h
 unfold aP at h
 by_cases hk:fg n us=true
 ·unfold fg at hk
  simp only[Bool.and_eq_true,decide_eq_true_eq] at hk
  have hy:=hk.1.2
  exact ⟨hl,hy,((tg 1 us).1 hy).1⟩
 ·rw[if_neg hk] at h;cases h
theorem BY:∀ (v:Int) (us:List Pr),(yv v us).length=us.length→eo v us=some ((yv v us).map (·.2))
 | _,[],_=>rfl
 | v,x::us,h=>by
  unfold yv at h ⊢
  unfold eo
  by_cases hb:x.2<1∨60<x.2∨1099511627776<v*x.2
  ·rw[if_pos hb] at h;simp at h
  ·rw[if_neg hb] at h ⊢
   rw[if_neg (fun h=>hb (.inr (.inr h))),BY _ us (by simpa using h)]
   rfl
theorem Fm:∀ (k:Nat) (v:Int) (us:List Pr) (s:List UInt8),(yv v us).length=us.length →
  (ld k us s<0∧Dp (yv v us) s=(0,11))∨∃ j y,j<us.length∧ld k us s=((k+j:Nat):Int)∧(yv v us)[j]?=some y∧Dp (yv v us) s=(y.2,0)
 | _,_,[],_,_=>.inl ⟨by unfold ld;omega,rfl⟩
 | k,v,x::us,s,h=>by
  unfold yv at h ⊢
  by_cases hb:x.2<1∨60<x.2∨1099511627776<v*x.2
  ·rw[if_pos hb] at h;simp at h
  ·rw[if_neg hb] at h ⊢
   rw[Dp,ld]
   by_cases hs:x.1=s
   ·right
    refine ⟨0,(x,v*x.2),by simp,?_,rfl,?_⟩
    ·rw[if_pos hs];rfl
    ·rw[if_pos hs]
   ·rw[if_neg hs,if_neg hs]
    rcases Fm (k+1) (v*x.2) us s (by simpa using h) with ⟨h1,h2⟩|⟨j,y,h0,h1,h2,h3⟩
    ·exact .inl ⟨h1,h2⟩
    ·refine .inr ⟨j+1,y,by rw[List.length_cons];omega,?_,by rw[List.getElem?_cons_succ];exact h2,h3⟩
     rw[h1];omega
theorem SlI.at {H:Hp} {v:AC} {l:List Int} (h:SlI H v l) {j:Nat} {z:Int} (hz:l[j]?=some z):∃ id g off cells,v=.o (.sl id g off l.length 1)∧id<H.nx∧rowOf (H.get id) g=some cells∧(cells.drop (off+j*1)).headD (.b false)=.i .i64 z∧off+j*1+1≤cells.length∧j<l.length:=by
 have hj:=(List.getElem?_eq_some_iff.1 hz).1
 obtain ⟨id,g,off,h1,h2,hr⟩:=SlC.pos h (by omega)
 have hr':=hr
 obtain ⟨cells,h3,h6,h7⟩:=hr
 obtain ⟨cells',k3,k6,k7⟩:=Rd.at (c:=pj) FZ hr' hz
 rw[h3] at k3
 cases k3
 refine ⟨id,g,off,cells,h1,h2,h3,?_,k6,hj⟩
 cases hd:cells.drop (off+j*1) with
 | nil=>have:=congrArg List.length hd;simp at this;omega
 | cons a r=>
  rw[hd] at k7
  have:=(List.cons.inj k7).1
  rw[this];rfl
theorem IH (H:Hp) (n:List UInt8) (u:AC) (us:List Pr) (s:List UInt8) (hu:SlP H u us):
  Con E2 158 [.agg [.o (.str n),u],.one (.o (.str s))] H (fun _=>False) fun r _=>r=.tup [(false,[.i .i64 (jl n us s).1]),(false,[.i .i64 (jl n us s).2])]:=by
 refine Con.of rfl fun lg=>?_
 have hu:SlP ⟨H.t,H.nx,lg⟩ u us:=hu
 generalize (⟨H.t,H.nx,lg⟩:Hp)=H at hu ⊢
 refine C1.body (E:=E2) (nt:=29) (res:=[.tmp 4,.tmp 5]) Tryz.func158 rfl rfl rfl rfl rfl fun tm hargs=>?_
 have h0:=hargs 0 _ rfl
 have h1:=hargs 1 _ rfl
 clear hargs
 have fin:∀ (v w:Int) (A:ab) (H3:Hp),slot A.tm 4=.one (.i .i64 v)→slot A.tm 5=.one (.i .i64 w)→A.dfr=[]→Gr H H3→(v,w)=jl n us s →
   ∃ w H4,ao E2 [.tmp 4,.tmp 5] (.ret,A,H3)=.ok [(w,H4)]∧Gr H H4∧∀ _:List Nat,w=.tup [(false,[.i .i64 (jl n us s).1]),(false,[.i .i64 (jl n us s).2])]:=fun v w A H3 h1 h2 hd hg hv=>
  ⟨_,H3,aZ (.i .i64 v) (.i .i64 w) (.inr rfl) hd h1 h2,hg,fun _=>by rw[←hv]⟩
 generalize hr0:jl n us s=r0 at fin
 unfold jl at hr0
 refine qG (qA ad h0) fun K hK=>?_
 refine hK _ _ ?_
 clear hK K
 refine R1.gen (fun A1 H1=>Gr H H1∧H.nx<H1.nx∧H1.get H.nx=some (.arr [.o (.str n),u] 97 0 0)∧slot A1.tm 1=.one (.o (.str s))∧slot A1.tm 2=.one (.o (.ptr H.nx 0 0 2))∧A1.nt=29∧A1.dfr=[])
  ⟨(Fr.refl _).new _,?_⟩ ?_
 ·exact qZ h1
 rintro A1 H1 ⟨g1,n1,rx,t1,t2,hnt,hdf⟩
 clear h0 h1 tm
 have hu1:=hu.gr g1
 refine qG (qA ad (qA t2 (qA hnt (qA rx (qA n1 (qA bP gF)))))) fun K hK=>?_
 refine WE.con (fJ H1 n u us hu1) fun v H2 g2 hv=>?_
 subst hv
 have rx2:H2.get H.nx=some (.arr [.o (.str n),u] 97 0 0):=by rw[g2.get _ n1 not_false];exact rx
 have n2:H.nx<H2.nx:=Nat.lt_of_lt_of_le n1 g2.nx
 have hu2:=hu1.gr g2
 have g2':=g1.gr g2
 have hok:=@fT n us
 refine qS (qA ad hnt) ?_
 refine hK _ _ ?_
 clear hK K
 generalize aP n us=e0 at hr0 hok ⊢
 by_cases he0:e0=0
 case neg=>
  have ce:(e0 != 0)=true:=bne_iff_ne.2 he0
  rw[if_pos he0] at hr0
  refine qW (qA ad (qA hnt ce)) ?_
  refine qE fun Kx Ky hx hy=>?_
  refine db (fun _=>hx ?_) (fun h=>absurd ce (by simpa using h))
  clear hx hy Kx Ky
  refine qW hnt ?_
  exact fin 0 e0 _ _ qp qp (qd hdf) g2' hr0
 rw[if_neg (fun h=>h he0)] at hr0
 obtain ⟨hl,hyl,hfac⟩:=hok he0
 refine qW (qA ad (qA hnt he0)) ?_
 refine qY ?_
 refine R1.aS ?_
 refine qG (qA ad (qA t1 (qA t2 (qA hnt (qA rx2 (qA n2 (qA bP xC))))))) fun K hK=>?_
 refine WE.con (uh H2 n u us s hu2 (by omega)) fun v H3 g3 hv=>?_
 subst hv
 have rx3:H3.get H.nx=some (.arr [.o (.str n),u] 97 0 0):=by rw[g3.get _ n2 not_false];exact rx2
 have n3:H.nx<H3.nx:=Nat.lt_of_lt_of_le n2 g3.nx
 have hu3:=hu2.gr g3
 have g3':=g2'.gr g3
 refine qS (qA ad hnt) ?_
 refine hK _ _ ?_
 clear hK K
 rcases Fm 0 1 us s hyl with ⟨i1,i2⟩|⟨j,y,i0,i1,i2,i3⟩
 ·rw[i2] at hr0
  have c0:(ld 0 us s<0)=True:=eq_true i1
  refine qW (qA ad (qA hnt c0)) ?_
  refine qY ?_
  refine qW hnt ?_
  exact fin 0 11 _ _ qp qp (qd hdf) g3' hr0
 ·rw[i3] at hr0
  rw[Nat.zero_add] at i1
  rw[i1]
  have c0:((j:Int)<0)=False:=eq_false (by omega)
  refine qW (qA ad (qA hnt c0)) ?_
  refine qY ?_
  refine R1.aS ?_
  refine qG (qA ad (qA t2 (qA hnt (qA rx3 (qA n3 (qA bP qM)))))) fun K hK=>?_
  refine WE.con (nY H3 n u us hu3 (by omega) hfac) fun w H4 g4 ⟨c,hw,hc⟩=>?_
  subst hw
  rw[BY 1 us hyl] at hc
  have hz:((yv 1 us).map (·.2))[j]?=some y.2:=by rw[List.getElem?_map,i2];rfl
  obtain ⟨id,g,off,cells,rfl,q1,q2,q3,q4,q5⟩:=SlI.at hc hz
  have g4':=g3'.gr g4
  refine qS (qA ad hnt) ?_
  refine hK _ _ ?_
  clear hK K
  refine qW (qA ad (qA hnt (qA dZ (qA cj (qA (ixC q5) (qA q1 (qA q2 (qA q3 q4)))))))) ?_
  exact fin y.2 0 _ _ qp qp (qd hdf) g4' hr0
end Go.Proofs.YtnhbkodnmkojpaaGreat
namespace Go.Proofs.YtnhbkodnmkojpaaGreat
open Go Go.Eng
theorem ET:al Tryz.prog 145=true:=by kernel_rfl
theorem LY:al Tryz.prog 90=true:=by kernel_rfl
theorem ny {E:Env} {s t q:Tmp} {A:ab} {H:Hp} {e:aE} (c d f:AC) (he:e=.normal∨e=.ret) (hd:A.dfr=[]) (hs:slot A.tm s=.one c) (ht:slot A.tm t=.one d) (hq:slot A.tm q=.one f):ao E [.tmp s,.tmp t,.tmp q] (e,A,H)=.ok [(.tup [(false,[c]),(false,[d]),(false,[f])],H)]:=by
 have key:(ay (closeAll H A.dfr) (R.bad "marks") fun h2=>ay (bj E.P [.tmp s,.tmp t,.tmp q] A.tm h2) (.bad "results") fun l=>.ok [(dm l,h2)])=.ok [(.tup [(false,[c]),(false,[d]),(false,[f])],H)]:=by
  rw[hd]
  have hr:bj E.P [.tmp s,.tmp t,.tmp q] A.tm H=some [(false,[c]),(false,[d]),(false,[f])]:=by
   show ay (ay (A.tm.get s) none fl) none (fun x=>ay (ay (ay (A.tm.get t) none fl) none fun x=>ay (ay (ay (A.tm.get q) none fl) none fun x=>ay (some []) none fun l=>some (x::l)) none fun l=>some (x::l)) none fun l=>some (x::l))=_
   rw[sH hs,sH ht,sH hq];rfl
  show ay (bj E.P [.tmp s,.tmp t,.tmp q] A.tm H) (R.bad "results") (fun l=>R.ok [(dm l,H)])=_
  rw[hr];rfl
 rcases he with rfl|rfl
 ·exact key
 ·exact key
def ef (n:List UInt8) (us:List Pr):Bool→Int→Int→List Gp→Int×Int×Int
 | _,sum,last,[]=>(sum,last,0)
 | later,sum,last,g::l=>
  if (jl n us g.2.1).2≠0 then (0,0,(jl n us g.2.1).2) else if later=true∧last≤(jl n us g.2.1).1 then (0,0,22) else
  ef n us true (IntKind.i64.wrap (sum+IntKind.i64.wrap (g.1*(jl n us g.2.1).1))) (jl n us g.2.1).1 l
theorem yU (H:Hp) (n:List UInt8) (u v:AC) (us:List Pr) (l:List Gp) (hu:SlP H u us) (hv:aD H v l) (hL:l.length≤1000000):
  Con E2 145 [.agg [.o (.str n),u],.one v] H (fun _=>False) fun r _=>r=.tup [(false,[.i .i64 (ef n us false 0 0 l).1]),(false,[.i .i64 (ef n us false 0 0 l).2.1]),(false,[.i .i64 (ef n us false 0 0 l).2.2])]:=by
 refine Con.of rfl fun lg=>?_
 have hu:SlP ⟨H.t,H.nx,lg⟩ u us:=hu
 have hv:aD ⟨H.t,H.nx,lg⟩ v l:=hv
 generalize (⟨H.t,H.nx,lg⟩:Hp)=H at hu hv ⊢
 refine C1.body (E:=E2) (nt:=45) (res:=[.tmp 4,.tmp 5,.tmp 6]) Tryz.func145 rfl rfl rfl rfl rfl fun tm hargs=>?_
 have h0:=hargs 0 _ rfl
 have h1:=hargs 1 _ rfl
 clear hargs
 have fin:∀ (a b c:Int) (A:ab) (H3:Hp),slot A.tm 4=.one (.i .i64 a)→slot A.tm 5=.one (.i .i64 b)→slot A.tm 6=.one (.i .i64 c)→A.dfr=[]→Gr H H3→(a,b,c)=ef n us false 0 0 l →
   ∃ w H4,ao E2 [.tmp 4,.tmp 5,.tmp 6] (.ret,A,H3)=.ok [(w,H4)]∧Gr H H4∧∀ _:List Nat,w=.tup [(false,[.i .i64 (ef n us false 0 0 l).1]),(false,[.i .i64 (ef n us false 0 0 l).2.1]),(false,[.i .i64 (ef n us false 0 0 l).2.2])]:=fun a b c A H3 h1 h2 h3 hd hg hv=>
  ⟨_,H3,ny (.i .i64 a) (.i .i64 b) (.i .i64 c) (.inr rfl) hd h1 h2 h3,hg,fun _=>by rw[←hv]⟩
 generalize hr0:ef n us false 0 0 l=r0 at fin
 refine qG (qA ad h0) fun K hK=>?_
 refine hK _ _ ?_
 clear hK K
 refine R1.gen (fun A1 H1=>Gr H H1∧H.nx<H1.nx∧H1.get H.nx=some (.arr [.o (.str n),u] 97 0 0)∧slot A1.tm 1=.one v∧slot A1.tm 2=.one (.o (.ptr H.nx 0 0 2))∧slot A1.tm 4=.one (.i .i64 0)∧slot A1.tm 5=.one (.i .i64 0)∧A1.nt=45∧A1.dfr=[])
  ⟨(Fr.refl _).new _,?_⟩ ?_
 ·exact qZ h1
 rintro A1 H1 ⟨g1,n1,rb,t1,t2,t4,t5,hnt,hdf⟩
 clear h0 h1 tm
 obtain ⟨kb,hkb⟩:∃ k,k=H.nx:=⟨_,rfl⟩
 rw[←hkb] at n1 rb t2
 have hu1:=hu.gr g1
 have hv1:=hv.gr g1
 refine qW (qA ad (qA t1 (qA hnt (qA bI (qA hv1.len hv1.lt))))) ?_
 refine R1.aJ fun K k1 k2 k3 k4=>?_
 refine R1.loop (fun k A H2=>∃ (i:Nat) (a b:Int),k=l.length - i∧i≤l.length∧Gr H1 H2∧ef n us (decide (0<i)) a b (l.drop i)=r0∧slot A.tm 2=.one (.o (.ptr kb 0 0 2))∧slot A.tm 4=.one (.i .i64 a)∧slot A.tm 5=.one (.i .i64 b)∧slot A.tm 11=.one v∧slot A.tm 12=.one (.i .i64 (l.length:Int))∧slot A.tm 13=.one (.i .i64 (i:Int))∧A.nt=45∧A.dfr=[]) ?_ l.length
  ⟨0,0,0,rfl,Nat.zero_le _,Fr.refl _,hr0,?_⟩
 ·clear t1 t2 t4 t5 hnt hdf A1
  rintro k A H2 ⟨i,a,b,rfl,hi,g2,hr,t2,t4,t5,t11,t12,t13,hnt,hdf⟩
  have hu2:=hu1.gr g2
  have hv2:=hv1.gr g2
  have g2':=g1.gr g2
  have rb:H2.get kb=some (.arr [.o (.str n),u] 97 0 0):=by rw[g2.get _ n1 not_false];exact rb
  have n2:kb<H2.nx:=Nat.lt_of_lt_of_le n1 g2.nx
  refine qW (qA ad (qA t12 (qA t13 hnt))) ?_
  refine qE fun Kx Ky hx hy=>?_
  refine db (fun hc=>hx ?_) (fun hc=>hy ?_)
  ·clear hx hy Kx Ky
   have hlt:i<l.length:=by omega
   obtain ⟨id,g,off,cells,rfl,hid,hgr,hat⟩:=hv2.open (by omega)
   have ex:l[i]?=some l[i]:=List.getElem?_eq_getElem hlt
   have hdr:l.drop i=l[i]::l.drop (i+1):=List.drop_eq_getElem_cons hlt
   generalize l[i]=x at ex hdr
   have hx1:=hat i x ex
   have hw2:IntKind.i64.wrap ((i:Int)+1)=((i+1:Nat):Int):=by rw[aX (by omega) (by omega)];omega
   rw[hdr,ef] at hr
   refine qV ?_
   refine R1.aJ fun K2 q1 q2 q3 q4=>?_
   refine qG (qA ad (qA t11 (qA t13 (qA hnt (qA cd (qA dc (qA oD (qA jn (qA (ixC hlt) (qA hid (qA hgr (qA hx1.all (qA hx1.le bZ))))))))))))) fun K hK=>?_
   refine hK _ _ ?_
   clear hK K
   refine R1.gen (fun A3 H3=>Gr H2 H3∧H2.nx<H3.nx∧H3.get H2.nx=some (.arr (gpC x) 181 0 0)∧slot A3.tm 2=.one (.o (.ptr kb 0 0 2))∧slot A3.tm 4=.one (.i .i64 a)∧slot A3.tm 5=.one (.i .i64 b)∧slot A3.tm 7=.one (.i .i64 (i:Int))∧slot A3.tm 8=.one (.o (.ptr H2.nx 0 0 3))∧slot A3.tm 11=.one (.o (.sl id g off l.length 3))∧slot A3.tm 12=.one (.i .i64 (l.length:Int))∧slot A3.tm 13=.one (.i .i64 (i:Int))∧A3.nt=45∧A3.dfr=[])
    ⟨((Fr.refl _).new _).mod _ (.inl (Nat.le_refl _)),?_⟩ ?_
   ·exact qZ (qA t2 (qA t4 (qA t5 (qA t11 (qA t12 (qA t13 (qA hnt (qA hdf bZ))))))))
   clear t2 t4 t5 t11 t12 t13 hnt hdf A
   rintro A H3 ⟨g3,n3,rx,t2,t4,t5,t7,t8,t11,t12,t13,hnt,hdf⟩
   have rb3:H3.get kb=some (.arr [.o (.str n),u] 97 0 0):=by rw[g3.get _ n2 not_false];exact rb
   have n23:kb<H3.nx:=Nat.lt_of_lt_of_le n2 g3.nx
   refine qG (qA ad (qA t2 (qA t8 (qA hnt (qA rb3 (qA n23 (qA rx (qA n3 (qA bP (qA er (qA aL (qA bZ RE)))))))))))) fun K hK=>?_
   refine WE.con (MV H3 n u us x.2.1 (hu2.gr g3)) fun w H4 g4 hw=>?_
   subst hw
   have rx4:H4.get H2.nx=some (.arr (gpC x) 181 0 0):=by rw[g4.get _ n3 not_false];exact rx
   have n4:H2.nx<H4.nx:=Nat.lt_of_lt_of_le n3 g4.nx
   have g24:Gr H1 H4:=g2.gr (g3.gr g4)
   have g4':Gr H H4:=g1.gr g24
   refine qS (qA ad hnt) ?_
   refine hK _ _ ?_
   clear hK K
   generalize jl n us x.2.1=ve at hr ⊢
   obtain ⟨w,e0⟩:=ve
   simp only at hr ⊢
   by_cases he0:e0=0
   case neg=>
    have ce:(e0 != 0)=true:=bne_iff_ne.2 he0
    rw[if_pos he0] at hr
    refine qW (qA ad (qA hnt ce)) ?_
    refine qE fun Kx Ky hx hy=>?_
    refine db (fun _=>hx ?_) (fun h=>absurd ce (by simpa using h))
    clear hx hy Kx Ky
    refine qW hnt ?_
    exact q4 _ _ (k4 _ _ (fin 0 0 e0 _ _ qp qp qp (qd hdf) g4' hr))
   rw[if_neg (fun h=>h he0)] at hr
   refine qW (qA ad (qA hnt he0)) ?_
   refine qY ?_
   refine R1.aS ?_
   by_cases hbad:(0<i)∧b≤w
   ·have c0:((0:Int)<(i:Int))=True:=eq_true (by omega)
    have c1:(b≤w)=True:=eq_true hbad.2
    rw[if_pos ⟨decide_eq_true hbad.1,hbad.2⟩] at hr
    refine qW (qA ad (qA t5 (qA t7 (qA hnt (qA c0 c1))))) ?_
    refine qY ?_
    refine qW hnt ?_
    exact q4 _ _ (k4 _ _ (fin 0 0 22 _ _ qp qp qp (qd hdf) g4' hr))
   rw[if_neg (fun h=>hbad ⟨of_decide_eq_true h.1,h.2⟩)] at hr
   have next:∀ (A2:ab),slot A2.tm 2=.one (.o (.ptr kb 0 0 2))→slot A2.tm 4=.one (.i .i64 (IntKind.i64.wrap (a+IntKind.i64.wrap (x.1*w))))→slot A2.tm 5=.one (.i .i64 w)→slot A2.tm 11=.one (.o (.sl id g off l.length 3))→slot A2.tm 12=.one (.i .i64 (l.length:Int))→slot A2.tm 13=.one (.i .i64 (i:Int))→A2.nt=45→A2.dfr=[]→K2 .normal A2 H4:=by
    intro A2 s2 s4 s5 s11 s12 s13 hn hd
    refine q1 _ _ ?_
    refine qW (qA hn (qA s13 hw2)) ?_
    refine ⟨l.length - (i+1),by omega,i+1,_,w,rfl,hlt,g24,(by rw[decide_eq_true (Nat.succ_pos i)];exact hr),?_,?_,?_,?_,?_,?_,?_,?_⟩
    ·simp only[aa,Nat.reduceEqDiff,reduceIte,s2]
    ·simp only[aa,Nat.reduceEqDiff,reduceIte,s4]
    ·simp only[aa,Nat.reduceEqDiff,reduceIte,s5]
    ·simp only[aa,Nat.reduceEqDiff,reduceIte,s11]
    ·simp only[aa,Nat.reduceEqDiff,reduceIte,s12]
    ·simp only[aa,Nat.reduceEqDiff,reduceIte]
    ·simp only[aA,hn]
    ·simp only[ag,hd]
   clear q1
   by_cases h0i:0<i
   ·have c0:((0:Int)<(i:Int))=True:=eq_true (by omega)
    have c1:(b≤w)=False:=eq_false fun h=>hbad ⟨h0i,h⟩
    refine qW (qA ad (qA t5 (qA t7 (qA hnt (qA c0 c1))))) ?_
    refine qY ?_
    refine qW (qA ad (qA t4 (qA t8 (qA hnt (qA rx4 (qA n4 (qA bZ (qA dX cj)))))))) ?_
    refine next _ ?_ ?_ ?_ ?_ ?_ ?_ ?_ ?_ <;> simp only[aa,Nat.reduceEqDiff,reduceIte,aA,ag,t2,t11,t12,t13,hnt,hdf]
   ·have c0:((0:Int)<(i:Int))=False:=eq_false (by omega)
    refine qW (qA ad (qA t5 (qA t7 (qA hnt c0)))) ?_
    refine qY ?_
    refine qW (qA ad (qA t4 (qA t8 (qA hnt (qA rx4 (qA n4 (qA bZ (qA dX cj)))))))) ?_
    refine next _ ?_ ?_ ?_ ?_ ?_ ?_ ?_ ?_ <;> simp only[aa,Nat.reduceEqDiff,reduceIte,aA,ag,t2,t11,t12,t13,hnt,hdf]
  ·clear hx hy Kx Ky
   have hie:i=l.length:=by omega
   rw[hie,List.drop_length,ef] at hr
   refine qW hnt ?_
   refine k2 _ _ ?_
   refine qW (qA hnt (qA t4 t5)) ?_
   exact fin a b 0 _ _ qp qp qp (qd hdf) g2' hr
 ·simp only[aa,Nat.reduceEqDiff,reduceIte,aA,ag,t2,t4,t5,hnt,hdf,and_self,true_and]
  exact ⟨rfl,trivial⟩
end Go.Proofs.YtnhbkodnmkojpaaGreat
namespace Go.Proofs.YtnhbkodnmkojpaaGreat
open Go Go.Eng
theorem FA (H:Hp) (n:List UInt8) (u v:AC) (us:List Pr) (l:List Gp) (hu:SlP H u us) (hv:aD H v l) (hL:l.length≤1000000):
  Con E2 90 [.agg [.o (.str n),u],.one v] H (fun _=>False) fun r _=>r=.tup [(false,[.i .i64 (ef n us false 0 0 l).1]),(false,[.i .i64 (ef n us false 0 0 l).2.1]),(false,[.i .i64 (ef n us false 0 0 l).2.2])]:=by
 refine Con.of rfl fun lg=>?_
 have hu:SlP ⟨H.t,H.nx,lg⟩ u us:=hu
 have hv:aD ⟨H.t,H.nx,lg⟩ v l:=hv
 generalize (⟨H.t,H.nx,lg⟩:Hp)=H at hu hv ⊢
 refine C1.body (E:=E2) (nt:=50) (res:=[.tmp 4,.tmp 5,.tmp 6]) Tryz.func90 rfl rfl rfl rfl rfl fun tm hargs=>?_
 have h0:=hargs 0 _ rfl
 have h1:=hargs 1 _ rfl
 clear hargs
 have fin:∀ (a b c:Int) (A:ab) (H3:Hp),slot A.tm 4=.one (.i .i64 a)→slot A.tm 5=.one (.i .i64 b)→slot A.tm 6=.one (.i .i64 c)→A.dfr=[]→Gr H H3→(a,b,c)=ef n us false 0 0 l →
   ∃ w H4,ao E2 [.tmp 4,.tmp 5,.tmp 6] (.ret,A,H3)=.ok [(w,H4)]∧Gr H H4∧∀ _:List Nat,w=.tup [(false,[.i .i64 (ef n us false 0 0 l).1]),(false,[.i .i64 (ef n us false 0 0 l).2.1]),(false,[.i .i64 (ef n us false 0 0 l).2.2])]:=fun a b c A H3 h1 h2 h3 hd hg hv=>
  ⟨_,H3,ny (.i .i64 a) (.i .i64 b) (.i .i64 c) (.inr rfl) hd h1 h2 h3,hg,fun _=>by rw[←hv]⟩
 generalize hr0:ef n us false 0 0 l=r0 at fin
 refine qG (qA ad h0) fun K hK=>?_
 refine hK _ _ ?_
 clear hK K
 refine R1.gen (fun A1 H1=>Gr H H1∧H.nx<H1.nx∧H1.get H.nx=some (.arr [.o (.str n),u] 97 0 0)∧slot A1.tm 1=.one v∧slot A1.tm 2=.one (.o (.ptr H.nx 0 0 2))∧A1.nt=50∧A1.dfr=[])
  ⟨(Fr.refl _).new _,?_⟩ ?_
 ·exact qZ h1
 rintro A1 H1 ⟨g1,n1,rb,t1,t2,hnt,hdf⟩
 clear h0 h1 tm
 obtain ⟨kb,hkb⟩:∃ k,k=H.nx:=⟨_,rfl⟩
 rw[←hkb] at n1 rb t2
 have hu1:=hu.gr g1
 have hv1:=hv.gr g1
 refine qW (qA ad hnt) ?_
 refine R1.aJ fun K k1 k2 k3 k4=>?_
 refine R1.loop (fun k A H2=>∃ (i:Nat) (a b:Int),k=l.length - i∧i≤l.length∧Gr H1 H2∧ef n us (decide (0<i)) a b (l.drop i)=r0∧slot A.tm 2=.one (.o (.ptr kb 0 0 2))∧slot A.tm 1=.one v∧slot A.tm 7=.one (.i .i64 a)∧slot A.tm 8=.one (.i .i64 b)∧slot A.tm 9=.one (.i .i64 (i:Int))∧A.nt=50∧A.dfr=[]) ?_ l.length
  ⟨0,0,0,rfl,Nat.zero_le _,Fr.refl _,hr0,?_⟩
 ·clear t1 t2 hnt hdf A1
  rintro k A H2 ⟨i,a,b,rfl,hi,g2,hr,t2,t1,t7,t8,t9,hnt,hdf⟩
  have hu2:=hu1.gr g2
  have hv2:=hv1.gr g2
  have g2':=g1.gr g2
  have rb:H2.get kb=some (.arr [.o (.str n),u] 97 0 0):=by rw[g2.get _ n1 not_false];exact rb
  have n2:kb<H2.nx:=Nat.lt_of_lt_of_le n1 g2.nx
  refine qW (qA ad (qA t1 (qA t9 (qA hnt (qA bI (qA hv2.len hv2.lt)))))) ?_
  refine qE fun Kx Ky hx hy=>?_
  refine db (fun hc=>hx ?_) (fun hc=>hy ?_)
  ·clear hx hy Kx Ky
   have hlt:i<l.length:=by omega
   obtain ⟨id,g,off,cells,rfl,hid,hgr,hat⟩:=hv2.open (by omega)
   have ex:l[i]?=some l[i]:=List.getElem?_eq_getElem hlt
   have hdr:l.drop i=l[i]::l.drop (i+1):=List.drop_eq_getElem_cons hlt
   generalize l[i]=x at ex hdr
   have hx1:=hat i x ex
   have hw2:IntKind.i64.wrap ((i:Int)+1)=((i+1:Nat):Int):=by rw[aX (by omega) (by omega)];omega
   rw[hdr,ef] at hr
   refine qV ?_
   refine R1.aJ fun K2 q1 q2 q3 q4=>?_
   refine qG (qA ad (qA t1 (qA t2 (qA t9 (qA hnt (qA rb (qA n2 (qA bP (qA cd (qA (ixC hlt) (qA hid (qA hgr (qA er (qA aL (qA hx1.f2 (qA hx1.le2 MU)))))))))))))))) fun K hK=>?_
   refine WE.con (IH H2 n u us x.2.1 hu2) fun w H4 g4 hw=>?_
   subst hw
   have hid4:id<H4.nx:=Nat.lt_of_lt_of_le hid g4.nx
   have hgr4:rowOf (H4.get id) g=some cells:=by rw[g4.get _ hid not_false];exact hgr
   have g24:Gr H1 H4:=g2.gr g4
   have g4':Gr H H4:=g1.gr g24
   refine qS (qA ad hnt) ?_
   refine hK _ _ ?_
   clear hK K
   generalize jl n us x.2.1=ve at hr ⊢
   obtain ⟨w,e0⟩:=ve
   simp only at hr ⊢
   by_cases he0:e0=0
   case neg=>
    have ce:(e0 != 0)=true:=bne_iff_ne.2 he0
    rw[if_pos he0] at hr
    refine qW (qA ad (qA hnt ce)) ?_
    refine qE fun Kx Ky hx hy=>?_
    refine db (fun _=>hx ?_) (fun h=>absurd ce (by simpa using h))
    clear hx hy Kx Ky
    refine qW hnt ?_
    exact q4 _ _ (k4 _ _ (fin 0 0 e0 _ _ qp qp qp (qd hdf) g4' hr))
   rw[if_neg (fun h=>h he0)] at hr
   refine qW (qA ad (qA hnt he0)) ?_
   refine qY ?_
   refine R1.aS ?_
   by_cases hbad:(0<i)∧b≤w
   ·have c0:((0:Int)<(i:Int))=True:=eq_true (by omega)
    have c1:(b≤w)=True:=eq_true hbad.2
    rw[if_pos ⟨decide_eq_true hbad.1,hbad.2⟩] at hr
    refine qW (qA ad (qA t8 (qA t9 (qA hnt (qA c0 c1))))) ?_
    refine qY ?_
    refine qW hnt ?_
    exact q4 _ _ (k4 _ _ (fin 0 0 22 _ _ qp qp qp (qd hdf) g4' hr))
   rw[if_neg (fun h=>hbad ⟨of_decide_eq_true h.1,h.2⟩)] at hr
   have next:∀ (A2:ab),slot A2.tm 2=.one (.o (.ptr kb 0 0 2))→slot A2.tm 7=.one (.i .i64 (IntKind.i64.wrap (a+IntKind.i64.wrap (x.1*w))))→slot A2.tm 8=.one (.i .i64 w)→slot A2.tm 1=.one (.o (.sl id g off l.length 3))→slot A2.tm 9=.one (.i .i64 (i:Int))→A2.nt=50→A2.dfr=[]→K2 .normal A2 H4:=by
    intro A2 s2 s7 s8 s1 s9 hn hd
    refine q1 _ _ ?_
    refine qW (qA hn (qA s9 hw2)) ?_
    refine ⟨l.length - (i+1),by omega,i+1,_,w,rfl,hlt,g24,(by rw[decide_eq_true (Nat.succ_pos i)];exact hr),?_,?_,?_,?_,?_,?_,?_⟩
    ·simp only[aa,Nat.reduceEqDiff,reduceIte,s2]
    ·simp only[aa,Nat.reduceEqDiff,reduceIte,s1]
    ·simp only[aa,Nat.reduceEqDiff,reduceIte,s7]
    ·simp only[aa,Nat.reduceEqDiff,reduceIte,s8]
    ·simp only[aa,Nat.reduceEqDiff,reduceIte]
    ·simp only[aA,hn]
    ·simp only[ag,hd]
   clear q1
   by_cases h0i:0<i
   ·have c0:((0:Int)<(i:Int))=True:=eq_true (by omega)
    have c1:(b≤w)=False:=eq_false fun h=>hbad ⟨h0i,h⟩
    refine qW (qA ad (qA t8 (qA t9 (qA hnt (qA c0 c1))))) ?_
    refine qY ?_
    refine qW (qA ad (qA t1 (qA t7 (qA t9 (qA hnt (qA cd (qA (ixC hlt) (qA hid4 (qA hgr4 (qA dX (qA cj (qA hx1.f1 hx1.le1)))))))))))) ?_
    refine next _ ?_ ?_ ?_ ?_ ?_ ?_ ?_ <;> simp only[aa,Nat.reduceEqDiff,reduceIte,aA,ag,t2,t1,t9,hnt,hdf]
   ·have c0:((0:Int)<(i:Int))=False:=eq_false (by omega)
    refine qW (qA ad (qA t8 (qA t9 (qA hnt c0)))) ?_
    refine qY ?_
    refine qW (qA ad (qA t1 (qA t7 (qA t9 (qA hnt (qA cd (qA (ixC hlt) (qA hid4 (qA hgr4 (qA dX (qA cj (qA hx1.f1 hx1.le1)))))))))))) ?_
    refine next _ ?_ ?_ ?_ ?_ ?_ ?_ ?_ <;> simp only[aa,Nat.reduceEqDiff,reduceIte,aA,ag,t2,t1,t9,hnt,hdf]
  ·clear hx hy Kx Ky
   have hie:i=l.length:=by omega
   rw[hie,List.drop_length,ef] at hr
   refine qW hnt ?_
   refine k2 _ _ ?_
   refine qW (qA hnt (qA t7 t8)) ?_
   exact fin a b 0 _ _ qp qp qp (qd hdf) g2' hr
 ·simp only[aa,Nat.reduceEqDiff,reduceIte,aA,ag,t1,t2,hnt,hdf,and_self,true_and]
  exact ⟨rfl,trivial⟩
end Go.Proofs.YtnhbkodnmkojpaaGreat
namespace Go.Proofs.YtnhbkodnmkojpaaGreat
open Go Go.Eng
theorem Hw:al Tryz.prog 85=true:=by kernel_rfl
theorem FJ:al Tryz.prog 41=true:=by kernel_rfl
theorem zC {x:Nm} (h:dS x=0):x.1.length≤24∧x.2.length≤24:=by
 unfold dS at h
 by_cases hc:(24:Int)<x.1.length∨(24:Int)<x.2.length
 ·rw[if_pos hc] at h;cases h
 ·omega
noncomputable def dA (n:List UInt8) (us:List Pr) (x:Nm):Int×Int:=
 if aP n us≠0 then (0,aP n us) else if dS x≠0 then (0,dS x) else if kZ x.1=true then (0,24) else
 if (ef n us false 0 0 x.1).2.2≠0 then (0,(ef n us false 0 0 x.1).2.2) else if (1099511627776:Int)<(ef n us false 0 0 x.1).1 then (0,6) else
 if (ef n us false 0 0 x.2).2.2≠0 then (0,(ef n us false 0 0 x.2).2.2) else if (ef n us false 0 0 x.1).2.1≤(ef n us false 0 0 x.2).1 then (0,23) else
 (IntKind.i64.wrap ((ef n us false 0 0 x.1).1 - (ef n us false 0 0 x.2).1),0)
theorem CC (H:Hp) (n:List UInt8) (u p q:AC) (us:List Pr) (x:Nm) (hu:SlP H u us) (hp:aD H p x.1) (hq:aD H q x.2):
  Con E2 85 [.agg [.o (.str n),u],.agg [p,q]] H (fun _=>False) fun r _=>r=.tup [(false,[.i .i64 (dA n us x).1]),(false,[.i .i64 (dA n us x).2])]:=by
 refine Con.of rfl fun lg=>?_
 have hu:SlP ⟨H.t,H.nx,lg⟩ u us:=hu
 have hp:aD ⟨H.t,H.nx,lg⟩ p x.1:=hp
 have hq:aD ⟨H.t,H.nx,lg⟩ q x.2:=hq
 generalize (⟨H.t,H.nx,lg⟩:Hp)=H at hu hp hq ⊢
 refine C1.body (E:=E2) (nt:=56) (res:=[.tmp 4,.tmp 5]) Tryz.func85 rfl rfl rfl rfl rfl fun tm hargs=>?_
 have h0:=hargs 0 _ rfl
 have h1:=hargs 1 _ rfl
 clear hargs
 have fin:∀ (v w:Int) (A:ab) (H3:Hp),slot A.tm 4=.one (.i .i64 v)→slot A.tm 5=.one (.i .i64 w)→A.dfr=[]→Gr H H3→(v,w)=dA n us x →
   ∃ w H4,ao E2 [.tmp 4,.tmp 5] (.ret,A,H3)=.ok [(w,H4)]∧Gr H H4∧∀ _:List Nat,w=.tup [(false,[.i .i64 (dA n us x).1]),(false,[.i .i64 (dA n us x).2])]:=fun v w A H3 h1 h2 hd hg hv=>
  ⟨_,H3,aZ (.i .i64 v) (.i .i64 w) (.inr rfl) hd h1 h2,hg,fun _=>by rw[←hv]⟩
 generalize hr0:dA n us x=r0 at fin
 unfold dA at hr0
 refine qG (qA ad (qA h0 h1)) fun K hK=>?_
 refine hK _ _ ?_
 clear hK K
 refine R1.gen (fun A1 H1=>Gr H H1∧H.nx+1<H1.nx∧H1.get H.nx=some (.arr [.o (.str n),u] 97 0 0)∧H1.get (H.nx+1)=some (.arr [p,q] 66 0 0)∧slot A1.tm 2=.one (.o (.ptr H.nx 0 0 2))∧slot A1.tm 3=.one (.o (.ptr (H.nx+1) 0 0 2))∧A1.nt=56∧A1.dfr=[])
  ⟨((Fr.refl _).new _).new _,?_⟩ ?_
 ·exact qU
 rintro A1 H1 ⟨g1,n1,ra,rb,t2,t3,hnt,hdf⟩
 clear h0 h1 tm
 obtain ⟨k1,hk1⟩:∃ k,k=H.nx:=⟨_,rfl⟩
 obtain ⟨k2,hk2⟩:∃ k,k=H.nx+1:=⟨_,rfl⟩
 rw[←hk2] at n1 rb t3
 rw[←hk1] at ra t2
 have m1:k1<H1.nx:=by omega
 clear hk1 hk2
 have hu1:=hu.gr g1
 have hp1:=hp.gr g1
 have hq1:=hq.gr g1
 refine qG (qA ad (qA t2 (qA hnt (qA ra (qA m1 (qA bP mu)))))) fun K hK=>?_
 refine WE.con (jF H1 n u us hu1) fun v H2 g2 hv=>?_
 subst hv
 have ra:=(g2.get _ m1 not_false).trans ra
 have rb:=(g2.get _ n1 not_false).trans rb
 have m1:=Nat.lt_of_lt_of_le m1 g2.nx
 have n1:=Nat.lt_of_lt_of_le n1 g2.nx
 have hu2:=hu1.gr g2
 have hp2:=hp1.gr g2
 have hq2:=hq1.gr g2
 have g2:=g1.gr g2
 refine qS (qA ad hnt) ?_
 refine hK _ _ ?_
 clear hK K
 generalize aP n us=e0 at hr0 ⊢
 by_cases he0:e0=0
 case neg=>
  have ce:(e0 != 0)=true:=bne_iff_ne.2 he0
  rw[if_pos he0] at hr0
  refine qW (qA ad (qA hnt ce)) ?_
  refine qE fun Kx Ky hx hy=>?_
  refine db (fun _=>hx ?_) (fun h=>absurd ce (by simpa using h))
  clear hx hy Kx Ky
  refine qW hnt ?_
  exact fin (0) (e0) _ _ qp qp (qd hdf) g2 hr0
 rw[if_neg (fun h=>h he0)] at hr0
 refine qW (qA ad (qA hnt he0)) ?_
 refine qY ?_
 refine R1.aS ?_
 refine qG (qA ad (qA t3 (qA hnt (qA rb (qA n1 (qA iI sd)))))) fun K hK=>?_
 refine WE.con (pk H2 p q x hp2 hq2) fun v H3 g3 hv=>?_
 subst hv
 have ra:=(g3.get _ m1 not_false).trans ra
 have rb:=(g3.get _ n1 not_false).trans rb
 have m1:=Nat.lt_of_lt_of_le m1 g3.nx
 have n1:=Nat.lt_of_lt_of_le n1 g3.nx
 have hu3:=hu2.gr g3
 have hp3:=hp2.gr g3
 have hq3:=hq2.gr g3
 have g3:=g2.gr g3
 have hlen:=@zC x
 refine qS (qA ad hnt) ?_
 refine hK _ _ ?_
 clear hK K
 generalize dS x=e1 at hr0 hlen ⊢
 by_cases he1:e1=0
 case neg=>
  have ce:(e1 != 0)=true:=bne_iff_ne.2 he1
  rw[if_pos he1] at hr0
  refine qW (qA ad (qA hnt ce)) ?_
  refine qE fun Kx Ky hx hy=>?_
  refine db (fun _=>hx ?_) (fun h=>absurd ce (by simpa using h))
  clear hx hy Kx Ky
  refine qW hnt ?_
  exact fin (0) (e1) _ _ qp qp (qd hdf) g3 hr0
 rw[if_neg (fun h=>h he1)] at hr0
 obtain ⟨hl1,hl2⟩:=hlen he1
 refine qW (qA ad (qA hnt he1)) ?_
 refine qY ?_
 refine R1.aS ?_
 refine qG (qA ad (qA t3 (qA hnt (qA rb (qA n1 (qA bc (qA bg wZ))))))) fun K hK=>?_
 refine WE.con (uI H3 p x.1 hp3 (by omega)) fun v H4 g4 hv=>?_
 subst hv
 have ra:=(g4.get _ m1 not_false).trans ra
 have rb:=(g4.get _ n1 not_false).trans rb
 have m1:=Nat.lt_of_lt_of_le m1 g4.nx
 have n1:=Nat.lt_of_lt_of_le n1 g4.nx
 have hu4:=hu3.gr g4
 have hp4:=hp3.gr g4
 have hq4:=hq3.gr g4
 have g4:=g3.gr g4
 refine qS (qA ad hnt) ?_
 refine hK _ _ ?_
 clear hK K
 cases hb:kZ x.1 with
 | true=>
  rw[if_pos hb] at hr0
  refine qY ?_
  refine qW hnt ?_
  exact fin (0) (24) _ _ qp qp (qd hdf) g4 hr0
 | false=>
 rw[if_neg (by rw[hb];exact Bool.false_ne_true)] at hr0
 refine qY ?_
 refine R1.aS ?_
 refine qG (qA ad (qA t2 (qA t3 (qA hnt (qA ra (qA m1 (qA rb (qA n1 (qA bP (qA bc (qA bg ET))))))))))) fun K hK=>?_
 refine WE.con (yU H4 n u p us x.1 hu4 hp4 (by omega)) fun v H5 g5 hv=>?_
 subst hv
 have ra:=(g5.get _ m1 not_false).trans ra
 have rb:=(g5.get _ n1 not_false).trans rb
 have m1:=Nat.lt_of_lt_of_le m1 g5.nx
 have n1:=Nat.lt_of_lt_of_le n1 g5.nx
 have hu5:=hu4.gr g5
 have hq5:=hq4.gr g5
 have g5:=g4.gr g5
 refine qS (qA ad hnt) ?_
 refine hK _ _ ?_
 clear hK K
 generalize ef n us false 0 0 x.1=s1 at hr0 ⊢
 obtain ⟨a1,b1,c1⟩:=s1
 simp only at hr0 ⊢
 by_cases hc1:c1=0
 case neg=>
  have ce:(c1 != 0)=true:=bne_iff_ne.2 hc1
  rw[if_pos hc1] at hr0
  refine qW (qA ad (qA hnt ce)) ?_
  refine qE fun Kx Ky hx hy=>?_
  refine db (fun _=>hx ?_) (fun h=>absurd ce (by simpa using h))
  clear hx hy Kx Ky
  refine qW hnt ?_
  exact fin (0) (c1) _ _ qp qp (qd hdf) g5 hr0
 rw[if_neg (fun h=>h hc1)] at hr0
 refine qW (qA ad (qA hnt hc1)) ?_
 refine qY ?_
 refine R1.aS ?_
 by_cases hbig:(1099511627776:Int)<a1
 ·have cb:((1099511627776:Int)<a1)=True:=eq_true hbig
  rw[if_pos hbig] at hr0
  refine qW (qA ad (qA hnt cb)) ?_
  refine qY ?_
  refine qW hnt ?_
  exact fin (0) (6) _ _ qp qp (qd hdf) g5 hr0
 have cb:((1099511627776:Int)<a1)=False:=eq_false hbig
 rw[if_neg hbig] at hr0
 refine qW (qA ad (qA hnt cb)) ?_
 refine qY ?_
 refine R1.aS ?_
 refine qG (qA ad (qA t2 (qA t3 (qA hnt (qA ra (qA m1 (qA rb (qA n1 (qA bP (qA bT (qA bg ET))))))))))) fun K hK=>?_
 refine WE.con (yU H5 n u q us x.2 hu5 hq5 (by omega)) fun v H6 g6 hv=>?_
 subst hv
 have g6:=g5.gr g6
 refine qS (qA ad hnt) ?_
 refine hK _ _ ?_
 clear hK K
 generalize ef n us false 0 0 x.2=s2 at hr0 ⊢
 obtain ⟨a2,b2,c2⟩:=s2
 simp only at hr0 ⊢
 by_cases hc2:c2=0
 case neg=>
  have ce:(c2 != 0)=true:=bne_iff_ne.2 hc2
  rw[if_pos hc2] at hr0
  refine qW (qA ad (qA hnt ce)) ?_
  refine qE fun Kx Ky hx hy=>?_
  refine db (fun _=>hx ?_) (fun h=>absurd ce (by simpa using h))
  clear hx hy Kx Ky
  refine qW hnt ?_
  exact fin (0) (c2) _ _ qp qp (qd hdf) g6 hr0
 rw[if_neg (fun h=>h hc2)] at hr0
 refine qW (qA ad (qA hnt hc2)) ?_
 refine qY ?_
 refine R1.aS ?_
 by_cases hge:b1≤a2
 ·have cg:(b1≤a2)=True:=eq_true hge
  rw[if_pos hge] at hr0
  refine qW (qA ad (qA hnt cg)) ?_
  refine qY ?_
  refine qW hnt ?_
  exact fin (0) (23) _ _ qp qp (qd hdf) g6 hr0
 have cg:(b1≤a2)=False:=eq_false hge
 rw[if_neg hge] at hr0
 refine qW (qA ad (qA hnt cg)) ?_
 refine qY ?_
 refine qW hnt ?_
 exact fin (IntKind.i64.wrap (a1 - a2)) (0) _ _ qp qp (qd hdf) g6 hr0
theorem BT (H:Hp) (n:List UInt8) (u p q:AC) (us:List Pr) (x:Nm) (hu:SlP H u us) (hp:aD H p x.1) (hq:aD H q x.2):
  Con E2 41 [.agg [.o (.str n),u],.agg [p,q]] H (fun _=>False) fun r _=>r=.tup [(false,[.i .i64 (dA n us x).1]),(false,[.i .i64 (dA n us x).2])]:=by
 refine Con.of rfl fun lg=>?_
 have hu:SlP ⟨H.t,H.nx,lg⟩ u us:=hu
 have hp:aD ⟨H.t,H.nx,lg⟩ p x.1:=hp
 have hq:aD ⟨H.t,H.nx,lg⟩ q x.2:=hq
 generalize (⟨H.t,H.nx,lg⟩:Hp)=H at hu hp hq ⊢
 refine C1.body (E:=E2) (nt:=56) (res:=[.tmp 4,.tmp 5]) Tryz.func41 rfl rfl rfl rfl rfl fun tm hargs=>?_
 have h0:=hargs 0 _ rfl
 have h1:=hargs 1 _ rfl
 clear hargs
 have fin:∀ (v w:Int) (A:ab) (H3:Hp),slot A.tm 4=.one (.i .i64 v)→slot A.tm 5=.one (.i .i64 w)→A.dfr=[]→Gr H H3→(v,w)=dA n us x →
   ∃ w H4,ao E2 [.tmp 4,.tmp 5] (.ret,A,H3)=.ok [(w,H4)]∧Gr H H4∧∀ _:List Nat,w=.tup [(false,[.i .i64 (dA n us x).1]),(false,[.i .i64 (dA n us x).2])]:=fun v w A H3 h1 h2 hd hg hv=>
  ⟨_,H3,aZ (.i .i64 v) (.i .i64 w) (.inr rfl) hd h1 h2,hg,fun _=>by rw[←hv]⟩
 generalize hr0:dA n us x=r0 at fin
 unfold dA at hr0
 refine qG (qA ad (qA h0 h1)) fun K hK=>?_
 refine hK _ _ ?_
 clear hK K
 refine R1.gen (fun A1 H1=>Gr H H1∧H.nx+1<H1.nx∧H1.get H.nx=some (.arr [.o (.str n),u] 97 0 0)∧H1.get (H.nx+1)=some (.arr [p,q] 66 0 0)∧slot A1.tm 2=.one (.o (.ptr H.nx 0 0 2))∧slot A1.tm 3=.one (.o (.ptr (H.nx+1) 0 0 2))∧A1.nt=56∧A1.dfr=[])
  ⟨((Fr.refl _).new _).new _,?_⟩ ?_
 ·exact qU
 rintro A1 H1 ⟨g1,n1,ra,rb,t2,t3,hnt,hdf⟩
 clear h0 h1 tm
 obtain ⟨k1,hk1⟩:∃ k,k=H.nx:=⟨_,rfl⟩
 obtain ⟨k2,hk2⟩:∃ k,k=H.nx+1:=⟨_,rfl⟩
 rw[←hk2] at n1 rb t3
 rw[←hk1] at ra t2
 have m1:k1<H1.nx:=by omega
 clear hk1 hk2
 have hu1:=hu.gr g1
 have hp1:=hp.gr g1
 have hq1:=hq.gr g1
 refine qG (qA ad (qA t2 (qA hnt (qA ra (qA m1 (qA bP gF)))))) fun K hK=>?_
 refine WE.con (fJ H1 n u us hu1) fun v H2 g2 hv=>?_
 subst hv
 have ra:=(g2.get _ m1 not_false).trans ra
 have rb:=(g2.get _ n1 not_false).trans rb
 have m1:=Nat.lt_of_lt_of_le m1 g2.nx
 have n1:=Nat.lt_of_lt_of_le n1 g2.nx
 have hu2:=hu1.gr g2
 have hp2:=hp1.gr g2
 have hq2:=hq1.gr g2
 have g2:=g1.gr g2
 refine qS (qA ad hnt) ?_
 refine hK _ _ ?_
 clear hK K
 generalize aP n us=e0 at hr0 ⊢
 by_cases he0:e0=0
 case neg=>
  have ce:(e0 != 0)=true:=bne_iff_ne.2 he0
  rw[if_pos he0] at hr0
  refine qW (qA ad (qA hnt ce)) ?_
  refine qE fun Kx Ky hx hy=>?_
  refine db (fun _=>hx ?_) (fun h=>absurd ce (by simpa using h))
  clear hx hy Kx Ky
  refine qW hnt ?_
  exact fin (0) (e0) _ _ qp qp (qd hdf) g2 hr0
 rw[if_neg (fun h=>h he0)] at hr0
 refine qW (qA ad (qA hnt he0)) ?_
 refine qY ?_
 refine R1.aS ?_
 refine qG (qA ad (qA t3 (qA hnt (qA rb (qA n1 (qA iI pz)))))) fun K hK=>?_
 refine WE.con (nQ H2 p q x hp2 hq2) fun v H3 g3 hv=>?_
 subst hv
 have ra:=(g3.get _ m1 not_false).trans ra
 have rb:=(g3.get _ n1 not_false).trans rb
 have m1:=Nat.lt_of_lt_of_le m1 g3.nx
 have n1:=Nat.lt_of_lt_of_le n1 g3.nx
 have hu3:=hu2.gr g3
 have hp3:=hp2.gr g3
 have hq3:=hq2.gr g3
 have g3:=g2.gr g3
 have hlen:=@zC x
 refine qS (qA ad hnt) ?_
 refine hK _ _ ?_
 clear hK K
 generalize dS x=e1 at hr0 hlen ⊢
 by_cases he1:e1=0
 case neg=>
  have ce:(e1 != 0)=true:=bne_iff_ne.2 he1
  rw[if_pos he1] at hr0
  refine qW (qA ad (qA hnt ce)) ?_
  refine qE fun Kx Ky hx hy=>?_
  refine db (fun _=>hx ?_) (fun h=>absurd ce (by simpa using h))
  clear hx hy Kx Ky
  refine qW hnt ?_
  exact fin (0) (e1) _ _ qp qp (qd hdf) g3 hr0
 rw[if_neg (fun h=>h he1)] at hr0
 obtain ⟨hl1,hl2⟩:=hlen he1
 refine qW (qA ad (qA hnt he1)) ?_
 refine qY ?_
 refine R1.aS ?_
 refine qG (qA ad (qA t3 (qA hnt (qA rb (qA n1 (qA bc (qA bg vc))))))) fun K hK=>?_
 refine WE.con (si H3 p x.1 hp3 (by omega)) fun v H4 g4 hv=>?_
 subst hv
 have ra:=(g4.get _ m1 not_false).trans ra
 have rb:=(g4.get _ n1 not_false).trans rb
 have m1:=Nat.lt_of_lt_of_le m1 g4.nx
 have n1:=Nat.lt_of_lt_of_le n1 g4.nx
 have hu4:=hu3.gr g4
 have hp4:=hp3.gr g4
 have hq4:=hq3.gr g4
 have g4:=g3.gr g4
 refine qS (qA ad hnt) ?_
 refine hK _ _ ?_
 clear hK K
 cases hb:kZ x.1 with
 | true=>
  rw[if_pos hb] at hr0
  refine qY ?_
  refine qW hnt ?_
  exact fin (0) (24) _ _ qp qp (qd hdf) g4 hr0
 | false=>
 rw[if_neg (by rw[hb];exact Bool.false_ne_true)] at hr0
 refine qY ?_
 refine R1.aS ?_
 refine qG (qA ad (qA t2 (qA t3 (qA hnt (qA ra (qA m1 (qA rb (qA n1 (qA bP (qA bc (qA bg LY))))))))))) fun K hK=>?_
 refine WE.con (FA H4 n u p us x.1 hu4 hp4 (by omega)) fun v H5 g5 hv=>?_
 subst hv
 have ra:=(g5.get _ m1 not_false).trans ra
 have rb:=(g5.get _ n1 not_false).trans rb
 have m1:=Nat.lt_of_lt_of_le m1 g5.nx
 have n1:=Nat.lt_of_lt_of_le n1 g5.nx
 have hu5:=hu4.gr g5
 have hq5:=hq4.gr g5
 have g5:=g4.gr g5
 refine qS (qA ad hnt) ?_
 refine hK _ _ ?_
 clear hK K
 generalize ef n us false 0 0 x.1=s1 at hr0 ⊢
 obtain ⟨a1,b1,c1⟩:=s1
 simp only at hr0 ⊢
 by_cases hc1:c1=0
 case neg=>
  have ce:(c1 != 0)=true:=bne_iff_ne.2 hc1
  rw[if_pos hc1] at hr0
  refine qW (qA ad (qA hnt ce)) ?_
  refine qE fun Kx Ky hx hy=>?_
  refine db (fun _=>hx ?_) (fun h=>absurd ce (by simpa using h))
  clear hx hy Kx Ky
  refine qW hnt ?_
  exact fin (0) (c1) _ _ qp qp (qd hdf) g5 hr0
 rw[if_neg (fun h=>h hc1)] at hr0
 refine qW (qA ad (qA hnt hc1)) ?_
 refine qY ?_
 refine R1.aS ?_
 by_cases hbig:(1099511627776:Int)<a1
 ·have cb:((1099511627776:Int)<a1)=True:=eq_true hbig
  rw[if_pos hbig] at hr0
  refine qW (qA ad (qA hnt cb)) ?_
  refine qY ?_
  refine qW hnt ?_
  exact fin (0) (6) _ _ qp qp (qd hdf) g5 hr0
 have cb:((1099511627776:Int)<a1)=False:=eq_false hbig
 rw[if_neg hbig] at hr0
 refine qW (qA ad (qA hnt cb)) ?_
 refine qY ?_
 refine R1.aS ?_
 refine qG (qA ad (qA t2 (qA t3 (qA hnt (qA ra (qA m1 (qA rb (qA n1 (qA bP (qA bT (qA bg LY))))))))))) fun K hK=>?_
 refine WE.con (FA H5 n u q us x.2 hu5 hq5 (by omega)) fun v H6 g6 hv=>?_
 subst hv
 have g6:=g5.gr g6
 refine qS (qA ad hnt) ?_
 refine hK _ _ ?_
 clear hK K
 generalize ef n us false 0 0 x.2=s2 at hr0 ⊢
 obtain ⟨a2,b2,c2⟩:=s2
 simp only at hr0 ⊢
 by_cases hc2:c2=0
 case neg=>
  have ce:(c2 != 0)=true:=bne_iff_ne.2 hc2
  rw[if_pos hc2] at hr0
  refine qW (qA ad (qA hnt ce)) ?_
  refine qE fun Kx Ky hx hy=>?_
  refine db (fun _=>hx ?_) (fun h=>absurd ce (by simpa using h))
  clear hx hy Kx Ky
  refine qW hnt ?_
  exact fin (0) (c2) _ _ qp qp (qd hdf) g6 hr0
 rw[if_neg (fun h=>h hc2)] at hr0
 refine qW (qA ad (qA hnt hc2)) ?_
 refine qY ?_
 refine R1.aS ?_
 by_cases hge:b1≤a2
 ·have cg:(b1≤a2)=True:=eq_true hge
  rw[if_pos hge] at hr0
  refine qW (qA ad (qA hnt cg)) ?_
  refine qY ?_
  refine qW hnt ?_
  exact fin (0) (23) _ _ qp qp (qd hdf) g6 hr0
 have cg:(b1≤a2)=False:=eq_false hge
 rw[if_neg hge] at hr0
 refine qW (qA ad (qA hnt cg)) ?_
 refine qY ?_
 refine qW hnt ?_
 exact fin (IntKind.i64.wrap (a1 - a2)) (0) _ _ qp qp (qd hdf) g6 hr0
end Go.Proofs.YtnhbkodnmkojpaaGreat
namespace Go.Proofs.YtnhbkodnmkojpaaGreat
open Go Go.Eng
theorem CJ:al Tryz.prog 84=true:=by kernel_rfl
theorem Oy:al Tryz.prog 36=true:=by kernel_rfl
theorem SlI.gr {H H':Hp} {v:AC} {l:List Int} (h:SlI H v l) (hg:Gr H H'):SlI H' v l:=SlC.gr h hg
theorem SlI.len {H:Hp} {v:AC} {l:List Int} (h:SlI H v l):cS H 1 (.one v)=.val (.one (.i .i64 (l.length:Int))) H:=SlC.len h
theorem SlI.lt {H:Hp} {v:AC} {l:List Int} (h:SlI H v l):ltV (.one v) H.nx:=nj h
theorem SlI.nil {H:Hp}:SlI H (.o .nilS) []:=⟨by simp,.inl ⟨rfl,rfl⟩⟩
theorem SlI.open {H:Hp} {v:AC} {l:List Int} (h:SlI H v l) (hn:0<l.length):∃ id g off cells,v=.o (.sl id g off l.length 1)∧id<H.nx∧rowOf (H.get id) g=some cells∧∀ (i:Nat) (x:Int),l[i]?=some x→(cells.drop (off+i*1)).headD (.b false)=.i .i64 x∧off+i*1+1≤cells.length:=by
 obtain ⟨id,g,off,h1,h2,hr⟩:=SlC.pos h hn
 have hr':=hr
 obtain ⟨cells,h3,h6,h7⟩:=hr
 refine ⟨id,g,off,cells,h1,h2,h3,fun i x hx=>?_⟩
 obtain ⟨cells',k3,k6,k7⟩:=Rd.at (c:=pj) FZ hr' hx
 rw[h3] at k3
 cases k3
 refine ⟨?_,k6⟩
 cases hd:cells.drop (off+i*1) with
 | nil=>have:=congrArg List.length hd;simp at this;omega
 | cons a r=>
  rw[hd] at k7
  have:=(List.cons.inj k7).1
  rw[this];rfl
theorem xE (H:Hp) (v w:AC) (l:List Gp) (hv:aD H v l) (hw:aD H w l) (hL:l.length≤4611686018427387904):
  Con E2 84 [.one v,.one w] H (fun _=>False) fun r _=>r=.one (.b true):=by
 refine Con.of rfl fun lg=>?_
 have hv:aD ⟨H.t,H.nx,lg⟩ v l:=hv
 have hw:aD ⟨H.t,H.nx,lg⟩ w l:=hw
 generalize (⟨H.t,H.nx,lg⟩:Hp)=H at hv hw ⊢
 refine C1.body (E:=E2) (nt:=26) (res:=[.tmp 4]) Tryz.func84 rfl rfl rfl rfl rfl fun tm hargs=>?_
 have h0:=hargs 0 _ rfl
 have h1:=hargs 1 _ rfl
 clear hargs
 have hne:((l.length:Int)==(l.length:Int))=true:=by simp
 refine qW (qA ad (qA h0 (qA h1 (qA bI (qA hv.len (qA hw.len (qA hv.lt (qA hw.lt hne)))))))) ?_
 refine qY ?_
 refine qV ?_
 refine R1.aJ fun K k1 k2 k3 k4=>?_
 refine R1.loop (fun k A H2=>∃ i:Nat,k=l.length - i∧i≤l.length∧H2=H∧slot A.tm 0=.one (v)∧slot A.tm 1=.one (w)∧slot A.tm 5=.one (.i .i64 (i:Int))∧A.nt=26∧A.dfr=[]) ?_ l.length ⟨0,rfl,Nat.zero_le _,rfl,?_⟩
 ·clear h0 h1 tm
  rintro k A H2 ⟨i,rfl,hi,rfl,t0,t1,t5,hnt,hdf⟩
  refine qW (qA ad (qA t0 (qA t5 (qA hnt (qA bI (qA hv.len hv.lt)))))) ?_
  refine qE fun Kx Ky hx hy=>?_
  refine db (fun hc=>hx ?_) (fun hc=>hy ?_)
  ·clear hx hy Kx Ky
   have hlt:i<l.length:=by omega
   have ex:l[i]?=some l[i]:=List.getElem?_eq_getElem hlt
   have hdr:l.drop i=l[i]::l.drop (i+1):=List.drop_eq_getElem_cons hlt
   have htk:l.take (i+1)=l.take i++[l[i]]:=List.take_succ_eq_append_getElem hlt
   have hmem:l[i]∈l:=List.getElem_mem hlt
   generalize l[i]=x at ex hdr htk hmem
   have hw2:IntKind.i64.wrap ((i:Int)+1)=((i+1:Nat):Int):=by rw[aX (by omega) (by omega)];omega
   obtain ⟨id,g,off,cells,rfl,hid,hgr,hat⟩:=hv.open (by omega)
   obtain ⟨id',g',off',cells',rfl,hid',hgr',hat'⟩:=hw.open (by omega)
   have hx1:=hat i x ex
   have hx2:=hat' i x ex
   refine qV ?_
   refine R1.aJ fun K2 q1 q2 q3 q4=>?_
   repeat refine R1.aw ?_
   (first|refine R1.Te (by kernel_rfl) fun K hK=>?_|refine R1.SS (by kernel_rfl) fun K hK=>?_)
   simp only[qB,au,Nat.reduceLT,ad,t0,t1,t5,hnt,cd,dc,cX hlt,hid,hgr,hid',hgr',hx1.all,hx1.le,hx2.all,hx2.le,gpC,yV HD,beq_self_eq_true,Bool.and_self]
   refine hK _ _ ?_
   clear hK K
   refine qY ?_
   refine qW hnt ?_
   refine q1 _ _ ?_
   refine qW (qA hnt (qA t5 hw2)) ?_
   refine ⟨l.length - (i+1),by omega,i+1,rfl,hlt,rfl,?_⟩
   repeat' (first|(simp only[aa,Nat.reduceEqDiff,reduceIte,aA,ag,t0,t1,t5,hnt,hdf];first|done|rfl)|refine ⟨?_,?_⟩)
  ·clear hx hy Kx Ky
   refine qW hnt ?_
   refine k2 _ _ ?_
   refine qW hnt ?_
   exact ⟨_,_,ak (.b true) (.inr rfl) (qd hdf) qp,Fr.refl _,fun _=>rfl⟩
 ·repeat' (first|(simp only[aa,Nat.reduceEqDiff,reduceIte,aA,ag,h0,h1];first|done|rfl)|refine ⟨?_,?_⟩)
theorem Mq (H:Hp) (a b c d:AC) (x:Nm) (ha:aD H a x.1) (hb:aD H b x.2) (hc:aD H c x.1) (hd:aD H d x.2) (hL1:x.1.length≤4611686018427387904) (hL2:x.2.length≤4611686018427387904):
  Con E2 36 [.agg [a,b],.agg [c,d]] H (fun _=>False) fun r _=>r=.one (.b true):=by
 refine Con.of rfl fun lg=>?_
 have ha:aD ⟨H.t,H.nx,lg⟩ a x.1:=ha
 have hb:aD ⟨H.t,H.nx,lg⟩ b x.2:=hb
 have hc:aD ⟨H.t,H.nx,lg⟩ c x.1:=hc
 have hd:aD ⟨H.t,H.nx,lg⟩ d x.2:=hd
 generalize (⟨H.t,H.nx,lg⟩:Hp)=H at ha hb hc hd ⊢
 refine C1.body (E:=E2) (nt:=17) (res:=[.tmp 4]) Tryz.func36 rfl rfl rfl rfl rfl fun tm hargs=>?_
 have h0:=hargs 0 _ rfl
 have h1:=hargs 1 _ rfl
 clear hargs
 refine qG (qA ad (qA h0 h1)) fun K hK=>?_
 refine hK _ _ ?_
 clear hK K
 refine R1.gen (fun A1 H1=>Gr H H1∧H.nx+1<H1.nx∧H1.get H.nx=some (.arr [a,b] 66 0 0)∧H1.get (H.nx+1)=some (.arr [c,d] 66 0 0)∧slot A1.tm 2=.one ((.o (.ptr H.nx 0 0 2)))∧slot A1.tm 3=.one ((.o (.ptr (H.nx+1) 0 0 2)))∧A1.nt=17∧A1.dfr=[])
  ⟨((Fr.refl _).new _).new _,?_⟩ ?_
 ·exact qU
 rintro A1 H1 ⟨g1,n1,ra,rb,t2,t3,hnt,hdf⟩
 clear h0 h1 tm
 have m1:H.nx<H1.nx:=by omega
 have ha:=ha.gr g1
 have hb:=hb.gr g1
 have hc:=hc.gr g1
 have hd:=hd.gr g1
 refine qG (qA ad (qA t2 (qA t3 (qA hnt (qA ra (qA m1 (qA rb (qA n1 (qA bc (qA bg CJ)))))))))) fun K hK=>?_
 refine WE.con (xE H1 a c x.1 ha hc hL1) fun v H2 g2 hv=>?_
 subst hv
 have ra:=(g2.get _ m1 not_false).trans ra
 have m1:=Nat.lt_of_lt_of_le m1 g2.nx
 have rb:=(g2.get _ n1 not_false).trans rb
 have n1:=Nat.lt_of_lt_of_le n1 g2.nx
 have hb:=hb.gr g2
 have hd:=hd.gr g2
 refine qS (qA ad (qA t2 (qA t3 (qA hnt (qA ra (qA m1 (qA rb (qA n1 (qA bT (qA bg CJ)))))))))) ?_
 refine WE.con (xE H2 b d x.2 hb hd hL2) fun v H3 g3 hv=>?_
 subst hv
 refine qS (qA ad hnt) ?_
 refine hK _ _ ?_
 clear hK K
 refine qV ?_
 exact ⟨_,_,ak (.b true) (.inr rfl) (qd hdf) qp,(g1.gr g2).gr g3,fun _=>rfl⟩
end Go.Proofs.YtnhbkodnmkojpaaGreat
namespace Go.Proofs.YtnhbkodnmkojpaaGreat
open Go Go.Eng
abbrev Cl:=Int×List UInt8×List UInt8×Nm
def ClR (H:Hp) (c:List AC) (x:Cl):Prop:=∃ p q,c=[.i .i64 x.1,.o (.str x.2.1),.o (.str x.2.2.1),p,q]∧aD H p x.2.2.2.1∧aD H q x.2.2.2.2
theorem ClR.gr {H H':Hp} {c:List AC} {x:Cl} (h:ClR H c x) (hg:Gr H H'):ClR H' c x:=let ⟨p,q,h1,h2,h3⟩:=h;⟨p,q,h1,h2.gr hg,h3.gr hg⟩
theorem sP {k:Int} {s t:List UInt8} {p q:AC}:gM [.i .i64 k,.o (.str s),.o (.str t),p,q]=(AV.one p).ids++(AV.one q).ids:=by
 simp only[re,vw,RT,IV,List.nil_append,List.append_nil]
theorem ju:FrR ClR:=fun Y H H' c x ⟨p,q,h1,h2,h3⟩ hf hi=>by
 subst h1
 rw[sP] at hi
 exact ⟨p,q,rfl,SlC.fr h2 hf fun i h=>hi i (List.mem_append_left _ h),SlC.fr h3 hf fun i h=>hi i (List.mem_append_right _ h)⟩
theorem iv:LtR ClR:=fun H c x ⟨p,q,h1,h2,h3⟩ i hi=>by
 subst h1
 rw[sP] at hi
 rcases List.mem_append.1 hi with h|h
 ·exact h2.lt i h
 ·exact h3.lt i h
def gP (H:Hp) (v:AC) (l:List Cl):Prop:=SlR ClR 5 H v l
theorem gP.gr {H H':Hp} {v:AC} {l:List Cl} (h:gP H v l) (hg:Gr H H'):gP H' v l:=SlR.dJ h hg.nx (fun i hi=>hg.get i hi not_false) fun _ _ h=>h.gr hg
theorem gP.len {H:Hp} {v:AC} {l:List Cl} (h:gP H v l):cS H 1 (.one v)=.val (.one (.i .i64 (l.length:Int))) H:=SlR.len h
theorem gP.lt {H:Hp} {v:AC} {l:List Cl} (h:gP H v l):ltV (.one v) H.nx:=SlR.lt h
structure ClAt (H:Hp) (cells:List AC) (o:Nat) (x:Cl) (p q:AC):Prop where
 of1:aD H p x.2.2.2.1
 of2:aD H q x.2.2.2.2
 all:(cells.drop o).take 5=[.i .i64 x.1,.o (.str x.2.1),.o (.str x.2.2.1),p,q]
 le:o+5≤cells.length
 le1:o+1≤cells.length
 le2:o+1+1≤cells.length
 le3:o+2+1≤cells.length
 le4:o+3+2≤cells.length
 f1:(cells.drop o).headD (.b false)=.i .i64 x.1
 f2:(cells.drop (o+1)).headD (.b false)=.o (.str x.2.1)
 f3:(cells.drop (o+2)).headD (.b false)=.o (.str x.2.2.1)
 f4:(cells.drop (o+3)).take 2=[p,q]
theorem VC {cells:List AC} {o:Nat} {a b c d e:AC} (h:(cells.drop o).take 5=[a,b,c,d,e]):(cells.drop o).headD (.b false)=a∧(cells.drop (o+1)).headD (.b false)=b∧(cells.drop (o+2)).headD (.b false)=c∧(cells.drop (o+3)).take 2=[d,e]:=by
 rw[←List.drop_drop,←List.drop_drop,←List.drop_drop]
 match hd:cells.drop o,h with
 | x0::x1::x2::x3::x4::r,h=>
  simp only[List.take_succ_cons,List.take_zero,List.cons.injEq,and_true] at h
  obtain ⟨rfl,rfl,rfl,rfl,rfl⟩:=h
  exact ⟨rfl,rfl,rfl,rfl⟩
theorem gP.open {H:Hp} {v:AC} {l:List Cl} (h:gP H v l) (hn:0<l.length):∃ id g off cells,v=.o (.sl id g off l.length 5)∧id<H.nx∧rowOf (H.get id) g=some cells∧∀ (i:Nat) (x:Cl),l[i]?=some x→∃ p q,ClAt H cells (off+i*5) x p q:=by
 obtain ⟨id,g,off,cells,h1,h2,h3,h4⟩:=SlR.open h hn
 refine ⟨id,g,off,cells,h1,h2,h3,fun i x hx=>?_⟩
 obtain ⟨h5,c,h6,h7,p,q,rfl,h8,h9⟩:=h4 i x hx
 obtain ⟨d1,d2,d3,d4⟩:=VC h6
 exact ⟨p,q,h8,h9,h6,h5,by omega,by omega,by omega,by omega,d1,d2,d3,d4⟩
abbrev Rl:=Int×List Int
def RlR (H:Hp) (c:List AC) (x:Rl):Prop:=∃ u,c=[.i .i64 x.1,u]∧SlI H u x.2
theorem RlR.gr {H H':Hp} {c:List AC} {x:Rl} (h:RlR H c x) (hg:Gr H H'):RlR H' c x:=let ⟨u,h1,h2⟩:=h;⟨u,h1,h2.gr hg⟩
theorem sX {k:Int} {u:AC}:gM [.i .i64 k,u]=(AV.one u).ids:=by
 simp only[re,vw,RT,List.nil_append,List.append_nil]
theorem mb:FrR RlR:=fun Y H H' c x ⟨u,h1,h2⟩ hf hi=>by
 subst h1
 rw[sX] at hi
 exact ⟨u,rfl,SlC.fr h2 hf hi⟩
theorem kW:LtR RlR:=fun H c x ⟨u,h1,h2⟩ i hi=>by
 subst h1
 rw[sX] at hi
 exact h2.lt i hi
def np (H:Hp) (v:AC) (l:List Rl):Prop:=SlR RlR 2 H v l
theorem np.gr {H H':Hp} {v:AC} {l:List Rl} (h:np H v l) (hg:Gr H H'):np H' v l:=SlR.dJ h hg.nx (fun i hi=>hg.get i hi not_false) fun _ _ h=>h.gr hg
theorem np.len {H:Hp} {v:AC} {l:List Rl} (h:np H v l):cS H 1 (.one v)=.val (.one (.i .i64 (l.length:Int))) H:=SlR.len h
theorem np.lt {H:Hp} {v:AC} {l:List Rl} (h:np H v l):ltV (.one v) H.nx:=SlR.lt h
abbrev Pz:=List Cl×List Rl
theorem wT (H:Hp) (p q:AC) (x:Nm) (hp:aD H p x.1) (hq:aD H q x.2) (hL:x.1.length*32≤140737488355328∧x.2.length*32≤140737488355328):
  Con E2 74 [.agg [p,q]] H (fun _=>False) fun r H'=>∃ p' q',r=.agg [p',q']∧aD H' p' x.1∧aD H' q' x.2∧(∀ id∈(AV.one p').ids,H.nx≤id)∧∀ id∈(AV.one q').ids,H.nx≤id:=by
 refine Con.of rfl fun lg=>?_
 have hp:aD ⟨H.t,H.nx,lg⟩ p x.1:=hp
 have hq:aD ⟨H.t,H.nx,lg⟩ q x.2:=hq
 have e0:H.nx=(⟨H.t,H.nx,lg⟩:Hp).nx:=rfl
 rw[e0]
 clear e0
 generalize (⟨H.t,H.nx,lg⟩:Hp)=H at hp hq ⊢
 refine C1.body (E:=E2) (nt:=14) (res:=[.cell 2 66]) Tryz.func74 rfl rfl rfl rfl rfl fun tm hargs=>?_
 have h0:=hargs 0 _ rfl
 clear hargs
 refine qG (qA ad (qA h0 lP)) fun K hK=>?_
 refine hK _ _ ?_
 clear hK K
 refine R1.gen (fun A1 H1=>Gr H H1∧H.nx+1<H1.nx∧H1.get H.nx=some (.arr [p,q] 66 0 0)∧H1.get (H.nx+1)=some (.arr [.o .nilS,.o .nilS] 66 0 0)∧slot A1.tm 1=.one ((.o (.ptr H.nx 0 0 2)))∧slot A1.tm 2=.one ((.o (.ptr (H.nx+1) 0 0 2)))∧A1.nt=14∧A1.dfr=[])
  ⟨((Fr.refl _).new _).new _,?_⟩ ?_
 ·exact qU
 rintro A1 H1 ⟨g1,n1,r1,r2,t1,t2,hnt,hdf⟩
 clear h0 tm
 have hp1:aD H1 p x.1:=hp.gr g1
 have hq1:aD H1 q x.2:=hq.gr g1
 have l1:H.nx<H1.nx:=by omega
 have hlp:∀ id∈(AV.one p).ids,id<H.nx:=hp.lt
 have hlq:∀ id∈(AV.one q).ids,id<H.nx:=hq.lt
 obtain ⟨z,hz,hzl⟩:=Bh
 refine qG (qA ad hnt) fun K hK=>?_
 refine hK _ _ ?_
 clear hK K
 repeat refine R1.aw ?_
 (first|refine R1.kY (ms:=[0,0,2,7,0,0,32,127,255,511]) (by kernel_rfl) (by kernel_rfl) fun K hK=>?_|refine R1.e_drw (ms:=[0,0,2,7,0,0,32,127,255,511]) (by kernel_rfl) (by kernel_rfl) fun K hK=>?_)
 simp (config:={decide:=true}) only [qB,au,Nat.reduceLT,Nat.reduceLeDiff,Nat.reduceAdd,Nat.reduceSub,qD,bw,aM,ad,t1,hnt,r1,l1,bc,bT,bg]
 refine Bd cd tx hz hzl (by decide) hp1 (by omega) (fun id h=>by have:=hlp id h;simp (config:={decide:=true}) [aM,bw] <;> omega) fun v c1 H2 hv hvn g2 hc=>?_
 subst hc
 have r1:H2.get H.nx=some (.arr [p,q] 66 0 0):=by rw[g2.get _ l1 not_false];exact r1
 have l2:H.nx<H2.nx:=Nat.lt_of_lt_of_le l1 g2.nx
 have r2:H2.get (H.nx+1)=some (.arr [.o .nilS,.o .nilS] 66 0 0):=by rw[g2.get _ n1 not_false];exact r2
 have n2:H.nx+1<H2.nx:=Nat.lt_of_lt_of_le n1 g2.nx
 have hq2:aD H2 q x.2:=hq1.gr g2
 simp (config:={decide:=true}) only [qB,Nat.reduceLT,Nat.reduceAdd,qD,bw,aM,t1,hnt,r1,l2,l1]
 refine Bd cd tx hz hzl (by decide) hq2 (by omega) (fun id h=>by have:=hlq id h;simp (config:={decide:=true}) [aM,bw] <;> omega) fun w c1 H3 hw hwn g3 hc=>?_
 subst hc
 have r2:H3.get (H.nx+1)=some (.arr [.o .nilS,.o .nilS] 66 0 0):=by rw[g3.get _ n2 not_false];exact r2
 have n3:H.nx+1<H3.nx:=Nat.lt_of_lt_of_le n2 g3.nx
 have hv3:aD H3 v x.1:=aD.gr hv g3
 simp (config:={decide:=true}) only [qB,Nat.reduceLeDiff,Nat.reduceAdd,qD,bw,bJ,aM,t2,hnt,Fc lP vL,mf,lB,ow,r2,n3]
 refine hK _ _ ?_
 clear hK K
 refine qV ?_
 have n12:=g2.nx
 have keep:∀ {u:AC} {l:List Gp},aD H3 u l→(∀ id∈(AV.one u).ids,H1.nx≤id)→aD (H3.mod (H.nx+1) (.arr [v,w] 66 0 0)) u l:=fun hu hi=>SlC.fr hu (X:=fun k=>k=H.nx+1) ((Fr.refl _).mod _ (.inr rfl)) fun id h hh=>by have:=hi id h;omega
 exact ⟨_,_,cG (id:=H.nx+1) (g:=0) iI (.inr rfl) (by simp only[ag,hdf];rfl) (by simp only[aa,Nat.reduceEqDiff,reduceIte,t2]) (by rw[ai rfl];exact bm (Nat.le_refl _) (Nat.le_refl _)) (Nat.le_refl _) rfl,((g1.gr g2).gr g3).mod _ (.inl (Nat.le_succ _)),fun _=>⟨v,w,rfl,keep hv3 hvn,keep hw fun i h=>by have:=hwn i h;omega,fun id h=>by have:=hvn id h;omega,fun id h=>by have:=hwn id h;omega⟩⟩
end Go.Proofs.YtnhbkodnmkojpaaGreat
namespace Go.Proofs.YtnhbkodnmkojpaaGreat
open Go Go.Eng
theorem EW (s:List UInt8):lEq s s=true:=by rw[bU,beq_self_eq_true]
end Go.Proofs.YtnhbkodnmkojpaaGreat
namespace Go.Proofs.YtnhbkodnmkojpaaGreat
open Go Go.Eng
theorem Tj:al Tryz.prog 37=true:=by kernel_rfl
def aT (o:Option (List Lad)) (s:List UInt8):Lad:=match o with
 | none=>([],[])
 | some ls=>(gp 0 ls s).elim ([],[]) fun i=>ls.getD i ([],[])
theorem Cp.of {H:Hp} {c:List AC} {o:Option (List Lad)} {s:List UInt8} (h:Cp H c o s):∃ u,c=[.o (.str (aT o s).1),u]∧SlP H u (aT o s).2:=by
 obtain ⟨h1,h2⟩:=h
 cases o with
 | none=>exact ⟨_,h1 (by rw[Nx];decide),SlP.nil⟩
 | some ls=>
  rw[ib] at h1
  cases hi:gp 0 ls s with
  | none=>
   rw[hi] at h1
   have e:aT (some ls) s=([],[]):=by unfold aT;simp only[hi,Option.elim_none]
   rw[e]
   exact ⟨_,h1 (by decide),SlP.nil⟩
  | some i=>
   obtain ⟨x,hx,_⟩:=Ik hi
   have e:aT (some ls) s=x:=by unfold aT;simp only[hi,Option.elim_some];rw[List.getD_eq_getElem?_getD,hx];rfl
   rw[e]
   exact h2 ls i x rfl hi hx
noncomputable def nF (o:Option (List Lad)) (x:Cl):Int×Int:=if fM o x.2.2.1≠0 then (0,fM o x.2.2.1) else dA (aT o x.2.2.1).1 (aT o x.2.2.1).2 x.2.2.2
theorem Rt (H:Hp) (k p q:AC) (o:Option (List Lad)) (x:Cl) (hk:cT H k o) (hL:∀ ls,o=some ls→∀ x∈ls,x.2.length≤1000000) (hp:aD H p x.2.2.2.1) (hq:aD H q x.2.2.2.2):
  Con E2 37 [.one k,.agg [.i .i64 x.1,.o (.str x.2.1),.o (.str x.2.2.1),p,q]] H (fun _=>False) fun r _=>r=.tup [(false,[.i .i64 (nF o x).1]),(false,[.i .i64 (nF o x).2])]:=by
 refine Con.of rfl fun lg=>?_
 have hk:cT ⟨H.t,H.nx,lg⟩ k o:=cT.same (H:=H) rfl rfl hk
 have hp:aD ⟨H.t,H.nx,lg⟩ p x.2.2.2.1:=hp
 have hq:aD ⟨H.t,H.nx,lg⟩ q x.2.2.2.2:=hq
 generalize (⟨H.t,H.nx,lg⟩:Hp)=H at hk hp hq ⊢
 refine C1.body (E:=E2) (nt:=24) (res:=[.tmp 4,.tmp 5]) Tryz.func37 rfl rfl rfl rfl rfl fun tm hargs=>?_
 have h0:=hargs 0 _ rfl
 have h1:=hargs 1 _ rfl
 clear hargs
 have fin:∀ (v w:Int) (A:ab) (H3:Hp),slot A.tm 4=.one (.i .i64 v)→slot A.tm 5=.one (.i .i64 w)→A.dfr=[]→Gr H H3→(v,w)=nF o x→∃ w H4,ao E2 [.tmp 4,.tmp 5] (.ret,A,H3)=.ok [(w,H4)]∧Gr H H4∧∀ _:List Nat,w=.tup [(false,[.i .i64 (nF o x).1]),(false,[.i .i64 (nF o x).2])]:=fun v w A H3 h1 h2 hd hg hv=>⟨_,H3,aZ (.i .i64 v) (.i .i64 w) (.inr rfl) hd h1 h2,hg,fun _=>by rw[←hv]⟩
 generalize hr0:nF o x=r0 at fin
 unfold nF at hr0
 refine qG (qA ad (qA h0 h1)) fun K hK=>?_
 refine hK _ _ ?_
 clear hK K
 refine R1.gen (fun A1 H1=>Gr H H1∧H.nx<H1.nx∧H1.get H.nx=some (.arr [.i .i64 x.1,.o (.str x.2.1),.o (.str x.2.2.1),p,q] 84 0 0)∧slot A1.tm 0=.one (k)∧slot A1.tm 3=.one ((.o (.ptr H.nx 0 0 5)))∧A1.nt=24∧A1.dfr=[])
  ⟨(Fr.refl _).new _,?_⟩ ?_
 ·exact qZ h0
 rintro A1 H1 ⟨g1,m1,rx,t0,t3,hnt,hdf⟩
 clear h0 h1 tm
 obtain ⟨N,hN⟩:∃ N,N=H.nx:=⟨_,rfl⟩
 rw[←hN] at m1 rx t3
 have hk:=hk.gr g1
 have hp:=hp.gr g1
 have hq:=hq.gr g1
 refine qG (qA ad (qA t0 (qA t3 (qA hnt (qA rx (qA m1 (qA qK (qA aL mI)))))))) fun K hK=>?_
 refine WE.con (kG H1 k o x.2.2.1 hk hL) fun w H2 g2 ⟨c,hw,ha,hcl⟩=>?_
 subst hw
 have rx:=(g2.get _ m1 not_false).trans rx
 have m1:=Nat.lt_of_lt_of_le m1 g2.nx
 have hp:=hp.gr g2
 have hq:=hq.gr g2
 have g2:=g1.gr g2
 refine qS (qA ad (qA hnt (qA dI (qA fu hcl)))) ?_
 refine hK _ _ ?_
 clear hK K
 obtain ⟨u,rfl,hu⟩:=ha.of
 clear hcl
 refine R1.gen (fun A3 H3=>Gr H2 H3∧H2.nx<H3.nx∧H3.get H2.nx=some (.arr [.o (.str (aT o x.2.2.1).1),u] 97 0 0)∧slot A3.tm 3=.one ((.o (.ptr N 0 0 5)))∧slot A3.tm 6=.one ((.o (.ptr H2.nx 0 0 2)))∧slot A3.tm 7=.one (.i .i64 ((fM o x.2.2.1):Int))∧A3.nt=24∧A3.dfr=[])
  ⟨((Fr.refl _).new _).mod _ (.inl (Nat.le_refl _)),?_⟩ ?_
 ·exact qZ (qA t3 (qA hnt hdf))
 clear t0 t3 hnt hdf A1
 rintro A H3 ⟨g3,n3,rl,t3,t6,t7,hnt,hdf⟩
 obtain ⟨M,hM⟩:∃ M,M=H2.nx:=⟨_,rfl⟩
 rw[←hM] at rl n3 t6
 clear hM
 have rx:=(g3.get _ m1 not_false).trans rx
 have m1:=Nat.lt_of_lt_of_le m1 g3.nx
 have hp:=hp.gr g3
 have hq:=hq.gr g3
 have hu:=hu.gr g3
 have g3:=g2.gr g3
 refine qW (qA ad (qA t7 hnt)) ?_
 generalize fM o x.2.2.1=e0 at hr0 t7 ⊢
 by_cases he0:e0=0
 case neg=>
  have ce:(e0==0)=false:=beq_false_of_ne he0
  rw[if_pos he0] at hr0
  refine qX ce ?_
  refine qW (qA hnt t7) ?_
  exact fin (0) (e0) _ _ qp qp (qd hdf) (g3) (hr0)
 rw[if_neg (fun h=>h he0)] at hr0
 have ce:(e0==0)=true:=by rw[he0];rfl
 refine qX ce ?_
 refine R1.aS ?_
 refine qG (qA ad (qA t3 (qA t6 (qA hnt (qA rx (qA m1 (qA rl (qA n3 (qA bP (qA rA (qA iI Hw))))))))))) fun K hK=>?_
 refine WE.con (CC H3 (aT o x.2.2.1).1 u p q (aT o x.2.2.1).2 x.2.2.2 hu hp hq) fun w H4 g4 hw=>?_
 subst hw
 refine qS (qA ad hnt) ?_
 refine hK _ _ ?_
 clear hK K
 refine qV ?_
 exact fin ((dA (aT o x.2.2.1).1 (aT o x.2.2.1).2 x.2.2.2).1) ((dA (aT o x.2.2.1).1 (aT o x.2.2.1).2 x.2.2.2).2) _ _ qp qp (qd hdf) (g3.gr g4) (hr0)
end Go.Proofs.YtnhbkodnmkojpaaGreat
namespace Go.Proofs.YtnhbkodnmkojpaaGreat
open Go Go.Eng
theorem Qw {o:Option (List Lad)} {x:Cl} (h:fM o x.2.2.1=0):nF o x=dA (aT o x.2.2.1).1 (aT o x.2.2.1).2 x.2.2.2:=by
 unfold nF
 rw[if_neg (fun hn=>hn h)]
end Go.Proofs.YtnhbkodnmkojpaaGreat
namespace Go.Proofs.YtnhbkodnmkojpaaGreat
open Go Go.Eng Go.ChangeShapes Go.WideShapes
abbrev Us:=fh (wu .i64) (fh tC OZ)
abbrev CL:=ri Tryz.prog 181 3 Us
abbrev SH:=fh CL CL
abbrev TQ:=ri Tryz.prog 3 1 (wu .i64)
theorem Jr:jr Us:=cu dL (cu ct PE)
theorem vt:jr CL:=mO Jr
theorem Lw:jr SH:=cu vt vt
theorem Sv {W:World}:Opn Tryz.prog W 3 Us 181:=dK Tryz.underlying181 (by kernel_rfl) rfl (ca (iV Tryz.underlying3) dL (ca (gh Tryz.underlying9) ct (fH (Oj Tryz.underlying4))))
theorem Hi {W:World} (hB:jD W):Opn Tryz.prog W 1 CL 64:=ff Tryz.underlying64 (by kernel_rfl) (by decide) Jr hB Sv
theorem Sc {W:World} (hB:jD W):Opn Tryz.prog W 2 SH 66:=dK Tryz.underlying66 (by kernel_rfl) rfl (ca (Hi hB) vt (fH (Hi hB)))
theorem Ov {W:World} (hB:jD W):Opn Tryz.prog W 1 TQ 57:=ff Tryz.underlying57 (by kernel_rfl) (by decide) dL hB (iV Tryz.underlying3)
theorem GG:Tryz.prog.bytesOf 181=32:=by kernel_rfl
theorem CU:Tryz.prog.bytesOf 3=8:=by kernel_rfl
theorem Mc {B:Nat} {H:Hp} {c:List AC} {us:List Gp} (h:CL B H c us):∃ u,c=[u]∧aD H u us∧us.length*32≤B:=by
 obtain ⟨u,rfl,⟨css,h1,h2⟩,h3⟩:=h
 refine ⟨u,rfl,?_,by rwa [GG] at h3⟩
 have:=mK (f:=gpC) (h2.mono fun c x ⟨_,c1,c2,e,a,c3,c4,e2,b,d⟩=>by rw[e,a.1,e2,b.1,d];rfl)
 rw[this] at h1
 exact h1
theorem SZ {B:Nat} {H:Hp} {c:List AC} {us:List Int} (h:TQ B H c us):∃ u,c=[u]∧SlI H u us∧us.length*8≤B:=by
 obtain ⟨u,rfl,⟨css,h1,h2⟩,h3⟩:=h
 refine ⟨u,rfl,?_,by rwa [CU] at h3⟩
 have:=mK (f:=pj) (h2.mono fun c x ⟨_,e,_⟩=>e)
 rw[this] at h1
 exact h1
theorem UE {B:Nat} {H:Hp} {c:List AC} {x:Nm} (h:SH B H c x):∃ p q,c=[p,q]∧aD H p x.1∧aD H q x.2∧x.1.length*32≤B∧x.2.length*32≤B:=by
 obtain ⟨c1,c2,rfl,h1,h2⟩:=h
 obtain ⟨p,rfl,a1,a2⟩:=Mc h1
 obtain ⟨q,rfl,b1,b2⟩:=Mc h2
 exact ⟨p,q,rfl,a1,b1,a2,b2⟩
end Go.Proofs.YtnhbkodnmkojpaaGreat
namespace Go.Proofs.YtnhbkodnmkojpaaGreat
open Go Go.Eng
theorem yB:loadT Tryz.prog 240=some (false,1):=by kernel_rfl
theorem xH:aV Tryz.prog 240=some 1:=by kernel_rfl
theorem xI:(aB Tryz.prog 240).map (fun z=>(ofValue z).cells)=some [.o .nilS]:=by kernel_rfl
theorem Ah:bk Tryz.prog 240=some (38,1):=by kernel_rfl
theorem wR:ez Tryz.prog 240=some 1:=by kernel_rfl
theorem Aj:aU Tryz.prog 240=1:=by kernel_rfl
theorem JJ:loadT Tryz.prog 266=some (true,3):=by kernel_rfl
theorem Lq:aV Tryz.prog 266=some 3:=by kernel_rfl
theorem Ka:(aB Tryz.prog 266).map (fun z=>(ofValue z).cells)=some [.i .i64 0,.o (.str []),.i .i64 0]:=by kernel_rfl
theorem Lk:aU Tryz.prog 266=4:=by kernel_rfl
theorem wW:aH Tryz.prog 266 0=some (0,3,1):=by kernel_rfl
theorem zm:aH Tryz.prog 266 1=some (1,9,1):=by kernel_rfl
theorem xG:aH Tryz.prog 266 2=some (2,3,1):=by kernel_rfl
def sR:Nat→Option (Nat×Nat):=fun i=>(#[(0,1),(1,1),(2,1)]:Array (Nat×Nat))[i]?
theorem Ko:cC Tryz.prog 266=some sR:=by kernel_rfl
theorem yQ:sR 0=some (0,1):=rfl
theorem yF:sR 1=some (1,1):=rfl
theorem xo:sR 2=some (2,1):=rfl
theorem CH:loadT Tryz.prog 110=some (false,1):=by kernel_rfl
theorem ED:aV Tryz.prog 110=some 1:=by kernel_rfl
theorem Gs:(aB Tryz.prog 110).map (fun z=>(ofValue z).cells)=some [.o .nilS]:=by kernel_rfl
theorem Dv:bk Tryz.prog 110=some (116,4):=by kernel_rfl
theorem GA:ez Tryz.prog 110=some 1:=by kernel_rfl
theorem Ck:aU Tryz.prog 110=1:=by kernel_rfl
theorem PN:loadT Tryz.prog 116=some (true,4):=by kernel_rfl
theorem OJ:aV Tryz.prog 116=some 4:=by kernel_rfl
theorem Pm:(aB Tryz.prog 116).map (fun z=>(ofValue z).cells)=some [.i .i64 0,.i .i64 0,.i .i64 0,.i .i64 0]:=by kernel_rfl
theorem OL:aU Tryz.prog 116=4:=by kernel_rfl
theorem Hb:aH Tryz.prog 116 0=some (0,3,1):=by kernel_rfl
theorem CK:aH Tryz.prog 116 1=some (1,3,1):=by kernel_rfl
theorem Ey:aH Tryz.prog 116 2=some (2,3,1):=by kernel_rfl
theorem Ct:aH Tryz.prog 116 3=some (3,3,1):=by kernel_rfl
def tw:Nat→Option (Nat×Nat):=fun i=>(#[(0,1),(1,1),(2,1),(3,1)]:Array (Nat×Nat))[i]?
theorem Om:cC Tryz.prog 116=some tw:=by kernel_rfl
theorem Cz:tw 0=some (0,1):=rfl
theorem Dh:tw 1=some (1,1):=rfl
theorem CX:tw 2=some (2,1):=rfl
theorem Gx:tw 3=some (3,1):=rfl
theorem Py:loadT Tryz.prog 278=some (false,1):=by kernel_rfl
theorem Qb:aV Tryz.prog 278=some 1:=by kernel_rfl
theorem Re:(aB Tryz.prog 278).map (fun z=>(ofValue z).cells)=some [.o .nilF]:=by kernel_rfl
theorem PO:aU Tryz.prog 278=3:=by kernel_rfl
end Go.Proofs.YtnhbkodnmkojpaaGreat
namespace Go.Proofs.YtnhbkodnmkojpaaGreat
open Go Go.Eng
theorem Cf:loadT Tryz.prog 185=some (true,2):=by kernel_rfl
theorem IZ:aV Tryz.prog 185=some 2:=by kernel_rfl
theorem JU:cQ Tryz.prog 185=some 24:=by kernel_rfl
theorem BI:(aB Tryz.prog 185).map (fun z=>(ofValue z).cells)=some [.o (.str []),.i .i64 0]:=by kernel_rfl
theorem JS:∃ z,aB Tryz.prog 185=some z∧(ofValue z).cells.length=2:=by
 have h:=BI
 cases hz:aB Tryz.prog 185 with
 | none=>rw[hz] at h;cases h
 | some z=>
  rw[hz] at h
  exact ⟨z,rfl,by have:(ofValue z).cells=_:=Option.some.inj h;rw[this];rfl⟩
theorem Kk:aU Tryz.prog 185=4:=by kernel_rfl
theorem xU:aH Tryz.prog 185 0=some (0,9,1):=by kernel_rfl
theorem zA:aH Tryz.prog 185 1=some (1,3,1):=by kernel_rfl
def Ar:Nat→Option (Nat×Nat):=fun i=>(#[(0,1),(1,1)]:Array (Nat×Nat))[i]?
theorem IX:cC Tryz.prog 185=some Ar:=by kernel_rfl
theorem xy:Ar 0=some (0,1):=rfl
theorem xX:Ar 1=some (1,1):=rfl
theorem Sx:eqK Tryz.prog 185=some [.s,.i]:=by kernel_rfl
theorem Cw:loadT Tryz.prog 67=some (false,1):=by kernel_rfl
theorem Dx:aV Tryz.prog 67=some 1:=by kernel_rfl
theorem Fs:(aB Tryz.prog 67).map (fun z=>(ofValue z).cells)=some [.o .nilS]:=by kernel_rfl
theorem lS:bk Tryz.prog 67=some (185,2):=by kernel_rfl
theorem Gt:ez Tryz.prog 67=some 1:=by kernel_rfl
theorem qf:aU Tryz.prog 67=1:=by kernel_rfl
theorem ti:loadT Tryz.prog 69=some (true,8):=by kernel_rfl
theorem Kn:aV Tryz.prog 69=some 8:=by kernel_rfl
theorem Lf:cQ Tryz.prog 69=some 120:=by kernel_rfl
theorem BV:(aB Tryz.prog 69).map (fun z=>(ofValue z).cells)=some [.i .i64 0,.i .i64 0,.i .i64 0,.i .i64 0,.o .nilS,.o .nilS,.o (.str []),.o .nilS]:=by kernel_rfl
theorem KV:∃ z,aB Tryz.prog 69=some z∧(ofValue z).cells.length=8:=by
 have h:=BV
 cases hz:aB Tryz.prog 69 with
 | none=>rw[hz] at h;cases h
 | some z=>
  rw[hz] at h
  exact ⟨z,rfl,by have:(ofValue z).cells=_:=Option.some.inj h;rw[this];rfl⟩
theorem KD:aU Tryz.prog 69=4:=by kernel_rfl
theorem wI:aH Tryz.prog 69 0=some (0,3,1):=by kernel_rfl
theorem zU:aH Tryz.prog 69 1=some (1,3,1):=by kernel_rfl
theorem xq:aH Tryz.prog 69 2=some (2,3,1):=by kernel_rfl
theorem wH:aH Tryz.prog 69 3=some (3,3,1):=by kernel_rfl
theorem jI:aH Tryz.prog 69 4=some (4,66,2):=by kernel_rfl
theorem xb:aH Tryz.prog 69 5=some (6,9,1):=by kernel_rfl
theorem xR:aH Tryz.prog 69 6=some (7,67,1):=by kernel_rfl
def jb:Nat→Option (Nat×Nat):=fun i=>(#[(0,1),(1,1),(2,1),(3,1),(4,2),(6,1),(7,1)]:Array (Nat×Nat))[i]?
theorem KX:cC Tryz.prog 69=some jb:=by kernel_rfl
theorem yM:jb 0=some (0,1):=rfl
theorem zD:jb 1=some (1,1):=rfl
theorem Aa:jb 2=some (2,1):=rfl
theorem wU:jb 3=some (3,1):=rfl
theorem Ad:jb 4=some (4,2):=rfl
theorem zB:jb 5=some (6,1):=rfl
theorem xO:jb 6=some (7,1):=rfl
theorem jH:loadT Tryz.prog 24=some (false,1):=by kernel_rfl
theorem GF:aV Tryz.prog 24=some 1:=by kernel_rfl
theorem by_cases:cQ Tryz.prog 24=some 24:=by kernel_rfl
theorem FT:(aB Tryz.prog 24).map (fun z=>(ofValue z).cells)=some [.o .nilS]:=by kernel_rfl
theorem gq:bk Tryz.prog 24=some (69,8):=by kernel_rfl
theorem CI:ez Tryz.prog 24=some 1:=by kernel_rfl
theorem EX:aU Tryz.prog 24=1:=by kernel_rfl
theorem iP:loadT Tryz.prog 26=some (true,2):=by kernel_rfl
theorem om:aV Tryz.prog 26=some 2:=by kernel_rfl
theorem QS:(aB Tryz.prog 26).map (fun z=>(ofValue z).cells)=some [.o (.str []),.o .nilS]:=by kernel_rfl
theorem Ow:aU Tryz.prog 26=4:=by kernel_rfl
theorem jL:aH Tryz.prog 26 0=some (0,9,1):=by kernel_rfl
theorem jU:aH Tryz.prog 26 1=some (1,24,1):=by kernel_rfl
def HH:Nat→Option (Nat×Nat):=fun i=>(#[(0,1),(1,1)]:Array (Nat×Nat))[i]?
theorem Ru:cC Tryz.prog 26=some HH:=by kernel_rfl
theorem Et:HH 0=some (0,1):=rfl
theorem Gy:HH 1=some (1,1):=rfl
theorem Rf:loadT Tryz.prog 92=some (true,2):=by kernel_rfl
theorem Ou:aV Tryz.prog 92=some 2:=by kernel_rfl
theorem OV:(aB Tryz.prog 92).map (fun z=>(ofValue z).cells)=some [.o (.str []),.i .i64 0]:=by kernel_rfl
theorem PI:aU Tryz.prog 92=4:=by kernel_rfl
theorem Ew:aH Tryz.prog 92 0=some (0,9,1):=by kernel_rfl
theorem EB:aH Tryz.prog 92 1=some (1,3,1):=by kernel_rfl
def HN:Nat→Option (Nat×Nat):=fun i=>(#[(0,1),(1,1)]:Array (Nat×Nat))[i]?
theorem NK:cC Tryz.prog 92=some HN:=by kernel_rfl
theorem Cq:HN 0=some (0,1):=rfl
theorem EE:HN 1=some (1,1):=rfl
theorem KN:loadT Tryz.prog 43=some (false,1):=by kernel_rfl
theorem JD:aV Tryz.prog 43=some 1:=by kernel_rfl
theorem JF:(aB Tryz.prog 43).map (fun z=>(ofValue z).cells)=some [.o .nilS]:=by kernel_rfl
theorem Ke:bk Tryz.prog 43=some (92,2):=by kernel_rfl
theorem Kl:ez Tryz.prog 43=some 1:=by kernel_rfl
theorem JZ:aU Tryz.prog 43=1:=by kernel_rfl
theorem EY:loadT Tryz.prog 152=some (true,2):=by kernel_rfl
theorem DQ:aV Tryz.prog 152=some 2:=by kernel_rfl
theorem Fg:(aB Tryz.prog 152).map (fun z=>(ofValue z).cells)=some [.o (.str []),.i .i64 0]:=by kernel_rfl
theorem FX:aU Tryz.prog 152=4:=by kernel_rfl
theorem tV:aH Tryz.prog 152 0=some (0,9,1):=by kernel_rfl
theorem uX:aH Tryz.prog 152 1=some (1,3,1):=by kernel_rfl
def tG:Nat→Option (Nat×Nat):=fun i=>(#[(0,1),(1,1)]:Array (Nat×Nat))[i]?
theorem Db:cC Tryz.prog 152=some tG:=by kernel_rfl
theorem vf:tG 0=some (0,1):=rfl
theorem vh:tG 1=some (1,1):=rfl
theorem QL:eqK Tryz.prog 152=some [.s,.i]:=by kernel_rfl
theorem QP:loadT Tryz.prog 150=some (false,1):=by kernel_rfl
theorem Ot:aV Tryz.prog 150=some 1:=by kernel_rfl
theorem OY:(aB Tryz.prog 150).map (fun z=>(ofValue z).cells)=some [.o .nilM]:=by kernel_rfl
theorem PA:ez Tryz.prog 150=some 2:=by kernel_rfl
theorem Ph:iT Tryz.prog 150=some (152,3):=by kernel_rfl
theorem IA:bF Tryz.prog 152=2:=by kernel_rfl
theorem Rh:aU Tryz.prog 150=2:=by kernel_rfl
theorem FO:loadT Tryz.prog 28=some (true,4):=by kernel_rfl
theorem FB:aV Tryz.prog 28=some 4:=by kernel_rfl
theorem Dc:(aB Tryz.prog 28).map (fun z=>(ofValue z).cells)=some [.o .nilS,.o .nilS,.o (.str []),.o .nilS]:=by kernel_rfl
theorem Dw:aU Tryz.prog 28=4:=by kernel_rfl
theorem tY:aH Tryz.prog 28 0=some (0,22,1):=by kernel_rfl
theorem uq:aH Tryz.prog 28 1=some (1,23,1):=by kernel_rfl
theorem tF:aH Tryz.prog 28 2=some (2,26,2):=by kernel_rfl
def pU:Nat→Option (Nat×Nat):=fun i=>(#[(0,1),(1,1),(2,2)]:Array (Nat×Nat))[i]?
theorem Ex:cC Tryz.prog 28=some pU:=by kernel_rfl
theorem tD:pU 0=some (0,1):=rfl
theorem vU:pU 1=some (1,1):=rfl
theorem vI:pU 2=some (2,2):=rfl
theorem JL:loadT Tryz.prog 136=some (false,1):=by kernel_rfl
theorem Kc:aV Tryz.prog 136=some 1:=by kernel_rfl
theorem Mb:(aB Tryz.prog 136).map (fun z=>(ofValue z).cells)=some [.o .nilS]:=by kernel_rfl
theorem Kh:bk Tryz.prog 136=some (198,1):=by kernel_rfl
theorem KZ:ez Tryz.prog 136=some 1:=by kernel_rfl
theorem Lg:aU Tryz.prog 136=1:=by kernel_rfl
end Go.Proofs.YtnhbkodnmkojpaaGreat
namespace Go.Proofs.YtnhbkodnmkojpaaGreat
open Go Go.Eng
theorem tyF:type_of% (qA ad (qA aL (qA NZ (qA Pt (qA qv (qA Rj (qA cj (qA vJ (qA qz (qA Pe (qA iW (qA LQ (qA JE (qA JG (qA oR (qA dR (qA pY (qA Eu (qA pc (qA nh (qA kT (qA LN (qA bS (qA cx (qA LS (qA yr (qA xv (qA cB (qA EZ (qA EI (qA gz (qA dB (qA Hh (qA bP (qA fu (qA dI (qA Qr (qA eT (qA cA (qA oH (qA pH (qA pX (qA iZ (qA tj (qA Ks (qA eI (qA hH (qA Jh (qA rm (qA IS (qA IF (qA BW (qA vO (qA AG (qA Rx (qA nX (qA RX (qA NW (qA OE (qA um (qA Ay (qA BN (qA DB (qA ER (qA Fo (qA mq (qA Jm (qA Ln (qA Bb (qA Jg (qA jE (qA fZ (qA qP (qA qQ (qA Ax (qA xr (qA ru (qA yR (qA yW (qA BB (qA BE (qA KM (qA dZ (qA Lu (qA JY (qA tU (qA tz (qA EF (qA oW (qA CV (qA DA (qA LF (qA Kz (qA sW (qA KJ (qA za (qA yE (qA Bn (qA yw (qA yH (qA di (qA JQ (qA Ku (qA dz (qA dw (qA Jc (qA mw (qA Aw (qA AY (qA IU (qA fb (qA cw (qA bY (qA Jq (qA zg (qA xV (qA yI (qA Fy (qA FC (qA CG (qA bH (qA eR (qA EG (qA FI (qA FV (qA ur (qA Fi (qA eZ (qA vn (qA uW (qA vd (qA ue (qA xK (qA zj (qA xm (qA nf (qA jQ (qA yL (qA zP (qA yu (qA sC (qA rF (qA yx (qA rG (qA sg (qA Gv (qA EM (qA Gn (qA pI (qA Ds (qA FM (qA LL (qA Jk (qA BM (qA Lh (qA zq (qA yO (qA qK (qA rA (qA Lj (qA Ae (qA zb (qA yz (qA Aq (qA Dz (qA Cy (qA DF (qA pT (qA CZ (qA Fb (qA Kb (qA Lt (qA BU (qA Lp (qA zh (qA zJ (qA Lc (qA wP (qA xz (qA iI (qA ow (qA lP (qA Bc (qA bc (qA bT (qA vL (qA mf (qA lB (qA bg (qA KL (qA JT (qA cd (qA bI (qA sY (qA dc (qA oD (qA jn (qA PL (qA dX (qA er (qA gk (qA Cg (qA Gz (qA GD (qA EN (qA Ge (qA GK (qA Hf (qA GZ (qA EV (qA GI (qA yB (qA xH (qA xI (qA Ah (qA wR (qA Aj (qA JJ (qA Lq (qA Ka (qA Lk (qA wW (qA zm (qA xG (qA Ko (qA yQ (qA yF (qA xo (qA CH (qA ED (qA Gs (qA Dv (qA GA (qA Ck (qA PN (qA OJ (qA Pm (qA OL (qA Hb (qA CK (qA Ey (qA Ct (qA Om (qA Cz (qA Dh (qA CX (qA Gx (qA Py (qA Qb (qA Re (qA PO (qA Cf (qA IZ (qA BI (qA Kk (qA xU (qA zA (qA IX (qA xy (qA xX (qA Cw (qA Dx (qA Fs (qA lS (qA Gt (qA qf (qA ti (qA Kn (qA BV (qA KD (qA wI (qA zU (qA xq (qA wH (qA jI (qA xb (qA xR (qA KX (qA yM (qA zD (qA Aa (qA wU (qA Ad (qA zB (qA xO (qA jH (qA GF (qA FT (qA gq (qA CI (qA EX (qA iP (qA om (qA QS (qA Ow (qA jL (qA jU (qA Ru (qA Et (qA Gy (qA Rf (qA Ou (qA OV (qA PI (qA Ew (qA EB (qA NK (qA Cq (qA EE (qA KN (qA JD (qA JF (qA Ke (qA Kl (qA JZ (qA EY (qA DQ (qA Fg (qA FX (qA tV (qA uX (qA Db (qA vf (qA vh (qA QP (qA Ot (qA OY (qA PA (qA Ph (qA IA (qA Rh (qA FO (qA FB (qA Dc (qA Dw (qA tY (qA uq (qA tF (qA Ex (qA tD (qA vU (qA vI (qA JL (qA Kc (qA Mb (qA Kh (qA KZ Lg))))))))))))))))))))))))))))))))))))))))))))))))))))))))))))))))))))))))))))))))))))))))))))))))))))))))))))))))))))))))))))))))))))))))))))))))))))))))))))))))))))))))))))))))))))))))))))))))))))))))))))))))))))))))))))))))))))))))))))))))))))))))))))))))))))))))))))))))))))))))))))))))))))))))))))))))))))))))))))))))))))))))))))))))))))))))))):=qA ad (qA aL (qA NZ (qA Pt (qA qv (qA Rj (qA cj (qA vJ (qA qz (qA Pe (qA iW (qA LQ (qA JE (qA JG (qA oR (qA dR (qA pY (qA Eu (qA pc (qA nh (qA kT (qA LN (qA bS (qA cx (qA LS (qA yr (qA xv (qA cB (qA EZ (qA EI (qA gz (qA dB (qA Hh (qA bP (qA fu (qA dI (qA Qr (qA eT (qA cA (qA oH (qA pH (qA pX (qA iZ (qA tj (qA Ks (qA eI (qA hH (qA Jh (qA rm (qA IS (qA IF (qA BW (qA vO (qA AG (qA Rx (qA nX (qA RX (qA NW (qA OE (qA um (qA Ay (qA BN (qA DB (qA ER (qA Fo (qA mq (qA Jm (qA Ln (qA Bb (qA Jg (qA jE (qA fZ (qA qP (qA qQ (qA Ax (qA xr (qA ru (qA yR (qA yW (qA BB (qA BE (qA KM (qA dZ (qA Lu (qA JY (qA tU (qA tz (qA EF (qA oW (qA CV (qA DA (qA LF (qA Kz (qA sW (qA KJ (qA za (qA yE (qA Bn (qA yw (qA yH (qA di (qA JQ (qA Ku (qA dz (qA dw (qA Jc (qA mw (qA Aw (qA AY (qA IU (qA fb (qA cw (qA bY (qA Jq (qA zg (qA xV (qA yI (qA Fy (qA FC (qA CG (qA bH (qA eR (qA EG (qA FI (qA FV (qA ur (qA Fi (qA eZ (qA vn (qA uW (qA vd (qA ue (qA xK (qA zj (qA xm (qA nf (qA jQ (qA yL (qA zP (qA yu (qA sC (qA rF (qA yx (qA rG (qA sg (qA Gv (qA EM (qA Gn (qA pI (qA Ds (qA FM (qA LL (qA Jk (qA BM (qA Lh (qA zq (qA yO (qA qK (qA rA (qA Lj (qA Ae (qA zb (qA yz (qA Aq (qA Dz (qA Cy (qA DF (qA pT (qA CZ (qA Fb (qA Kb (qA Lt (qA BU (qA Lp (qA zh (qA zJ (qA Lc (qA wP (qA xz (qA iI (qA ow (qA lP (qA Bc (qA bc (qA bT (qA vL (qA mf (qA lB (qA bg (qA KL (qA JT (qA cd (qA bI (qA sY (qA dc (qA oD (qA jn (qA PL (qA dX (qA er (qA gk (qA Cg (qA Gz (qA GD (qA EN (qA Ge (qA GK (qA Hf (qA GZ (qA EV (qA GI (qA yB (qA xH (qA xI (qA Ah (qA wR (qA Aj (qA JJ (qA Lq (qA Ka (qA Lk (qA wW (qA zm (qA xG (qA Ko (qA yQ (qA yF (qA xo (qA CH (qA ED (qA Gs (qA Dv (qA GA (qA Ck (qA PN (qA OJ (qA Pm (qA OL (qA Hb (qA CK (qA Ey (qA Ct (qA Om (qA Cz (qA Dh (qA CX (qA Gx (qA Py (qA Qb (qA Re (qA PO (qA Cf (qA IZ (qA BI (qA Kk (qA xU (qA zA (qA IX (qA xy (qA xX (qA Cw (qA Dx (qA Fs (qA lS (qA Gt (qA qf (qA ti (qA Kn (qA BV (qA KD (qA wI (qA zU (qA xq (qA wH (qA jI (qA xb (qA xR (qA KX (qA yM (qA zD (qA Aa (qA wU (qA Ad (qA zB (qA xO (qA jH (qA GF (qA FT (qA gq (qA CI (qA EX (qA iP (qA om (qA QS (qA Ow (qA jL (qA jU (qA Ru (qA Et (qA Gy (qA Rf (qA Ou (qA OV (qA PI (qA Ew (qA EB (qA NK (qA Cq (qA EE (qA KN (qA JD (qA JF (qA Ke (qA Kl (qA JZ (qA EY (qA DQ (qA Fg (qA FX (qA tV (qA uX (qA Db (qA vf (qA vh (qA QP (qA Ot (qA OY (qA PA (qA Ph (qA IA (qA Rh (qA FO (qA FB (qA Dc (qA Dw (qA tY (qA uq (qA tF (qA Ex (qA tD (qA vU (qA vI (qA JL (qA Kc (qA Mb (qA Kh (qA KZ Lg))))))))))))))))))))))))))))))))))))))))))))))))))))))))))))))))))))))))))))))))))))))))))))))))))))))))))))))))))))))))))))))))))))))))))))))))))))))))))))))))))))))))))))))))))))))))))))))))))))))))))))))))))))))))))))))))))))))))))))))))))))))))))))))))))))))))))))))))))))))))))))))))))))))))))))))))))))))))))))))))))))))))))))))))))))))))))
end Go.Proofs.YtnhbkodnmkojpaaGreat
