/- A part of the proof: BkFacts, BkTy, BkUn, BkChk, BkCpy, BkBook, BkNew, BkLad, BkFacts2. No conditions. -/
import Derived.Test.YtnhbkodnmkojpaaGreatSAj
import Derived.Test.YtnhbkodnmkojpaaGreatSAf
import Derived.KernelRfl
set_option maxRecDepth 100000
set_option maxHeartbeats 64000000
set_option linter.unusedVariables false
set_option linter.unusedSimpArgs false
namespace Go.Proofs.YtnhbkodnmkojpaaGreat
open Go Go.Eng
theorem aQ:loadT Tryz.prog 9=some (false,1):=by kernel_rfl
theorem Qj:aS Tryz.prog 9=some 1:=by kernel_rfl
theorem Qd:(aB Tryz.prog 9).map (fun z=>(ofValue z).cells)=some [.o (.str [])]:=by kernel_rfl
theorem sy:eu Tryz.prog 9=some 0:=by kernel_rfl
theorem xh:mz Tryz.prog 9=true:=by kernel_rfl
theorem So:aP Tryz.prog 9=4:=by kernel_rfl
theorem cD:loadT Tryz.prog 3=some (false,1):=by kernel_rfl
theorem rX:aS Tryz.prog 3=some 1:=by kernel_rfl
theorem BX:cB Tryz.prog 3=some 8:=by kernel_rfl
theorem sw:(aB Tryz.prog 3).map (fun z=>(ofValue z).cells)=some [.i .i64 0]:=by kernel_rfl
theorem BZ:∃ z,aB Tryz.prog 3=some z∧(ofValue z).cells.length=1:=by
 have h:=sw;cases hz:aB Tryz.prog 3 with
 | none=>rw[hz] at h;cases h
 | some z=>
  rw[hz] at h;exact ⟨z,rfl,by have:(ofValue z).cells=_:=Option.some.inj h;rw[this];rfl⟩
theorem Bk:aB Tryz.prog 3=some (.int .i64 0):=by kernel_rfl
theorem iV:Tryz.prog.underlying 3=some (.int .i64):=by kernel_rfl
theorem Ty:aP Tryz.prog 3=4:=by kernel_rfl
theorem pF:loadT Tryz.prog 4=some (false,1):=by kernel_rfl
theorem MF:aS Tryz.prog 4=some 1:=by kernel_rfl
theorem Kj:(aB Tryz.prog 4).map (fun z=>(ofValue z).cells)=some [.b false]:=by kernel_rfl
theorem Kv:aB Tryz.prog 4=some (.bool false):=by kernel_rfl
theorem UJ:Tryz.prog.underlying 4=some .bool:=by kernel_rfl
theorem Ll:aP Tryz.prog 4=4:=by kernel_rfl
theorem rn:loadT Tryz.prog 38=some (false,1):=by kernel_rfl
theorem dI:aS Tryz.prog 38=some 1:=by kernel_rfl
theorem qK:(aB Tryz.prog 38).map (fun z=>(ofValue z).cells)=some [.i .i64 0]:=by kernel_rfl
theorem GO:aP Tryz.prog 38=4:=by kernel_rfl
theorem qP:loadT Tryz.prog 165=some (true,2):=by kernel_rfl
theorem ot:aS Tryz.prog 165=some 2:=by kernel_rfl
theorem KI:cB Tryz.prog 165=some 24:=by kernel_rfl
theorem lT:(aB Tryz.prog 165).map (fun z=>(ofValue z).cells)=some [.o (.str []),.i .i64 0]:=by kernel_rfl
theorem LK:∃ z,aB Tryz.prog 165=some z∧(ofValue z).cells.length=2:=by
 have h:=lT;cases hz:aB Tryz.prog 165 with
 | none=>rw[hz] at h;cases h
 | some z=>
  rw[hz] at h;exact ⟨z,rfl,by have:(ofValue z).cells=_:=Option.some.inj h;rw[this];rfl⟩
theorem LU:aP Tryz.prog 165=4:=by kernel_rfl
theorem bK:aI Tryz.prog 165 0=some (0,9,1):=by kernel_rfl
theorem bV:aI Tryz.prog 165 1=some (1,3,1):=by kernel_rfl
def BK:Nat→Option (Nat×Nat):=fun i=>(#[(0,1),(1,1)]:Array (Nat×Nat))[i]?
theorem LX:ca Tryz.prog 165=some BK:=by kernel_rfl
theorem yR:BK 0=some (0,1):=rfl
theorem xH:BK 1=some (1,1):=rfl
theorem bX:loadT Tryz.prog 95=some (false,1):=by kernel_rfl
theorem Em:aS Tryz.prog 95=some 1:=by kernel_rfl
theorem Gq:(aB Tryz.prog 95).map (fun z=>(ofValue z).cells)=some [.o .nilS]:=by kernel_rfl
theorem gT:bm Tryz.prog 95=some (165,2):=by kernel_rfl
theorem dt:eu Tryz.prog 95=some 1:=by kernel_rfl
theorem El:aP Tryz.prog 95=1:=by kernel_rfl
theorem da:loadT Tryz.prog 97=some (true,2):=by kernel_rfl
theorem jg:aS Tryz.prog 97=some 2:=by kernel_rfl
theorem SC:cB Tryz.prog 97=some 40:=by kernel_rfl
theorem eS:(aB Tryz.prog 97).map (fun z=>(ofValue z).cells)=some [.o (.str []),.o .nilS]:=by kernel_rfl
theorem QV:∃ z,aB Tryz.prog 97=some z∧(ofValue z).cells.length=2:=by
 have h:=eS;cases hz:aB Tryz.prog 97 with
 | none=>rw[hz] at h;cases h
 | some z=>
  rw[hz] at h;exact ⟨z,rfl,by have:(ofValue z).cells=_:=Option.some.inj h;rw[this];rfl⟩
theorem Uh:aP Tryz.prog 97=4:=by kernel_rfl
theorem fa:aI Tryz.prog 97 0=some (0,9,1):=by kernel_rfl
theorem bW:aI Tryz.prog 97 1=some (1,95,1):=by kernel_rfl
def JB:Nat→Option (Nat×Nat):=fun i=>(#[(0,1),(1,1)]:Array (Nat×Nat))[i]?
theorem sX:ca Tryz.prog 97=some JB:=by kernel_rfl
theorem pS:JB 0=some (0,1):=rfl
theorem pV:JB 1=some (1,1):=rfl
theorem lV:loadT Tryz.prog 22=some (false,1):=by kernel_rfl
theorem uu:aS Tryz.prog 22=some 1:=by kernel_rfl
theorem Ki:(aB Tryz.prog 22).map (fun z=>(ofValue z).cells)=some [.o .nilS]:=by kernel_rfl
theorem fe:bm Tryz.prog 22=some (97,2):=by kernel_rfl
theorem iL:eu Tryz.prog 22=some 1:=by kernel_rfl
theorem MK:aP Tryz.prog 22=1:=by kernel_rfl
theorem sC:loadT Tryz.prog 191=some (false,1):=by kernel_rfl
theorem JH:aS Tryz.prog 191=some 1:=by kernel_rfl
theorem Iw:(aB Tryz.prog 191).map (fun z=>(ofValue z).cells)=some [.o .nilM]:=by kernel_rfl
theorem BG:eu Tryz.prog 191=some 2:=by kernel_rfl
theorem wh:ic Tryz.prog 191=some (9,4):=by kernel_rfl
theorem BD:bA Tryz.prog 9=0:=by kernel_rfl
theorem Ql:aP Tryz.prog 191=2:=by kernel_rfl
theorem pE:loadT Tryz.prog 88=some (false,1):=by kernel_rfl
theorem RC:aS Tryz.prog 88=some 1:=by kernel_rfl
theorem Rt:(aB Tryz.prog 88).map (fun z=>(ofValue z).cells)=some [.o .nilM]:=by kernel_rfl
theorem RZ:eu Tryz.prog 88=some 2:=by kernel_rfl
theorem wE:ic Tryz.prog 88=some (9,3):=by kernel_rfl
theorem vV:bA Tryz.prog 9=0:=by kernel_rfl
theorem Cp:aP Tryz.prog 88=2:=by kernel_rfl
theorem Ez:loadT Tryz.prog 29=some (false,1):=by kernel_rfl
theorem FW:aS Tryz.prog 29=some 1:=by kernel_rfl
theorem Dq:(aB Tryz.prog 29).map (fun z=>(ofValue z).cells)=some [.o .nilP]:=by kernel_rfl
theorem nK:aP Tryz.prog 29=0:=by kernel_rfl
theorem MS:loadT Tryz.prog 132=some (true,4):=by kernel_rfl
theorem Kp:aS Tryz.prog 132=some 4:=by kernel_rfl
theorem BE:(aB Tryz.prog 132).map (fun z=>(ofValue z).cells)=some [.o .nilS,.o .nilM,.o .nilS,.o .nilS]:=by kernel_rfl
theorem Nj:aP Tryz.prog 132=4:=by kernel_rfl
theorem kI:aI Tryz.prog 132 0=some (0,22,1):=by kernel_rfl
theorem gC:aI Tryz.prog 132 1=some (1,88,1):=by kernel_rfl
theorem sE:aI Tryz.prog 132 2=some (2,57,1):=by kernel_rfl
theorem sJ:aI Tryz.prog 132 3=some (3,130,1):=by kernel_rfl
def pU:Nat→Option (Nat×Nat):=fun i=>(#[(0,1),(1,1),(2,1),(3,1)]:Array (Nat×Nat))[i]?
theorem BS:ca Tryz.prog 132=some pU:=by kernel_rfl
theorem zw:pU 0=some (0,1):=rfl
theorem rV:pU 1=some (1,1):=rfl
theorem AX:pU 2=some (2,1):=rfl
theorem Ai:pU 3=some (3,1):=rfl
theorem Cv:loadT Tryz.prog 57=some (false,1):=by kernel_rfl
theorem CV:aS Tryz.prog 57=some 1:=by kernel_rfl
theorem KS:(aB Tryz.prog 57).map (fun z=>(ofValue z).cells)=some [.o .nilS]:=by kernel_rfl
theorem jL:bm Tryz.prog 57=some (3,1):=by kernel_rfl
theorem Ls:eu Tryz.prog 57=some 1:=by kernel_rfl
theorem KQ:aP Tryz.prog 57=1:=by kernel_rfl
theorem wC:loadT Tryz.prog 130=some (false,1):=by kernel_rfl
theorem vt:aS Tryz.prog 130=some 1:=by kernel_rfl
theorem HY:(aB Tryz.prog 130).map (fun z=>(ofValue z).cells)=some [.o .nilS]:=by kernel_rfl
theorem rk:bm Tryz.prog 130=some (138,2):=by kernel_rfl
theorem Ei:eu Tryz.prog 130=some 1:=by kernel_rfl
theorem Ev:aP Tryz.prog 130=1:=by kernel_rfl
theorem Nh:loadT Tryz.prog 138=some (true,2):=by kernel_rfl
theorem LY:aS Tryz.prog 138=some 2:=by kernel_rfl
theorem Vi:cB Tryz.prog 138=some 48:=by kernel_rfl
theorem ug:(aB Tryz.prog 138).map (fun z=>(ofValue z).cells)=some [.o .nilS,.o .nilS]:=by kernel_rfl
theorem Wo:∃ z,aB Tryz.prog 138=some z∧(ofValue z).cells.length=2:=by
 have h:=ug;cases hz:aB Tryz.prog 138 with
 | none=>rw[hz] at h;cases h
 | some z=>
  rw[hz] at h;exact ⟨z,rfl,by have:(ofValue z).cells=_:=Option.some.inj h;rw[this];rfl⟩
theorem MG:aP Tryz.prog 138=4:=by kernel_rfl
theorem zZ:aI Tryz.prog 138 0=some (0,136,1):=by kernel_rfl
theorem AA:aI Tryz.prog 138 1=some (1,136,1):=by kernel_rfl
def BM:Nat→Option (Nat×Nat):=fun i=>(#[(0,1),(1,1)]:Array (Nat×Nat))[i]?
theorem Di:ca Tryz.prog 138=some BM:=by kernel_rfl
theorem zY:BM 0=some (0,1):=rfl
theorem AJ:BM 1=some (1,1):=rfl
theorem ae:E2.P=Tryz.prog:=rfl
theorem eG:al Tryz.prog 101=true:=by kernel_rfl
theorem wj:al Tryz.prog 16=true:=by kernel_rfl
theorem Fg:al Tryz.prog 119=true:=by kernel_rfl
theorem xZ:al Tryz.prog 170=true:=by kernel_rfl
theorem vX:al Tryz.prog 67=true:=by kernel_rfl
theorem LW:al Tryz.prog 120=true:=by kernel_rfl
theorem mI (s:List UInt8):E2.fE 101 [.one (.o (.str s))]=some (.one (.b (nmB s))):=by
 show some (AV.one (.b (zu s)))=_;rw[vo]
theorem pz (s:List UInt8) (H:Hp) {X:Nat→Prop}:Con E2 101 [.one (.o (.str s))] H X fun v _=>v=.one (.b (nmB s)):=
 Con.fE (v:=.one (.b (zu s))) rfl fun _=>by rw[vo]
theorem sT (H:Hp) {X:Nat→Prop}:Con E2 16 [] H X fun v _=>v=.one (.b true):=Con.fE rfl fun _=>rfl
theorem tY {A:ab} {k:Tmp} {c:AC} (h:slot A.tm k=.one c):A.tm.get k=some (.one c):=by
 unfold slot at h;cases hk:A.tm.get k with
 | none=>rw[hk] at h;cases h
 | some u=>rw[hk] at h;exact congrArg some h
theorem aM {E:Env} {s t:Tmp} {A:ab} {H:Hp} {e:ax} (c d:AC) (he:e=.normal∨e=.ret) (hd:A.dfr=[]) (hs:slot A.tm s=.one c) (ht:slot A.tm t=.one d):aC E [.tmp s,.tmp t] (e,A,H)=.ok [(.tup [(false,[c]),(false,[d])],H)]:=by
 have key:(ay (closeAll H A.dfr) (R.bad "marks") fun h2=>ay (bh E.P [.tmp s,.tmp t] A.tm h2) (.bad "results") fun l=>.ok [(cT l,h2)])=.ok [(.tup [(false,[c]),(false,[d])],H)]:=by
  rw[hd];have hr:bh E.P [.tmp s,.tmp t] A.tm H=some [(false,[c]),(false,[d])]:=by
   show ay (ay (A.tm.get s) none fB) none (fun x=>ay (ay (ay (A.tm.get t) none fB) none fun x=>ay (some []) none fun l=>some (x::l)) none fun l=>some (x::l))=_;rw[tY hs,tY ht];rfl
  show ay (bh E.P [.tmp s,.tmp t] A.tm H) (R.bad "results") (fun l=>R.ok [(cT l,H)])=_
  rw[hr];rfl
 rcases he with rfl|rfl
 ·exact key
 exact key
theorem cu {E:Env} {A:ab} {H:Hp} {e:ax} (he:e=.normal∨e=.ret) (hd:A.dfr=[]):aC E [] (e,A,H)=.ok [(.tup [],H)]:=by
 have key:(ay (closeAll H A.dfr) (R.bad "marks") fun h2=>ay (bh E.P [] A.tm h2) (.bad "results") fun l=>.ok [(cT l,h2)])=.ok [(.tup [],H)]:=by rw[hd];rfl
 rcases he with rfl|rfl
 ·exact key
 exact key
theorem BQ {E:Env} {s:Tmp} {t:TypeId} {A:ab} {H H2:Hp} {e:ax} {id g off lim:Nat} {cells:List AC} {c:AC} (ht:loadT E.P t=some (false,1)) (he:e=.normal∨e=.ret) (hd:closeAll H A.dfr=some H2) (hs:slot A.tm s=.one (.o (.ptr id g off lim)))
  (hg:rowOf (H2.get id) g=some cells) (hl:1≤lim) (ho:off+1≤cells.length) (hc:(cells.drop off).headD (.b false)=c):aC E [.cell s t] (e,A,H)=.ok [(.one c,H2)]:=by
 have key:(ay (closeAll H A.dfr) (R.bad "marks") fun h2=>ay (bh E.P [.cell s t] A.tm h2) (.bad "results") fun l=>.ok [(cT l,h2)])=.ok [(.one c,H2)]:=by
  rw[hd];have hr:bh E.P [.cell s t] A.tm H2=some [(false,[c])]:=by
   have e1:jy E.P (.cell s t) A.tm H2=some (false,[c]):=by
    have e0:jy E.P (.cell s t)=match loadT E.P t with
      | some p=>fun tm h=>ay (tm.get s) none fun v=>ad.rec (motive:=fun _=>Option (Bool×List AC)) (fun v _=>fB v) (fun _=>none) (fun _ _=>none) (fun _ _=>none) (fun _=>none) (bR h p.1 p.2 v)
      | none=>fun _ _=>none:=rfl
    rw[e0,ht];show ay (A.tm.get s) none (fun v=>ad.rec (motive:=fun _=>Option (Bool×List AC)) (fun v _=>fB v) (fun _=>none) (fun _ _=>none) (fun _ _=>none) (fun _=>none) (bR H2 false 1 v))=_;rw[tY hs];show ad.rec (motive:=fun _=>Option (Bool×List AC)) (fun v _=>fB v) (fun _=>none) (fun _ _=>none) (fun _ _=>none) (fun _=>none) (bR H2 false 1 (.one (.o (.ptr id g off lim))))=_;rw[fi,hg,uj hl ho,hc];rfl
   show ay (jy E.P (.cell s t) A.tm H2) none (fun x=>ay (some []) none fun l=>some (x::l))=_;rw[e1];rfl
  show ay (bh E.P [.cell s t] A.tm H2) (R.bad "results") (fun l=>R.ok [(cT l,H2)])=_
  rw[hr];rfl
 rcases he with rfl|rfl
 ·exact key
 exact key
theorem iO {H:Hp} {d:Nat} (h:H.get d=some (.oth (.dfr true))):closeAll H [d]=some (H.mod d (.oth (.dfr false))):=by
 show (match H.get d with|some (.oth (.dfr true))=>closeAll (H.mod d (.oth (.dfr false))) []|_=>none)=_;rw[h];rfl
theorem SlC.fr {H H':Hp} {v:AC} {sz n:Nat} {c:List AC} {X:Nat→Prop} (h:SlC H v sz n c) (hf:Fr X H H') (hx:∀ id∈(AV.one v).ids,¬X id):SlC H' v sz n c:=by
 refine ⟨h.1,h.2.imp id ?_⟩;rintro ⟨id,g,off,h1,h2,h3⟩;subst h1;exact ⟨id,g,off,rfl,zA0 h2 hf.nx,h3.dp (hf.get _ h2 (hx id (List.mem_singleton.2 rfl)))⟩
abbrev Pr:=List UInt8×Int
def prC (x:Pr):List AC:=[.o (.str x.1),.i .i64 x.2]
theorem eB (x:Pr):prC x=[.o (.str x.1),.i .i64 x.2]:=by unfold prC;rfl
theorem Ut (x:Pr):(prC x).length=2:=rfl
def SlP (H:Hp) (v:AC) (l:List Pr):Prop:=SlC H v 2 l.length (l.flatMap prC)
theorem SlP.gr {H H':Hp} {v:AC} {l:List Pr} (h:SlP H v l) (hg:Gr H H'):SlP H' v l:=SlC.gr h hg
theorem SlP.len {H:Hp} {v:AC} {l:List Pr} (h:SlP H v l):cG H 1 (.one v)=.val (.one (.i .i64 (l.length:Int))) H:=SlC.len h
theorem SlP.lt {H:Hp} {v:AC} {l:List Pr} (h:SlP H v l):ltV (.one v) H.nx:=lC h
theorem SlP.nil {H:Hp}:SlP H (.o .nilS) []:=⟨by simp,.inl ⟨rfl,rfl⟩⟩
structure YG (cells:List AC) (o:Nat) (x:Pr):Prop where
 all:(cells.drop o).take 2=prC x
 le:o+2≤cells.length
 le1:o+1≤cells.length
 le2:o+1+1≤cells.length
 fst:(cells.drop o).headD (.b false)=.o (.str x.1)
 snd:(cells.drop (o+1)).headD (.b false)=.i .i64 x.2
theorem Vl {cells:List AC} {o:Nat} {x:Pr} (h:(cells.drop o).take 2=prC x) (hl:o+2≤cells.length):YG cells o x:=by
 refine ⟨h,hl,by omega,by omega,?_,?_⟩
 ·cases hd:cells.drop o with
  | nil=>have:=congrArg List.length hd;simp at this;omega
  | cons a r=>
   rw[hd] at h;cases r with
   | nil=>cases h
   | cons b r=>cases h;rfl
 rw[←List.drop_drop];cases hd:cells.drop o with
 | nil=>have:=congrArg List.length hd;simp at this;omega
 | cons a r=>
  rw[hd] at h;cases r with
  | nil=>cases h
  | cons b r=>cases h;rfl
theorem SlP.open {H:Hp} {v:AC} {l:List Pr} (h:SlP H v l) (hn:0<l.length):∃ id g off cells,v=.o (.sl id g off l.length 2)∧id<H.nx∧rowOf (H.get id) g=some cells∧∀ (i:Nat) (x:Pr),l[i]?=some x→YG cells (off+i*2) x:=by
 obtain ⟨id,g,off,h1,h2,hr⟩:=SlC.pos h hn;have Y2:=hr;obtain ⟨cells,h3,h6,h7⟩:=hr;refine ⟨id,g,off,cells,h1,h2,h3,fun i x hx=>?_⟩;obtain ⟨cells',k3,k6,k7⟩:=Rd.at (c:=prC) Ut Y2 hx;rw[h3] at k3;cases k3
 exact Vl k7 k6
def yv:Int→List Pr→List (Pr×Int)
 | _,[]=>[]
 | v,u::us=>if u.2<1∨60<u.2∨1099511627776<v*u.2 then [] else (u,v*u.2)::yv (v*u.2) us
theorem Bw:∀ (v:Int) (us:List Pr),(yv v us).length≤us.length
 | _,[]=>zA1 _
 | v,u::us=>by
  unfold yv;split
  ·exact Nat.zero_le _
  exact Nat.succ_le_succ (Bw _ us)
theorem TB:∀ (v:Int) (us:List Pr) (i:Nat) (y:Pr×Int),(yv v us)[i]?=some y→us[i]?=some y.1
 | _,[],_,_,h=>by simp[yv] at h
 | v,u::us,i,y,h=>by
  unfold yv at h;split at h
  ·simp at h
  cases i with
  | zero=>
   simp only[List.getElem?_cons_zero,Option.some.injEq] at h ⊢;rw[←h]
  | succ i=>
   rw[List.getElem?_cons_succ] at h ⊢;exact TB _ us i y h
def yA (ys:List (Pr×Int)) (i:Nat):List AV:=
 match ys[i]? with
 | some y=>[.agg (prC y.1),.one (.i .i64 y.2)]
 | none=>[.any,.any]
theorem PQ (ys:List (Pr×Int)) (i:Nat):(yA ys i).length=2:=by
 unfold yA;split <;> rfl
theorem Rf {ys:List (Pr×Int)} {i:Nat} {y:Pr×Int} (h:ys[i]?=some y):yA ys i=[.agg (prC y.1),.one (.i .i64 y.2)]:=by
 unfold yA;rw[h]
def DL (il:Nat) (u:AC) (k:Nat):Prop:=k=il∨k∈(AV.one u).ids
theorem zD (H:Hp) (il:Nat) (n:AC) (u:AC) (us:List Pr) (hil:il<H.nx) (hg:H.get il=some (.arr [n,u] 97 0 0)) (hu:SlP H u us) (hL:us.length≤1000000) (ys:List (Pr×Int)) (Z7:yv 1 us=ys):
  ItC E2 170 [(il,0,0,2)] ys.length (yA ys) (DL il u) H:=by
 intro σ L B s H1 C9 V1 hj;refine Con.of rfl fun lg=>?_;have hj:B.J 0 s ⟨H1.t,H1.nx,lg⟩:=B.hJ hj (zA1 _) fun _ _=>rfl;have C9:H.nx≤(⟨H1.t,H1.nx,lg⟩:Hp).nx:=C9;have V1:∀ k,k<H.nx→(⟨H1.t,H1.nx,lg⟩:Hp).get k=H.get k:=V1;have e0:H1.nx=(⟨H1.t,H1.nx,lg⟩:Hp).nx:=rfl;rw[e0];clear e0;generalize (⟨H1.t,H1.nx,lg⟩:Hp)=H1 at hj C9 V1 ⊢;have C5:H1.get il=some (.arr [n,u] 97 0 0):=by rw[V1 _ hil];exact hg
 have hil1:il<H1.nx:=zA0 hil C9;have G2:SlP H1 u us:=SlC.dp hu C9 V1;have hnu:∀ id∈(AV.one u).ids,¬B.fp s id:=fun id h hf=>(B.hl hj hf).2 (.inr h);have jend:∀ (j:Nat) (s3:σ) (H3:Hp),j=ys.length→B.J j s3 H3→B.J ys.length s3 H3:=fun j s3 H3 e h=>by subst e;exact h
 refine C1.body (E:=E2) (nt:=35) (res:=[]) Tryz.func170 rfl rfl rfl rfl rfl fun tm A0=>?_;have h0:=A0 0 _ rfl;have h1:=A0 1 _ rfl;clear A0;refine qW (qA ae (qA h0 (qA h1 (qA bW (qA bX (qA C5 (qA hil1 (qA dt (qA G2.len G2.lt))))))))) ?_;refine R1.uq fun K k1 k2 k3 k4=>?_;refine R1.loop (fun k A H2=>∃ (i:Nat) (s2:σ) (val:Int),k=us.length - i∧i≤us.length∧i≤ys.length∧ys.drop i=yv val (us.drop i)∧1≤val∧val≤1099511627776∧B.J i s2 H2∧Fr (B.fp s) H1 H2∧(∀ k,B.fp s2 k→B.fp s k∨H1.nx≤k) ∧
  slot A.tm 0=.one (.o (.yl L))∧slot A.tm 3=.one (.i .i64 val)∧slot A.tm 7=.one u∧slot A.tm 8=.one (.i .i64 (us.length:Int))∧slot A.tm 9=.one (.i .i64 (i:Int))∧A.nt=35∧A.dfr=[]) ?_ us.length
  ⟨0,s,1,rfl,Nat.zero_le _,Nat.zero_le _,Z7.symm,by omega,by omega,hj,Fr.refl _,fun _ h=>.inl h,?_⟩
 ·clear h0 h1 tm;rintro k A H2 ⟨i,s2,val,rfl,hi,hiy,Y7,D2,N2,hj2,hf2,I6,t0,t3,t7,t8,t9,B0,C0⟩;have O3:SlP H2 u us:=SlC.fr G2 hf2 hnu;have fin:∀ (e:ax),e=.normal∨e=.ret→∀ s3 H3 A3,B.J ys.length s3 H3∨B.F s3 H3→Fr (B.fp s) H1 H3→(∀ k,B.fp s3 k→B.fp s k∨H1.nx≤k)→A3.dfr=[]→∃ v H4,aC E2 [] (e,A3,H3)=.ok [(v,H4)]∧Fr (B.fp s) H1 H4∧∀ lg',∃ s',(B.J ys.length s' ⟨H4.t,H4.nx,lg'⟩∨B.F s' ⟨H4.t,H4.nx,lg'⟩)∧∀ k,B.fp s' k→B.fp s k∨H1.nx≤k:=fun e he s3 H3 A3 hjf hf I6 hd=>
   ⟨_,H3,cu he hd,hf,fun lg'=>⟨s3,hjf.imp (fun h=>B.hJ (H:=H3) h (zA1 _) fun _ _=>rfl) (fun h=>B.hF (H:=H3) h (zA1 _) fun _ _=>rfl),I6⟩⟩
  have stop:ys.drop i=[]→i=ys.length:=fun h=>by
   have:=congrArg List.length h;rw[List.length_drop,List.length_nil] at this;omega
  refine qW (qA ae (qA t8 (qA t9 B0))) ?_;refine qE fun Kx Ky hx hy=>?_;refine di (fun hc=>hx ?_) (fun hc=>hy ?_)
  ·clear hx hy Kx Ky;have D0:i<us.length:=by omega
   obtain ⟨id,g,off,cells,rfl,hid,hg,O0⟩:=O3.open (by omega);have ex:us[i]?=some us[i]:=zB4 D0;have Z0:us.drop i=us[i]::us.drop (i+1):=List.drop_eq_getElem_cons D0;generalize us[i]=x at ex Z0;have V0:=O0 i x ex;rw[Z0,yv] at Y7;refine qV ?_;refine R1.aU fun K2 q1 q2 q3 q4=>?_;repeat refine R1.aA ?_
   refine qG (qA ae (qA t7 (qA t9 (qA B0 (qA gT (qA qP (qA ot (qA lT (qA (ixC D0) (qA hid (qA hg (qA V0.all (qA V0.le eB))))))))))))) fun K hK=>?_;refine hK _ _ ?_;clear hK K;refine R1.gen (fun A3 H3=>Gr H2 H3∧H2.nx<H3.nx∧H3.get H2.nx=some (.arr (prC x) 165 0 0)∧slot A3.tm 0=.one (.o (.yl L))∧slot A3.tm 3=.one (.i .i64 val)∧slot A3.tm 5=.one (.o (.ptr H2.nx 0 0 2))∧slot A3.tm 7=.one (.o (.sl id g off us.length 2))∧slot A3.tm 8=.one (.i .i64 (us.length:Int))∧slot A3.tm 9=.one (.i .i64 (i:Int))∧A3.nt=35∧A3.dfr=[])
    ⟨((Fr.refl _).new _).mod _ (.inl (zA1 _)),?_⟩ ?_
   ·exact qZ (qA t0 (qA t3 (qA t7 (qA t8 (qA t9 (qA B0 (qA C0 eB)))))))
   clear t0 t3 t7 t8 t9 B0 C0 A;rintro A H3 ⟨g3,n3,gx,t0,t3,t5,t7,t8,t9,B0,C0⟩;have hj3:B.J i s2 H3:=B.hJ hj2 g3.nx fun k hk=>g3.get k hk zB2;have Z3:Fr (B.fp s) H1 H3:=hf2.gr g3;have J1:=zC0 i (by omega);repeat refine R1.aA ?_
   by_cases hb1:x.2<1
   ·have c1:(x.2<1)=True:=eq_true hb1;rw[zB0 (.inl hb1)] at Y7;refine qG (qA ae (qA t5 (qA B0 (qA gx (qA n3 (qA bV (qA cD (qA eB c1)))))))) fun K hK=>?_;refine hK _ _ ?_;clear hK K;refine qY ?_;refine qW B0 ?_;refine q4 _ _ (k4 _ _ (fin .ret (.inr rfl) s2 H3 _ (.inl (jend _ _ _ (stop Y7) hj3)) Z3 I6 (qd C0)))
   have c1:(x.2<1)=False:=eq_false hb1;by_cases Y6:60<x.2
   ·have c2:(60<x.2)=True:=eq_true Y6;rw[zB0 (.inr (.inl Y6))] at Y7;refine qG (qA ae (qA t5 (qA B0 (qA gx (qA n3 (qA bV (qA cD (qA eB (qA c1 c2))))))))) fun K hK=>?_;refine hK _ _ ?_;clear hK K;refine qY ?_;refine qW B0 ?_;refine q4 _ _ (k4 _ _ (fin .ret (.inr rfl) s2 H3 _ (.inl (jend _ _ _ (stop Y7) hj3)) Z3 I6 (qd C0)))
   have c2:(60<x.2)=False:=eq_false Y6;have Y8:1≤val*x.2:=by
    have:=Int.mul_le_mul D2 (by omega:1≤x.2) (by omega) (by omega);omega
   have g_:val*x.2≤1099511627776*60:=Int.mul_le_mul N2 (by omega) (by omega) (by omega);have hwm:IntKind.i64.wrap (val*x.2)=val*x.2:=au (by omega) (by omega);refine qG (qA ae (qA t5 (qA B0 (qA gx (qA n3 (qA bV (qA cD (qA eB (qA c1 c2))))))))) fun K hK=>?_;refine hK _ _ ?_;clear hK K;refine qY ?_;refine R1.bg ?_;repeat refine R1.aA ?_
   refine qG (qA ae (qA t3 (qA t5 (qA B0 (qA gx (qA n3 (qA bV (qA cD (qA eB hwm))))))))) fun K hK=>?_;refine hK _ _ ?_;clear hK K;repeat refine R1.aA ?_
   by_cases hb3:1099511627776<val*x.2
   ·have c3:(1099511627776<val*x.2)=True:=eq_true hb3;rw[zB0 (.inr (.inr hb3))] at Y7;refine qG (qA ae (qA B0 c3)) fun K hK=>?_;refine hK _ _ ?_;clear hK K;refine qY ?_;refine qW B0 ?_;refine q4 _ _ (k4 _ _ (fin .ret (.inr rfl) s2 H3 _ (.inl (jend _ _ _ (stop Y7) hj3)) Z3 I6 (qd C0)))
   have c3:(1099511627776<val*x.2)=False:=eq_false hb3;rw[zB1 (by omega)] at Y7;have S':i<ys.length:=by
    rcases Nat.lt_or_ge i ys.length with h|h
    ·exact h
    rw[List.drop_eq_nil_of_le h] at Y7;cases Y7
   have hey:ys[i]?=some (x,val*x.2):=by
    rw[List.drop_eq_getElem_cons S'] at Y7;rw[zB4 S',(List.cons.inj Y7).1]
   have hdy2:ys.drop (i+1)=yv (val*x.2) (us.drop (i+1)):=by
    rw[List.drop_eq_getElem_cons S'] at Y7;exact (List.cons.inj Y7).2
   have hp:=B.pass i s2 H3 S' hj3;rw[Rf hey] at hp;refine qG (qA ae (qA t0 (qA t5 (qA B0 (qA gx (qA n3 (qA qP (qA c3 eB)))))))) fun K hK=>?_;refine WE.conR hp fun v H4 X7 ⟨b,s3,hv,hbt,hbf,hfp3⟩=>?_;subst hv;have hf34:Fr (B.fp s) H1 H4:=Z3.then X7 fun k hk=>(I6 k hk).symm;have hfp4:∀ k,B.fp s3 k→B.fp s k∨H1.nx≤k:=fun k hk=>by
    rcases hfp3 k hk with h|h
    ·exact I6 k h
    exact .inr (zA2 Z3.nx h)
   cases b with
   | false=>
    refine qS (qA ae B0) ?_;refine hK _ _ ?_;clear hK K;refine qY ?_;refine qW B0 ?_;refine q4 _ _ (k4 _ _ (fin .ret (.inr rfl) s3 H4 _ (.inr (hbf rfl)) hf34 hfp4 (qd C0)))
   | true=>
    refine qS (qA ae B0) ?_;refine hK _ _ ?_;clear hK K;refine qY ?_;refine qW B0 ?_;refine q1 _ _ ?_;refine qW (qA B0 (qA t9 J1)) ?_;refine ⟨us.length - (i+1),by omega,i+1,s3,val*x.2,rfl,D0,S',hdy2,Y8,by omega,hbt rfl,hf34,hfp4,?_,?_,?_,?_,?_,?_,?_⟩
    ·simp only[aa,Nat.reduceEqDiff,reduceIte,t0]
    ·simp only[aa,Nat.reduceEqDiff,reduceIte]
    ·simp only[aa,Nat.reduceEqDiff,reduceIte,t7]
    ·simp only[aa,Nat.reduceEqDiff,reduceIte,t8]
    ·simp only[aa,Nat.reduceEqDiff,reduceIte]
    ·simp only[aE,B0]
    simp only[ak,C0]
  clear hx hy Kx Ky;have E3:i=us.length:=by omega
  rw[E3,List.drop_length,yv] at Y7;refine qW B0 ?_;refine k2 _ _ ?_;refine fin .normal (.inl rfl) s2 H2 _ (.inl (jend _ _ _ (stop (by rw[E3];exact Y7)) hj2)) hf2 I6 (qd C0)
 all_goals simp only[aa,Nat.reduceEqDiff,reduceIte,h0,h1,aE,ak,and_self,true_and]
 all_goals first|rfl|exact ⟨rfl,trivial⟩
theorem yi (H:Hp) (n u:AC) (hu:ltV (.one u) H.nx):
  Con E2 119 [.agg [n,u]] H (fun _=>False) fun r H'=>r=.one (.o (.clo 170 [(H.nx,0,0,2)]))∧H'.get H.nx=some (.arr [n,u] 97 0 0)∧H.nx<H'.nx:=by
 refine Con.of rfl fun lg=>?_;have e0:H.nx=(⟨H.t,H.nx,lg⟩:Hp).nx:=rfl;rw[e0];clear e0;generalize (⟨H.t,H.nx,lg⟩:Hp)=H at hu ⊢;refine C1.body (E:=E2) (nt:=4) (res:=[.tmp 2]) Tryz.func119 rfl rfl rfl rfl rfl fun tm A0=>?_;have h0:=A0 0 _ rfl;clear A0;refine qW (qA ae h0) ?_;refine ⟨_,_,ai (.o (.clo 170 [(H.nx,0,0,2)])) (.inr rfl) rfl qp,(Fr.refl _).new _,fun _=>⟨rfl,?_,?_⟩⟩
 ·exact aG (H:=H) (o:=.arr [n,u] 97 0 0) rfl
 exact zA6 _
def okU (us:List Pr) (i:Nat) (x:Pr):Bool:=nmB x.1&&!((us.take i).any fun y=>y.1==x.1)&&((x.2==1)==((i:Int)==0))
def iA (n:List UInt8) (us:List Pr):Bool:=
 nmB n&&!((us.length:Int)==0)&&decide ((us.length:Int)≤12)&&decide ((yv 1 us).length=us.length)&&(List.range us.length).all fun i=>okU us i (us.getD i ([],0))
def bN (n:List UInt8) (us:List Pr):Int:=if iA n us=true then 0 else 10
theorem RU {n:List UInt8} {us:List Pr} {i:Nat} {x:Pr} (hx:us[i]?=some x) (h:okU us i x=false):iA n us=false:=by
 have D0:i<us.length:=by
  rcases Nat.lt_or_ge i us.length with h|h
  ·exact h
  rw[List.getElem?_eq_none h] at hx;cases hx
 have:((List.range us.length).all fun i=>okU us i (us.getD i ([],0)))=false:=List.all_eq_false.2 ⟨i,List.mem_range.2 D0,by rw[List.getD_eq_getElem?_getD,hx];show ¬okU us i x=true;rw[h];decide⟩;unfold iA;rw[this,Bool.and_false]
def iB (us:List Pr) (i:Nat):List (List UInt8×AC):=(us.take i).map fun x=>(x.1,.b true)
theorem zf {us:List Pr} {i:Nat} (h:i≤us.length):(iB us i).length=i:=by
 unfold iB;rw[List.length_map,List.length_take];omega
theorem FP (us:List Pr) (i:Nat) (s:List UInt8):atK (iB us i) s=if (us.take i).any (fun y=>y.1==s)=true then some (.b true) else none:=by
 unfold iB;induction us.take i with
 | nil=>rfl
 | cons x l ih=>
  show (if x.1=s then some (AC.b true) else atK (l.map fun x=>(x.1,AC.b true)) s)=_;rw[ih,List.any_cons];by_cases h:x.1=s
  ·rw[zB0 h,h,beq_self_eq_true,Bool.true_or,zB0 rfl]
  rw[zB1 h,zB5 h,Bool.false_or]
theorem JM {us:List Pr} {i:Nat} {x:Pr} (hx:us[i]?=some x):iB us (i+1)=iB us i++[(x.1,.b true)]:=by
 obtain ⟨D0,rfl⟩:=List.getElem?_eq_some_iff.1 hx;unfold iB;rw[List.take_succ_eq_append_getElem D0,List.map_append];rfl
theorem SE {H:Hp} {m:Nat} {us:List Pr} {i:Nat} {x:Pr} (hg:H.get m=some (hY (iB us i))) (hx:us[i]?=some x) (hs:((us.take i).any fun y=>y.1==x.1)=false):
  aT Tryz.prog H 9 (.one (.o (.mp m))) (.one (.o (.str x.1))) (.one (.b true))=.val aF (H.mod m (hY (iB us (i+1)))):=by
 rw[JM hx];exact vO BD hg (by rw[FP,hs];rfl)
theorem fH (t:PT AV) (d i:Nat) (v:AV):slot (t.set d v) i=if i=d then v else slot t i:=by
 unfold slot;rw[PT.cS];by_cases h:i=d
 ·rw[zB0 h,zB0 h];rfl
 rw[zB1 h,zB1 h]
theorem zA {H:Hp} {m:Nat} {us:List Pr} {i:Nat} {s:List UInt8} (hg:H.get m=some (hY (iB us i))):
  bk Tryz.prog H 9 (.one (.b false)) (.one (.o (.mp m))) (.one (.o (.str s))) false=.val (.one (.b ((us.take i).any fun y=>y.1==s))) H:=by
 rw[wG BD hg,FP];cases (us.take i).any (fun y=>y.1==s) <;> rfl
theorem Fu (H:Hp) (b:Bool) (e:Int):Con E2 120 [.one (.b b),.one (.i .i64 e)] H (fun _=>False) fun r _=>r=.one (.i .i64 (if b=true then 0 else e)):=by
 refine Con.of rfl fun lg=>?_;generalize (⟨H.t,H.nx,lg⟩:Hp)=H;refine C1.body (E:=E2) (nt:=7) (res:=[.tmp 4]) Tryz.func120 rfl rfl rfl rfl rfl fun tm A0=>?_;have h0:=A0 0 _ rfl;have h1:=A0 1 _ rfl;clear A0;cases b with
 | true=>
  refine qW (qA ae (qA h0 h1)) ?_;refine qY ?_;refine qV ?_;exact ⟨_,_,ai (.i .i64 0) (.inr rfl) rfl qp,Fr.refl _,fun _=>rfl⟩
 | false=>
  refine qW (qA ae (qA h0 h1)) ?_;refine qY ?_;refine qW h1 ?_;exact ⟨_,_,ai (.i .i64 e) (.inr rfl) rfl qp,Fr.refl _,fun _=>rfl⟩
theorem sD (H:Hp) (n:List UInt8) (u:AC) (us:List Pr) (hu:SlP H u us):
  Con E2 67 [.agg [.o (.str n),u]] H (fun _=>False) fun r _=>r=.one (.i .i64 (bN n us)):=by
 refine Con.of rfl fun lg=>?_;have hu:SlP ⟨H.t,H.nx,lg⟩ u us:=hu;generalize (⟨H.t,H.nx,lg⟩:Hp)=H at hu ⊢;refine C1.body (E:=E2) (nt:=55) (res:=[.cell 2 38]) Tryz.func67 rfl rfl rfl rfl rfl fun tm A0=>?_;have h0:=A0 0 _ rfl;clear A0;refine qG (qA ae (qA h0 qK)) fun K hK=>?_;refine hK _ _ ?_;clear hK K;have J4:∀ id∈(AV.one u).ids,id<H.nx:=hu.lt;refine R1.gen (fun A1 H1=>Gr H H1∧H.nx+1<H1.nx∧H1.get H.nx=some (.arr [.o (.str n),u] 97 0 0)∧H1.get (H.nx+1)=some (.arr [.i .i64 0] 38 0 0)∧slot A1.tm 1=.one (.o (.ptr H.nx 0 0 2))∧slot A1.tm 2=.one (.o (.ptr (H.nx+1) 0 0 1))∧A1.nt=55∧A1.dfr=[])
  ⟨((Fr.refl _).new _).new _,?_⟩ ?_
 ·exact qU
 rintro A1 H1 ⟨g1,n1,r1,r2,t1,t2,B0,C0⟩;clear h0 tm;have G2:SlP H1 u us:=hu.gr g1;obtain ⟨c1,x_⟩:∃ c,c=H.nx:=⟨_,rfl⟩;obtain ⟨c2,I'⟩:∃ c,c=H.nx+1:=⟨_,rfl⟩;have h12:c1<c2:=by omega
 have X4:H.nx≤c1:=by omega
 rw[←x_] at r1 t1 J4;rw[←I'] at r2 t2 n1;have l1:c1<H1.nx:=by omega
 have fin:∀ (e:ax) (A:ab) (H2 H3:Hp) (v:Int),(e=.normal∨e=.ret)→closeAll H2 A.dfr=some H3→Gr H H3→slot A.tm 2=.one (.o (.ptr c2 0 0 1))→H3.get c2=some (.arr [.i .i64 v] 38 0 0)→v=bN n us →
   ∃ w H4,aC E2 [.cell 2 38] (e,A,H2)=.ok [(w,H4)]∧Gr H H4∧∀ _:List Nat,w=.one (.i .i64 (bN n us)):=fun e A H2 H3 v he hd hg hs hr hv=>
  ⟨_,H3,BQ (c:=.i .i64 v) rn he hd hs (by rw[hr];exact cy (zA1 _) (zA1 _)) (zA1 _) (zA1 _) rfl,hg,fun _=>by rw[hv]⟩
 repeat refine R1.aA ?_
 refine qG (qA ae (qA t1 (qA B0 (qA r1 (qA l1 (qA fa (qA aQ eG))))))) fun K hK=>?_;refine WE.fE (mI n) fun H2 g2 n2 e2=>?_;have r1:H2.get c1=some (.arr [.o (.str n),u] 97 0 0):=(e2 c1).trans r1;have r2:H2.get c2=some (.arr [.i .i64 0] 38 0 0):=(e2 c2).trans r2;rw[←n2] at l1 n1;have O3:SlP H2 u us:=G2.gr g2;have g2:Gr H H2:=g1.gr g2;clear g1 e2 n2 G2;have bad:∀ (A:ab),slot A.tm 2=.one (.o (.ptr c2 0 0 1))→A.nt=55→A.dfr=[]→bN n us=10→∃ w H4,aC E2 [.cell 2 38] (.ret,A,H2.mod c2 (.arr [.i .i64 10] 38 0 0))=.ok [(w,H4)]∧Gr H H4∧∀ _:List Nat,w=.one (.i .i64 (bN n us)):=fun A hs hn hd hv=>
  fin .ret A _ _ 10 (.inr rfl) (by rw[hd];rfl) (g2.mod _ (.inl (by omega))) hs (aj rfl) hv.symm
 cases N8:nmB n with
 | false=>
  refine qS (qA ae (qA t1 B0)) ?_;refine hK _ _ ?_;clear hK K;refine qY ?_;refine qW (qA ae (qA t2 (qA B0 (qA dI (qA r2 n1))))) ?_;exact bad _ (by simp only[aa,Nat.reduceEqDiff,reduceIte,t2]) (by simp only[aE,B0]) (qd C0) (by unfold bN iA;rw[N8];rfl)
 | true=>
  cases hz:((us.length:Int)==0) with
  | true=>
   refine qS (qA ae (qA t1 (qA B0 (qA r1 (qA l1 (qA bW (qA bX (qA dt (qA O3.len (qA O3.lt hz)))))))))) ?_;refine hK _ _ ?_;clear hK K;refine qY ?_;refine qW (qA ae (qA t2 (qA B0 (qA dI (qA r2 n1))))) ?_;exact bad _ (by simp only[aa,Nat.reduceEqDiff,reduceIte,t2]) (by simp only[aE,B0]) (qd C0) (by unfold bN iA;rw[hz];simp only[Bool.not_true,Bool.and_false,Bool.false_and,Bool.false_eq_true,if_false])
  | false=>
   by_cases h12':(12:Int)<us.length
   ·have c12:((12:Int)<us.length)=True:=eq_true h12';refine qS (qA ae (qA t1 (qA B0 (qA r1 (qA l1 (qA bW (qA bX (qA dt (qA O3.len (qA O3.lt (qA hz c12))))))))))) ?_;refine hK _ _ ?_;clear hK K;refine qY ?_;refine qW (qA ae (qA t2 (qA B0 (qA dI (qA r2 n1))))) ?_;exact bad _ (by simp only[aa,Nat.reduceEqDiff,reduceIte,t2]) (by simp only[aE,B0]) (qd C0) (by unfold bN iA;rw[decide_eq_false (by omega:¬(us.length:Int)≤12)];simp only[Bool.and_false,Bool.false_and,Bool.false_eq_true,if_false])
   have c12:((12:Int)<us.length)=False:=eq_false h12';refine qS (qA ae (qA t1 (qA B0 (qA r1 (qA l1 (qA bW (qA bX (qA dt (qA O3.len (qA O3.lt (qA hz c12))))))))))) ?_;refine hK _ _ ?_;clear hK K;refine qE fun Kx Ky hx hy=>?_;refine hy ?_;clear hx hy Kx Ky bad;refine R1.bg ?_;repeat refine R1.aA ?_
   refine qG (qA ae (qA B0 (qA Iw JH))) fun K hK=>?_;refine hK _ _ ?_;clear hK K;refine R1.gen (fun A3 H3=>Gr H H3∧H3.nx=H2.nx+2∧H3.get c1=some (.arr [.o (.str n),u] 97 0 0)∧H3.get c2=some (.arr [.i .i64 0] 38 0 0)∧H3.get H2.nx=some (hY (iB us 0))∧H3.get (H2.nx+1)=some (.arr [.o (.mp H2.nx)] 191 0 0) ∧
    slot A3.tm 1=.one (.o (.ptr c1 0 0 2))∧slot A3.tm 2=.one (.o (.ptr c2 0 0 1))∧slot A3.tm 3=.one (.o (.ptr (H2.nx+1) 0 0 1))∧A3.nt=55∧A3.dfr=[])
    ⟨((g2.new _).new _).mod _ (.inl (by have:=g2.nx;omega)),rfl,?_,?_,?_,?_,?_⟩ ?_
   ·rw[az (by omega),aZ (by rw[gN];omega),aZ l1];exact r1
   ·rw[az (by omega),aZ (by rw[gN];omega),aZ n1];exact r2
   ·rw[az (by omega),aZ (by rw[gN];omega),aG rfl];rfl
   ·exact aj rfl
   ·simp only[qB,aq,Nat.reduceLT,Nat.reduceEqDiff,Nat.reduceLeDiff,reduceIte,Nat.reduceAdd,Nat.reduceSub,Nat.reduceMul,Int.reduceLT,Int.reduceLE,Int.reduceBEq,t1,t2,B0,C0,and_self]
   rintro A H3 ⟨g3,n3,q1,q2,qm,q3,t1,t2,t3,B0,C0⟩;have R7:SlP H3 u us:=hu.gr g3;obtain ⟨m,hm⟩:∃ m,m=H2.nx:=⟨_,rfl⟩;obtain ⟨c3,N_⟩:∃ c,c=H2.nx+1:=⟨_,rfl⟩;rw[←N_] at q3 t3;rw[←hm] at qm q3;have o1:c2<m:=by omega
   have o2:m<c3:=by omega
   have o3:c3<H3.nx:=by omega
   clear hm N_ n3 r1 r2 O3 l1 n1;have l1:c1<H3.nx:=by omega
   repeat refine R1.aA ?_
   refine qG (qA ae (qA t1 (qA B0 (qA q1 (qA l1 (qA da Fg)))))) fun K hK=>?_;refine WE.con (yi H3 (.o (.str n)) u R7.lt) fun v H5 g5 ⟨hv,hil,hln⟩=>?_;subst hv;refine qS (qA ae B0) ?_;refine hK _ _ ?_;clear hK K;refine R1.Jj (fun A4=>slot A4.tm 1=.one (.o (.ptr c1 0 0 2))∧slot A4.tm 2=.one (.o (.ptr c2 0 0 1))∧slot A4.tm 3=.one (.o (.ptr c3 0 0 1))∧slot A4.tm 23=.one (.o (.clo 170 [(H3.nx,0,0,2)]))∧A4.nt=55∧A4.dfr=[])
    ⟨by simp only[aa,Nat.reduceEqDiff,reduceIte,t1],by simp only[aa,Nat.reduceEqDiff,reduceIte,t2],by simp only[aa,Nat.reduceEqDiff,reduceIte,t3],by simp only[aa,Nat.reduceEqDiff,reduceIte],by simp only[aE,B0],by simp only[ak,C0]⟩ ?_
   clear t1 t2 t3 B0 C0 A;rintro A ⟨t1,t2,t3,t23,B0,C0⟩;have gg:Gr H H5:=g3.gr g5;have q1:H5.get c1=some (.arr [.o (.str n),u] 97 0 0):=by rw[g5.get _ l1 zB2];exact q1
   have q2:H5.get c2=some (.arr [.i .i64 0] 38 0 0):=by rw[g5.get _ (by omega) zB2];exact q2
   have q3:H5.get c3=some (.arr [.o (.mp m)] 191 0 0):=by rw[g5.get _ o3 zB2];exact q3
   have qm:H5.get m=some (hY (iB us 0)):=by rw[g5.get _ (by omega) zB2];exact qm
   have T9:SlP H5 u us:=R7.gr g5;have o4:c3<H5.nx:=zA0 o3 g5.nx;have l3:c1<H3.nx:=l1;obtain ⟨il,T'⟩:∃ i,i=H3.nx:=⟨_,rfl⟩;rw[←T'] at hil hln t23 o3 l3;clear T' l1;generalize Z7:yv 1 us=ys;have hyl:ys.length≤us.length:=by rw[←Z7];exact Bw 1 us
   have husL:us.length≤12:=by omega
   refine R1.aU fun K k1 k2 k3 k4=>?_;refine R1.range (σ:=Unit) (g:=170) (caps:=[(il,0,0,2)]) (n:=ys.length) (ar:=yA ys) (D:=DL il u) (by simp only[Ku,t23]) xZ (fun _=>rfl)
    (zD H5 il (.o (.str n)) u us hln hil T9 (by omega) ys Z7) (fun k hk=>by
     rcases hk with h|h
     ·omega
     exact Nat.lt_trans (J4 k h) (by omega)) (by rw[B0];rfl) (fun i _=>PQ ys i)
    (fun i _ H6=>H6.get m=some (hY (iB us i))∧H6.get c3=some (.arr [.o (.mp m)] 191 0 0)∧H6.get c2=some (.arr [.i .i64 0] 38 0 0)∧(∀ j,j<i→okU us j (us.getD j ([],0))=true)∧H5.nx≤H6.nx)
    (fun e _ H6=>e=.ret∧H6.get c2=some (.arr [.i .i64 10] 38 0 0)∧iA n us=false∧H5.nx≤H6.nx)
    (fun _ k=>k=m∨k=c2) ?_ ?_ ?_ () ?_ ?_ ?_ ?_
   ·rintro i s H6 H7 ⟨a1,a2,a3,a4,a5⟩ hs;exact ⟨by rw[hs.get _ (by omega) (by omega)];exact a1,by rw[hs.get _ (by omega) (by omega)];exact a2,by rw[hs.get _ (by omega) (by omega)];exact a3,a4,zA2 a5 hs.nx⟩
   ·rintro e s H6 H7 ⟨a1,a2,a3,a5⟩ hs;exact ⟨a1,by rw[hs.get _ (by omega) (by omega)];exact a2,a3,zA2 a5 hs.nx⟩
   ·rintro i s H6 k ⟨a1,a2,a3,a4,a5⟩ hk;have:k<H5.nx∧c1<k∧k<il:=by rcases hk with rfl|rfl <;> omega
    refine ⟨by omega,by omega,by omega,fun h=>?_⟩;rcases h with h|h
    ·omega
    have:=J4 k h;omega
   ·intro H6 g6 n6;exact ⟨by rw[g6.get _ (by omega) zB2];exact qm,by rw[g6.get _ o4 zB2];exact q3,by rw[g6.get _ (by omega) zB2];exact q2,fun j hj=>absurd hj (Nat.not_lt_zero j),g6.nx⟩
   ·rintro i _ H6 hi ⟨a1,a2,a3,a4,a5⟩ n6;have hy:ys[i]?=some ys[i]:=zB4 hi;generalize ys[i]=y at hy;have m9:us[i]?=some y.1:=TB 1 us i y (by rw[Z7];exact hy);rw[Rf hy];obtain ⟨x,yval⟩:=y;have m9:us[i]?=some x:=m9;refine R1.Jj (fun A7=>slot A7.tm 1=.one (.o (.ptr c1 0 0 2))∧slot A7.tm 2=.one (.o (.ptr c2 0 0 1))∧slot A7.tm 3=.one (.o (.ptr c3 0 0 1))∧slot A7.tm 24=.agg (prC x)∧A7.nt=55∧A7.dfr=[]) ⟨?_,?_,?_,?_,B0,rfl⟩ ?_
    ·show slot ((A.tm.set 24 _).set 25 _) 1=_;simp only[fH,Nat.reduceEqDiff,reduceIte,t1]
    ·show slot ((A.tm.set 24 _).set 25 _) 2=_;simp only[fH,Nat.reduceEqDiff,reduceIte,t2]
    ·show slot ((A.tm.set 24 _).set 25 _) 3=_;simp only[fH,Nat.reduceEqDiff,reduceIte,t3]
    ·show slot ((A.tm.set 24 _).set 25 _) 24=_;simp only[fH,Nat.reduceEqDiff,reduceIte]
    rintro A7 ⟨u1,u2,u3,u24,unt,udf⟩;refine qG (qA ae (qA u24 (qA unt (qA lT (qA ot eB))))) fun K hK=>?_;refine hK _ _ ?_;clear hK K;refine ⟨rfl,((Fr.refl _).new _).mod _ (.inl (zA1 _)),fun H8 n8 s8=>?_⟩;have gu:H8.get H6.nx=some (.arr (prC x) 165 0 0):=by
     rw[s8.get _ (by show H6.nx<H6.nx+1;omega) (by omega)];exact aj rfl
    have keep:∀ k,k<H5.nx→H8.get k=H6.get k:=fun k hk=>by
     rw[s8.get _ (by show k<H6.nx+1;omega) (by omega),az (by omega),aZ (by omega)]
    have n8':H8.nx=H6.nx+1:=n8;have b1:H8.get m=some (hY (iB us i)):=(keep m (by omega)).trans a1;have b3:H8.get c3=some (.arr [.o (.mp m)] 191 0 0):=(keep c3 o4).trans a2;have b2:H8.get c2=some (.arr [.i .i64 0] 38 0 0):=(keep c2 (by omega)).trans a3;have lu:H6.nx<H8.nx:=by omega
    clear keep n8 n8' s8 a1 a2 a3;refine R1.uq fun K2 p1 p2 p3 p4=>?_;repeat refine R1.aA ?_
    refine qG (qA ae (qA unt (qA gu (qA lu (qA bK (qA aQ (qA eB eG))))))) fun K hK=>?_;refine WE.fE (mI x.1) fun H9 g9 n9 e9=>?_;have gu:H9.get H6.nx=some (.arr (prC x) 165 0 0):=(e9 _).trans gu;have b1:H9.get m=some (hY (iB us i)):=(e9 m).trans b1;have b3:H9.get c3=some (.arr [.o (.mp m)] 191 0 0):=(e9 c3).trans b3;have b2:H9.get c2=some (.arr [.i .i64 0] 38 0 0):=(e9 c2).trans b2;rw[←n9] at lu;have n59:H5.nx≤H9.nx:=by omega
    have lc2:c2<H9.nx:=by omega
    have lc3:c3<H9.nx:=by omega
    have lm:m<H9.nx:=by omega
    have bad:∀ (e:ax) (A2:ab),e=.ret→A2.dfr=[]→okU us i x=false→A2.dfr=[]∧Fr (fun k=>(k=m∨k=c2)∨H6.nx≤k) H8 (H9.mod c2 (.arr [.i .i64 10] 38 0 0))∧∃ s':Unit,
      (e=ax.normal→(H9.mod c2 (.arr [.i .i64 10] 38 0 0)).get m=some (hY (iB us (i+1)))∧(H9.mod c2 (.arr [.i .i64 10] 38 0 0)).get c3=some (.arr [.o (.mp m)] 191 0 0)∧(H9.mod c2 (.arr [.i .i64 10] 38 0 0)).get c2=some (.arr [.i .i64 0] 38 0 0)∧(∀ (j:Nat),j<i+1→okU us j (us.getD j ([],0))=true)∧H5.nx≤(H9.mod c2 (.arr [.i .i64 10] 38 0 0)).nx) ∧
      (e≠ax.normal→e=ax.ret∧(H9.mod c2 (.arr [.i .i64 10] 38 0 0)).get c2=some (.arr [.i .i64 10] 38 0 0)∧iA n us=false∧H5.nx≤(H9.mod c2 (.arr [.i .i64 10] 38 0 0)).nx) ∧
      ∀ (k:Nat),k=m∨k=c2→(k=m∨k=c2)∨H6.nx≤k:=fun e A2 he hd hb=>
     ⟨hd,(g9.none).mod _ (.inr (.inl (.inr rfl))),(),fun h=>(by rw[he] at h;cases h),fun _=>⟨he,aj rfl,RU m9 hb,n59⟩,fun k hk=>.inl hk⟩
    cases hq:nmB x.1 with
    | false=>
     refine qS (qA ae unt) ?_;refine hK _ _ ?_;clear hK K;refine qY ?_;refine qW (qA ae (qA u2 (qA unt (qA dI (qA b2 lc2))))) ?_;exact p4 _ _ (bad _ _ rfl (by simp only[ak,udf]) (by unfold okU;rw[hq];rfl))
    | true=>
     cases C6:((us.take i).any fun y=>y.1==x.1) with
     | true=>
      simp only[qB,aq,Nat.reduceLT,Nat.reduceEqDiff,Nat.reduceLeDiff,reduceIte,Nat.reduceAdd,Nat.reduceSub,Nat.reduceMul,Int.reduceLT,Int.reduceLE,Int.reduceBEq,ae,u3,unt,b3,lc3,gu,lu,sC,wh,Kv,zA b1,lm,bK,aQ,prC,C6];refine hK _ _ ?_;clear hK K;refine qY ?_;refine qW (qA ae (qA u2 (qA unt (qA dI (qA b2 lc2))))) ?_;exact p4 _ _ (bad _ _ rfl (by simp only[ak,udf]) (by unfold okU;rw[C6,Bool.not_true,Bool.and_false,Bool.false_and]))
     | false=>
      have hlm:cG H9 2 (.one (.o (.mp m)))=.val (.one (.i .i64 (i:Int))) H9:=by
       rw[TA b1,zf (by have:=Bw 1 us;rw[Z7] at this;omega)]
      simp only[qB,aq,Nat.reduceLT,Nat.reduceEqDiff,Nat.reduceLeDiff,reduceIte,Nat.reduceAdd,Nat.reduceSub,Nat.reduceMul,Int.reduceLT,Int.reduceLE,Int.reduceBEq,ae,u3,unt,b3,lc3,gu,lu,sC,wh,Kv,zA b1,lm,bK,bV,aQ,cD,prC,C6,BG,hlm,Jd UJ];refine hK _ _ ?_;clear hK K;refine qE fun Kx Ky hx hy=>?_;refine di (fun hd=>hx ?_) (fun hd=>hy ?_)
      ·clear hx hy Kx Ky;refine qW (qA ae (qA u2 (qA unt (qA dI (qA b2 lc2))))) ?_;exact p4 _ _ (bad _ _ rfl (by simp only[ak,udf]) (by unfold okU;rw[hq,C6];simpa using hd))
      clear hx hy Kx Ky bad;have Y1:okU us i x=true:=by unfold okU;rw[hq,C6];simpa using hd
      refine R1.bg ?_;refine R1.xA fun K hK=>?_;simp only[qB,aq,Nat.reduceLT,Nat.reduceEqDiff,Nat.reduceLeDiff,reduceIte,Nat.reduceAdd,Nat.reduceSub,Nat.reduceMul,Int.reduceLT,Int.reduceLE,Int.reduceBEq,ae,u3,unt,b3,lc3,gu,lu,sC,wh,bK,aQ,prC,lm,SE b1 m9 C6];refine hK _ _ ?_;clear hK K;refine p1 _ _ ⟨by simp only[ak,udf],(g9.none).mod _ (.inr (.inl (.inl rfl))),(),fun _=>⟨aj rfl,?_,?_,fun j hj=>?_,n59⟩,fun h=>absurd rfl h,fun k hk=>.inl hk⟩
      ·rw[az (by omega)];exact b3
      ·rw[az (by omega)];exact b2
      rcases Nat.lt_or_ge j i with h|h
      ·exact a4 j h
      have:j=i:=by omega
      subst this;rw[List.getD_eq_getElem?_getD,m9];exact Y1
   ·rintro s' H6 ⟨a1,a2,a3,a4,a5⟩ n6 hd6 e8 I6;have g6:Gr H H6:=gg.then e8 fun k hk=>.inl (by rcases hk with rfl|rfl <;> omega);have q1:H6.get c1=some (.arr [.o (.str n),u] 97 0 0):=by rw[e8.get _ (by omega) (fun h=>by rcases h with h|h <;> omega)];exact q1
    have hu6:SlP H6 u us:=hu.gr g6;have hlm:cG H6 2 (.one (.o (.mp m)))=.val (.one (.i .i64 (ys.length:Int))) H6:=by
     rw[TA a1,zf hyl]
    have lc1:c1<H6.nx:=by omega
    have lc2:c2<H6.nx:=by omega
    have lc3:c3<H6.nx:=by omega
    have lm:m<H6.nx:=by omega
    refine k1 _ _ ?_;refine R1.Jj (fun A7=>slot A7.tm 1=.one (.o (.ptr c1 0 0 2))∧slot A7.tm 2=.one (.o (.ptr c2 0 0 1))∧slot A7.tm 3=.one (.o (.ptr c3 0 0 1))∧A7.nt=55∧A7.dfr=[H5.nx]) ⟨t1,t2,t3,B0,by show H5.nx::A.dfr=_;rw[C0]⟩ ?_;rintro A7 ⟨u1,u2,u3,unt,udf⟩;refine qG (qA ae (qA u1 (qA u3 (qA unt (qA a2 (qA lc3 (qA lc1 (qA lm (qA q1 (qA bW (qA bX (qA dt (qA sC (qA BG (qA hlm (qA hu6.len (qA hu6.lt LW))))))))))))))))) fun K hK=>?_;refine WE.con (Fu H6 _ 10) fun v H7 g7 hv=>?_;subst hv;have b2:H7.get c2=some (.arr [.i .i64 0] 38 0 0):=by rw[g7.get _ lc2 zB2];exact a3
    have lc2:c2<H7.nx:=zA0 lc2 g7.nx;have hd7:H7.get H5.nx=some (.oth (.dfr true)):=by rw[g7.get _ (by omega) zB2];exact hd6
    have g67:Gr H H7:=g6.gr g7;refine qS (qA ae (qA u2 (qA unt (qA dI (qA b2 lc2))))) ?_;refine hK _ _ ?_;clear hK K;refine qV ?_;refine fin .ret _ _ _ _ (.inr rfl) (by simp only[ak,udf];exact iO (by rw[az (by omega)];exact hd7)) ((g67.mod _ (.inl (by omega))).mod _ (.inl (by have:=gg.nx;omega))) (by simp only[aa,Nat.reduceEqDiff,reduceIte,u2]) (by rw[az (by omega)];exact aj rfl) ?_;unfold bN;by_cases hlen:(ys.length:Int)=us.length
    ·have F1:iA n us=true:=by
      unfold iA;rw[N8,hz,Z7,decide_eq_true (by omega:(us.length:Int)≤12),decide_eq_true (by omega:ys.length=us.length)];simp only[Bool.not_false,Bool.true_and,List.all_eq_true];intro j hj;exact a4 j (by have:=List.mem_range.1 hj;omega)
     rw[F1,hlen,beq_self_eq_true]
    have F1:iA n us=false:=by
     unfold iA;rw[Z7,decide_eq_false (by omega:¬ys.length=us.length),Bool.and_false,Bool.false_and]
    rw[F1,zB5 hlen]
   rintro e s' H6 Y0 ⟨rfl,a2,a3,a5⟩ n6 hd6 e8 I6;have g6:Gr H H6:=gg.then e8 fun k hk=>.inl (by rcases hk with rfl|rfl <;> omega);refine k4 _ _ (fin .ret _ _ _ 10 (.inr rfl) (by show closeAll H6 (H5.nx::A.dfr)=_;rw[C0];exact iO hd6) (g6.mod _ (.inl (by have:=gg.nx;omega))) t2 (by rw[az (by omega)];exact a2) ?_);unfold bN;rw[a3];rfl
theorem AU:al Tryz.prog 68=true:=by kernel_rfl
theorem fb {E:Env} {s:Tmp} {t:TypeId} {n:Nat} {A:ab} {H H2:Hp} {e:ax} {id g lim:Nat} {cells:List AC} (ht:loadT E.P t=some (true,n)) (he:e=.normal∨e=.ret) (hd:closeAll H A.dfr=some H2) (hs:slot A.tm s=.one (.o (.ptr id g 0 lim)))
  (hg:rowOf (H2.get id) g=some cells) (hl:n≤lim) (ho:cells.length=n):aC E [.cell s t] (e,A,H)=.ok [(.agg cells,H2)]:=by
 have key:(ay (closeAll H A.dfr) (R.bad "marks") fun h2=>ay (bh E.P [.cell s t] A.tm h2) (.bad "results") fun l=>.ok [(cT l,h2)])=.ok [(.agg cells,H2)]:=by
  rw[hd];have e1:jy E.P (.cell s t) A.tm H2=some (true,cells):=by
   have e0:jy E.P (.cell s t)=match loadT E.P t with
     | some p=>fun tm h=>ay (tm.get s) none fun v=>ad.rec (motive:=fun _=>Option (Bool×List AC)) (fun v _=>fB v) (fun _=>none) (fun _ _=>none) (fun _ _=>none) (fun _=>none) (bR h p.1 p.2 v)
     | none=>fun _ _=>none:=rfl
   rw[e0,ht];show ay (A.tm.get s) none (fun v=>ad.rec (motive:=fun _=>Option (Bool×List AC)) (fun v _=>fB v) (fun _=>none) (fun _ _=>none) (fun _ _=>none) (fun _=>none) (bR H2 true n v))=_;rw[tY hs];show ad.rec (motive:=fun _=>Option (Bool×List AC)) (fun v _=>fB v) (fun _=>none) (fun _ _=>none) (fun _ _=>none) (fun _=>none) (bR H2 true n (.one (.o (.ptr id g 0 lim))))=_;rw[fi,hg,pJ hl (by omega),List.drop_zero,List.take_of_length_le (by omega)];rfl
  have hr:bh E.P [.cell s t] A.tm H2=some [(true,cells)]:=by
   show ay (jy E.P (.cell s t) A.tm H2) none (fun x=>ay (some []) none fun l=>some (x::l))=_;rw[e1];rfl
  show ay (bh E.P [.cell s t] A.tm H2) (R.bad "results") (fun l=>R.ok [(cT l,H2)])=_
  rw[hr];rfl
 rcases he with rfl|rfl
 ·exact key
 exact key
theorem uI (H:Hp) (n:List UInt8) (u:AC) (us:List Pr) (hu:SlP H u us) (hL:us.length≤1000000):
  Con E2 68 [.agg [.o (.str n),u]] H (fun _=>False) fun r H'=>∃ u',r=.agg [.o (.str n),u']∧SlP H' u' us∧∀ id∈(AV.one u').ids,H.nx≤id:=by
 refine Con.of rfl fun lg=>?_;have hu:SlP ⟨H.t,H.nx,lg⟩ u us:=hu;have e0:H.nx=(⟨H.t,H.nx,lg⟩:Hp).nx:=rfl;rw[e0];clear e0;generalize (⟨H.t,H.nx,lg⟩:Hp)=H at hu ⊢;refine C1.body (E:=E2) (nt:=9) (res:=[.cell 2 97]) Tryz.func68 rfl rfl rfl rfl rfl fun tm A0=>?_;have h0:=A0 0 _ rfl;clear A0;refine qG (qA ae (qA h0 eS)) fun K hK=>?_;refine hK _ _ ?_;clear hK K;refine R1.gen (fun A1 H1=>Gr H H1∧H.nx+1<H1.nx∧H1.get H.nx=some (.arr [.o (.str n),u] 97 0 0)∧H1.get (H.nx+1)=some (.arr [.o (.str []),.o .nilS] 97 0 0)∧slot A1.tm 1=.one (.o (.ptr H.nx 0 0 2))∧slot A1.tm 2=.one (.o (.ptr (H.nx+1) 0 0 2))∧A1.nt=9∧A1.dfr=[])
  ⟨((Fr.refl _).new _).new _,?_⟩ ?_
 ·exact qU
 rintro A1 H1 ⟨g1,n1,r1,r2,t1,t2,B0,C0⟩;clear h0 tm;have G2:SlP H1 u us:=hu.gr g1;have l1:H.nx<H1.nx:=by omega
 have hlu:∀ id∈(AV.one u).ids,id<H1.nx:=G2.lt;obtain ⟨z,hz,L1⟩:=LK;repeat refine R1.aA ?_
 (first|refine R1.mq (ms:=[0,1,0,4,12,31,63]) (by kernel_rfl) (by kernel_rfl) fun K hK=>?_|refine R1.lZ (ms:=[0,1,0,4,12,31,63]) (by kernel_rfl) (by kernel_rfl) fun K hK=>?_)
 simp (config:={decide:=true}) only [qB,aq,Nat.reduceLT,Nat.reduceEqDiff,Nat.reduceLeDiff,reduceIte,Nat.reduceAdd,Nat.reduceSub,Nat.reduceMul,Int.reduceLT,Int.reduceLE,Int.reduceBEq,qD,bJ,bQ,aR,reduceCtorEq,ae,t1,t2,B0,r1,l1,fa,bW,aQ,bX]
 refine Sg gT KI hz L1 (by decide) G2 (by omega) (fun id h=>by have:=hlu id h;simp (config:={decide:=true}) [aR,bJ] <;> omega) fun v c1 H2 hv hvn g2 hc=>?_;subst hc;have r2:H2.get (H.nx+1)=some (.arr [.o (.str []),.o .nilS] 97 0 0):=by rw[g2.get _ n1 zB2];exact r2
 have n2:H.nx+1<H2.nx:=zA0 n1 g2.nx;simp (config:={decide:=true}) only [qB,aq,Nat.reduceLT,Nat.reduceEqDiff,Nat.reduceLeDiff,reduceIte,Nat.reduceAdd,Nat.reduceSub,Nat.reduceMul,Int.reduceLT,Int.reduceLE,Int.reduceBEq,qD,bJ,bQ,aR,reduceCtorEq,ae,t1,t2,B0,MH eS sX,pS,pV,jg,r2,n2]
 refine hK _ _ ?_;clear hK K;refine qV ?_;have F6:SlP (H2.mod (H.nx+1) (.arr [.o (.str n),v] 97 0 0)) v us:=SlC.fr hv (X:=fun k=>k=H.nx+1) ((Fr.refl _).mod _ (.inr rfl)) fun id h hh=>by have:=hvn id h;omega
 exact ⟨_,_,fb (id:=H.nx+1) (g:=0) da (.inr rfl) (by simp only[ak,C0];rfl) (by simp only[aa,Nat.reduceEqDiff,reduceIte,t2]) (by rw[aj rfl];exact cy (zA1 _) (zA1 _)) (zA1 _) rfl,(g1.gr g2).mod _ (.inl (Nat.le_succ _)),fun _=>⟨v,rfl,F6,fun id h=>by have:=hvn id h;omega⟩⟩
abbrev Lad:=List UInt8×List Pr
def PK (H:Hp) (c:List AC) (x:Lad):Prop:=∃ u,c=[.o (.str x.1),u]∧SlP H u x.2
theorem PK.gr {H H':Hp} {c:List AC} {x:Lad} (h:PK H c x) (hg:Gr H H'):PK H' c x:=let ⟨u,h1,h2⟩:=h;⟨u,h1,h2.gr hg⟩
def fv (H:Hp) (v:AC) (ls:List Lad):Prop:=SlR PK 2 H v ls
theorem fv.gr {H H':Hp} {v:AC} {ls:List Lad} (h:fv H v ls) (hg:Gr H H'):fv H' v ls:=SlR.dp h hg.nx (fun i hi=>hg.get i hi zB2) fun _ _ h=>h.gr hg
theorem fv.len {H:Hp} {v:AC} {l:List Lad} (h:fv H v l):cG H 1 (.one v)=.val (.one (.i .i64 (l.length:Int))) H:=SlR.len h
theorem fv.lt {H:Hp} {v:AC} {l:List Lad} (h:fv H v l):ltV (.one v) H.nx:=SlR.lt h
theorem fv.open {H:Hp} {v:AC} {l:List Lad} (h:fv H v l) (hn:0<l.length):∃ id g off cells,v=.o (.sl id g off l.length 2)∧id<H.nx∧rowOf (H.get id) g=some cells ∧
  ∀ (i:Nat) (x:Lad),l[i]?=some x→∃ u,SlP H u x.2∧(cells.drop (off+i*2)).take 2=[.o (.str x.1),u]∧off+i*2+2≤cells.length∧off+i*2+1≤cells.length∧off+i*2+1+1≤cells.length ∧
   (cells.drop (off+i*2)).headD (.b false)=.o (.str x.1)∧(cells.drop (off+i*2+1)).headD (.b false)=u:=by
 obtain ⟨id,g,off,cells,e1,hid,hg,O0⟩:=SlR.open h hn;refine ⟨id,g,off,cells,e1,hid,hg,fun i x hx=>?_⟩;obtain ⟨hle,c,hc,R0,u,rfl,hu⟩:=O0 i x hx;refine ⟨u,hu,hc,hle,by omega,by omega,?_,?_⟩
 ·cases hd:cells.drop (off+i*2) with
  | nil=>rw[hd] at hc;cases hc
  | cons a r=>
   rw[hd] at hc;cases r with
   | nil=>cases hc
   | cons b r=>cases hc;rfl
 rw[←List.drop_drop];cases hd:cells.drop (off+i*2) with
 | nil=>rw[hd] at hc;cases hc
 | cons a r=>
  rw[hd] at hc;cases r with
  | nil=>cases hc
  | cons b r=>cases hc;rfl
def plN:Nat→List Lad→List (List UInt8×AC)
 | _,[]=>[]
 | n,x::ls=>(x.1,.i .i64 (n:Int))::plN (n+1) ls
def iv:Nat→List Lad→List UInt8→Option Nat
 | _,[],_=>none
 | n,x::ls,s=>if x.1=s then some n else iv (n+1) ls s
theorem JW:∀ (n:Nat) (ls:List Lad) (s:List UInt8),atK (plN n ls) s=(iv n ls s).map fun i=>.i .i64 (i:Int)
 | _,[],_=>rfl
 | n,x::ls,s=>by
  show (if x.1=s then some (AC.i .i64 (n:Int)) else atK (plN (n+1) ls) s)=Option.map _ (if x.1=s then some n else iv (n+1) ls s);by_cases h:x.1=s
  ·rw[zB0 h,zB0 h];rfl
  rw[zB1 h,zB1 h];exact JW (n+1) ls s
theorem KX:∀ (n:Nat) (ls:List Lad) (x:Lad),plN n (ls++[x])=plN n ls++[(x.1,.i .i64 ((n+ls.length:Nat):Int))]
 | n,[],x=>rfl
 | n,y::ls,x=>by
  show _::plN (n+1) (ls++[x])=_::(plN (n+1) ls++_);rw[KX (n+1) ls x];have:n+1+ls.length=n+(y::ls).length:=by rw[List.length_cons];omega
  rw[this]
theorem My {H:Hp} {m:Nat} {ls:List Lad} {s:List UInt8} (hg:H.get m=some (hY (plN 0 ls))):
  bk Tryz.prog H 9 (.one (.i .i64 0)) (.one (.o (.mp m))) (.one (.o (.str s))) true=.val (.tup [(false,[.i .i64 (((iv 0 ls s).getD 0:Nat):Int)]),(false,[.b (iv 0 ls s).isSome])]) H:=by
 rw[wG vV hg,JW];cases iv 0 ls s <;> rfl
theorem Lw:∀ (n:Nat) (ls:List Lad) (s:List UInt8) (i:Nat),iv n ls s=some i→n≤i∧i<n+ls.length∧∃ x,ls[i - n]?=some x∧x.1=s
 | _,[],_,_,h=>by cases h
 | n,x::ls,s,i,h=>by
  unfold iv at h;by_cases hx:x.1=s
  ·rw[zB0 hx] at h;cases h
   refine ⟨zA1 _,by rw[List.length_cons];omega,x,by rw[Nat.sub_self];rfl,hx⟩
  rw[zB1 hx] at h;obtain ⟨h1,h2,y,h3,h4⟩:=Lw (n+1) ls s i h;refine ⟨by omega,by rw[List.length_cons];omega,y,?_,h4⟩;have:i - n=(i - (n+1))+1:=by omega
  rw[this,List.getElem?_cons_succ];exact h3
def rO:List Lad→List Lad→Int
 | _,[]=>0
 | acc,x::ls=>if bN x.1 x.2≠0 then bN x.1 x.2 else if (iv 0 acc x.1).isSome=true then 2 else rO (acc++[x]) ls
def ni (ls:List Lad):Int:=if (32:Int)<ls.length then 3 else rO [] ls
def oH (H:Hp) (p:AC) (ls:List Lad):Prop:=
 ∃ kb m lad gr fc,p=.o (.ptr kb 0 0 4)∧kb<H.nx∧m<H.nx∧H.get kb=some (.arr [lad,.o (.mp m),gr,fc] 132 0 0)∧H.get m=some (hY (plN 0 ls))∧fv H lad ls
theorem oH.gr {H H':Hp} {p:AC} {ls:List Lad} (h:oH H p ls) (hg:Gr H H'):oH H' p ls:=by
 obtain ⟨kb,m,lad,gr,fc,h1,h2,h3,h4,h5,h6⟩:=h;exact ⟨kb,m,lad,gr,fc,h1,zA0 h2 hg.nx,zA0 h3 hg.nx,by rw[hg.get _ h2 zB2];exact h4,by rw[hg.get _ h3 zB2];exact h5,h6.gr hg⟩
theorem IL:al Tryz.prog 28=true:=by kernel_rfl
structure NB (n0 kb m:Nat) (lm ll:List Lad) (k2 k3:Nat) (H1:Hp) (lad gr fc:AC) (r1 r2 r3:Option Nat):Prop where
 kbg:H1.get kb=some (.arr [lad,.o (.mp m),gr,fc] 132 0 0)
 mg:H1.get m=some (hY (plN 0 lm))
 o1:∃ css:List (List AC),eU H1 lad 97 2 ll.length (css.flatMap id) r1∧Al (fun c x=>c.length=2∧∃ u,c=[.o (.str x.1),u]∧SlP H1 u x.2∧∀ id∈(AV.one u).ids,id≠kb∧id≠m∧some id≠r1∧some id≠r2∧some id≠r3) css ll
 o2:∃ cg,eU H1 gr 3 1 k2 cg r2
 o3:∃ cf,eU H1 fc 138 2 k3 cf r3
 kn:n0≤kb∧kb<H1.nx
 mn:n0≤m∧m<H1.nx
 km:kb≠m
 n1:∀ q,r1=some q→n0≤q∧q<H1.nx∧q≠kb∧q≠m∧r2≠some q∧r3≠some q
 n2:∀ q,r2=some q→n0≤q∧q<H1.nx∧q≠kb∧q≠m∧r3≠some q
 n3:∀ q,r3=some q→n0≤q∧q<H1.nx∧q≠kb∧q≠m
section
variable {n0 kb m k2 k3:Nat} {lm ll:List Lad} {H1 H2:Hp} {lad gr fc:AC} {r1 r2 r3:Option Nat}
theorem NB.Jc (h:NB n0 kb m lm ll k2 k3 H1 lad gr fc r1 r2 r3) (hg:Gr H1 H2):NB n0 kb m lm ll k2 k3 H2 lad gr fc r1 r2 r3 where
 kbg:=by rw[hg.get _ h.kn.2 zB2];exact h.kbg
 mg:=by rw[hg.get _ h.mn.2 zB2];exact h.mg
 o1:=let ⟨css,a,b⟩:=h.o1;⟨css,a.fr hg fun _ _ h=>h,b.mono fun c x ⟨hc,u,e,hu,hi⟩=>⟨hc,u,e,hu.gr hg,hi⟩⟩
 o2:=let ⟨c,a⟩:=h.o2;⟨c,a.fr hg fun _ _ h=>h⟩
 o3:=let ⟨c,a⟩:=h.o3;⟨c,a.fr hg fun _ _ h=>h⟩
 kn:=⟨h.kn.1,zA0 h.kn.2 hg.nx⟩
 mn:=⟨h.mn.1,zA0 h.mn.2 hg.nx⟩
 km:=h.km
 n1:=fun q hq=>let ⟨a,b,c⟩:=h.n1 q hq;⟨a,zA0 b hg.nx,c⟩
 n2:=fun q hq=>let ⟨a,b,c⟩:=h.n2 q hq;⟨a,zA0 b hg.nx,c⟩
 n3:=fun q hq=>let ⟨a,b,c⟩:=h.n3 q hq;⟨a,zA0 b hg.nx,c⟩
theorem du {H:Hp} {k:Nat} {o:aK}:Fr (fun i=>i=k) H (H.mod k o):=(Fr.refl _).mod _ (.inr rfl)
theorem NB.addM (h:NB n0 kb m lm ll k2 k3 H1 lad gr fc r1 r2 r3) (lm':List Lad):NB n0 kb m lm' ll k2 k3 (H1.mod m (hY (plN 0 lm'))) lad gr fc r1 r2 r3 where
 kbg:=by rw[az h.km];exact h.kbg
 mg:=aj rfl
 o1:=let ⟨css,a,b⟩:=h.o1;⟨css,a.fr du fun i hi e=>(h.n1 i hi).2.2.2.1 e,b.mono fun c x ⟨hc,u,e,hu,hi⟩=>⟨hc,u,e,SlC.fr hu du fun i P8 e=>(hi i P8).2.1 e,hi⟩⟩
 o2:=let ⟨c,a⟩:=h.o2;⟨c,a.fr du fun i hi e=>(h.n2 i hi).2.2.2.1 e⟩
 o3:=let ⟨c,a⟩:=h.o3;⟨c,a.fr du fun i hi e=>(h.n3 i hi).2.2.2 e⟩
 kn:=h.kn
 mn:=h.mn
 km:=h.km
 n1:=h.n1
 n2:=h.n2
 n3:=h.n3
theorem NB.XS (h:NB n0 kb m lm ll k2 k3 H1 lad gr fc r1 r2 r3) {x:Lad} {u v5:AC} {r5:Nat} {H5:Hp} (hu:SlP H1 u x.2) (hi:∀ id∈(AV.one u).ids,id≠kb∧id≠m∧some id≠r1∧some id≠r2∧some id≠r3)
  {css:List (List AC)} (p7:Al (fun c x=>c.length=2∧∃ u,c=[.o (.str x.1),u]∧SlP H1 u x.2∧∀ id∈(AV.one u).ids,id≠kb∧id≠m∧some id≠r1∧some id≠r2∧some id≠r3) css ll)
  (ho:eU H5 v5 97 2 (ll.length+1) (css.flatMap id++[.o (.str x.1),u]) (some r5)) (hf:Fr (fun i=>r1=some i) H1 H5) (hr:r1=some r5∨H1.nx≤r5):
  NB n0 kb m lm (ll++[x]) k2 k3 (H5.mod kb (.arr [v5,.o (.mp m),gr,fc] 132 0 0)) v5 gr fc (some r5) r2 r3:=by
 have r5kb:r5≠kb:=by
  rcases hr with e|e
  ·exact (h.n1 _ e).2.2.1
  have:=h.kn.2;omega
 have r5m:r5≠m:=by
  rcases hr with e|e
  ·exact (h.n1 _ e).2.2.2.1
  have:=h.mn.2;omega
 have n0le:n0≤H1.nx:=zA2 h.kn.1 (Nat.le_of_lt h.kn.2);have lt5:r5<H5.nx:=by
  rcases ho with ⟨_,_,_,e⟩|⟨id,lo,gen,e,_,_,_,_,hl⟩
  ·cases e
  cases e;exact hl
 have keep:∀ {c:List AC} {x:Lad},(c.length=2∧∃ u,c=[.o (.str x.1),u]∧SlP H1 u x.2∧∀ id∈(AV.one u).ids,id≠kb∧id≠m∧some id≠r1∧some id≠r2∧some id≠r3) →
   c.length=2∧∃ u,c=[.o (.str x.1),u]∧SlP (H5.mod kb (.arr [v5,.o (.mp m),gr,fc] 132 0 0)) u x.2∧∀ id∈(AV.one u).ids,id≠kb∧id≠m∧some id≠some r5∧some id≠r2∧some id≠r3:=by
  rintro c x ⟨hc,u,e,hu,hi⟩;refine ⟨hc,u,e,SlC.fr (SlC.fr hu hf fun i h' e=>(hi i h').2.2.1 e.symm) du fun i h' e=>(hi i h').1 e,fun i h'=>⟨(hi i h').1,(hi i h').2.1,fun e=>?_,(hi i h').2.2.2.1,(hi i h').2.2.2.2⟩⟩;cases e
  rcases hr with e|e
  ·exact (hi _ h').2.2.1 e.symm
  have:=hu.lt _ h';omega
 refine ⟨aj rfl,?_,⟨css++[[.o (.str x.1),u]],?_,?_⟩,?_,?_,⟨h.kn.1,zA0 h.kn.2 hf.nx⟩,⟨h.mn.1,zA0 h.mn.2 hf.nx⟩,h.km,?_,?_,?_⟩
 ·rw[az (fun e=>h.km e.symm),hf.get _ h.mn.2 fun e=>(h.n1 _ e).2.2.2.1 rfl];exact h.mg
 ·rw[List.length_append,List.length_singleton,List.flatMap_append];exact ho.fr du fun i hi e=>by cases hi;exact r5kb e
 ·exact Al.app (p7.mono fun c x hc=>keep hc) (keep ⟨rfl,u,rfl,hu,hi⟩)
 ·obtain ⟨c,a⟩:=h.o2;exact ⟨c,(a.fr hf fun i hi e=>(h.n1 i e).2.2.2.2.1 hi).fr du fun i hi e=>(h.n2 i hi).2.2.1 e⟩
 ·obtain ⟨c,a⟩:=h.o3;exact ⟨c,(a.fr hf fun i hi e=>(h.n1 i e).2.2.2.2.2 hi).fr du fun i hi e=>(h.n3 i hi).2.2.1 e⟩
 ·intro q hq;cases hq
  refine ⟨?_,lt5,r5kb,r5m,fun e=>?_,fun e=>?_⟩
  ·rcases hr with e|e
   ·exact (h.n1 _ e).1
   omega
  ·rcases hr with e'|e'
   ·exact (h.n1 _ e').2.2.2.2.1 e
   have:=(h.n2 _ e).2.1;omega
  rcases hr with e'|e'
  ·exact (h.n1 _ e').2.2.2.2.2 e
  have:=(h.n3 _ e).2.1;omega
 ·intro q hq;obtain ⟨a,b,c⟩:=h.n2 q hq;exact ⟨a,zA0 b hf.nx,c⟩
 intro q hq;obtain ⟨a,b,c⟩:=h.n3 q hq;exact ⟨a,zA0 b hf.nx,c⟩
theorem NB.grp (h:NB n0 kb m lm ll k2 k3 H1 lad gr fc r1 r2 r3) {v5:AC} {r5:Nat} {H5:Hp} {c5:List AC} (ho:eU H5 v5 3 1 (k2+1) c5 (some r5)) (hf:Fr (fun i=>r2=some i) H1 H5) (hr:r2=some r5∨H1.nx≤r5):
  NB n0 kb m lm ll (k2+1) k3 (H5.mod kb (.arr [lad,.o (.mp m),v5,fc] 132 0 0)) lad v5 fc r1 (some r5) r3:=by
 have r5kb:r5≠kb:=by
  rcases hr with e|e
  ·exact (h.n2 _ e).2.2.1
  have:=h.kn.2;omega
 have r5m:r5≠m:=by
  rcases hr with e|e
  ·exact (h.n2 _ e).2.2.2.1
  have:=h.mn.2;omega
 have n0le:n0≤H1.nx:=zA2 h.kn.1 (Nat.le_of_lt h.kn.2);have lt5:r5<H5.nx:=by
  rcases ho with ⟨_,_,_,e⟩|⟨id,lo,gen,e,_,_,_,_,hl⟩
  ·cases e
  cases e;exact hl
 refine ⟨aj rfl,?_,?_,⟨c5,?_⟩,?_,⟨h.kn.1,zA0 h.kn.2 hf.nx⟩,⟨h.mn.1,zA0 h.mn.2 hf.nx⟩,h.km,?_,?_,?_⟩
 ·rw[az (fun e=>h.km e.symm),hf.get _ h.mn.2 fun e=>(h.n2 _ e).2.2.2.1 rfl];exact h.mg
 ·obtain ⟨css,a,b⟩:=h.o1;refine ⟨css,(a.fr hf fun i hi e=>(h.n1 i hi).2.2.2.2.1 e).fr du fun i hi e=>(h.n1 i hi).2.2.1 e,b.mono fun c x ⟨hc,u,e,hu,hi⟩=>⟨hc,u,e,SlC.fr (SlC.fr hu hf fun i h' e=>(hi i h').2.2.2.1 e.symm) du fun i h' e=>(hi i h').1 e,fun i h'=>⟨(hi i h').1,(hi i h').2.1,(hi i h').2.2.1,fun e=>?_,(hi i h').2.2.2.2⟩⟩⟩;cases e
  rcases hr with e|e
  ·exact (hi _ h').2.2.2.1 e.symm
  have:=hu.lt _ h';omega
 ·exact ho.fr du fun i hi e=>by cases hi;exact r5kb e
 ·obtain ⟨c,a⟩:=h.o3;exact ⟨c,(a.fr hf fun i hi e=>(h.n2 i e).2.2.2.2 hi).fr du fun i hi e=>(h.n3 i hi).2.2.1 e⟩
 ·intro q hq;obtain ⟨a,b,c,d,e,f⟩:=h.n1 q hq;refine ⟨a,zA0 b hf.nx,c,d,fun e'=>?_,f⟩;cases e'
  rcases hr with e'|e'
  ·exact e e'
  omega
 ·intro q hq;cases hq
  refine ⟨?_,lt5,r5kb,r5m,fun e=>?_⟩
  ·rcases hr with e|e
   ·exact (h.n2 _ e).1
   omega
  rcases hr with e'|e'
  ·exact (h.n2 _ e').2.2.2.2 e
  have:=(h.n3 _ e).2.1;omega
 intro q hq;obtain ⟨a,b,c⟩:=h.n3 q hq;exact ⟨a,zA0 b hf.nx,c⟩
theorem NB.fac (h:NB n0 kb m lm ll k2 k3 H1 lad gr fc r1 r2 r3) {v5:AC} {r5:Nat} {H5:Hp} {c5:List AC} (ho:eU H5 v5 138 2 (k3+1) c5 (some r5)) (hf:Fr (fun i=>r3=some i) H1 H5) (hr:r3=some r5∨H1.nx≤r5):
  NB n0 kb m lm ll k2 (k3+1) (H5.mod kb (.arr [lad,.o (.mp m),gr,v5] 132 0 0)) lad gr v5 r1 r2 (some r5):=by
 have r5kb:r5≠kb:=by
  rcases hr with e|e
  ·exact (h.n3 _ e).2.2.1
  have:=h.kn.2;omega
 have r5m:r5≠m:=by
  rcases hr with e|e
  ·exact (h.n3 _ e).2.2.2
  have:=h.mn.2;omega
 have n0le:n0≤H1.nx:=zA2 h.kn.1 (Nat.le_of_lt h.kn.2);have lt5:r5<H5.nx:=by
  rcases ho with ⟨_,_,_,e⟩|⟨id,lo,gen,e,_,_,_,_,hl⟩
  ·cases e
  cases e;exact hl
 refine ⟨aj rfl,?_,?_,?_,⟨c5,?_⟩,⟨h.kn.1,zA0 h.kn.2 hf.nx⟩,⟨h.mn.1,zA0 h.mn.2 hf.nx⟩,h.km,?_,?_,?_⟩
 ·rw[az (fun e=>h.km e.symm),hf.get _ h.mn.2 fun e=>(h.n3 _ e).2.2.2 rfl];exact h.mg
 ·obtain ⟨css,a,b⟩:=h.o1;refine ⟨css,(a.fr hf fun i hi e=>(h.n1 i hi).2.2.2.2.2 e).fr du fun i hi e=>(h.n1 i hi).2.2.1 e,b.mono fun c x ⟨hc,u,e,hu,hi⟩=>⟨hc,u,e,SlC.fr (SlC.fr hu hf fun i h' e=>(hi i h').2.2.2.2 e.symm) du fun i h' e=>(hi i h').1 e,fun i h'=>⟨(hi i h').1,(hi i h').2.1,(hi i h').2.2.1,(hi i h').2.2.2.1,fun e=>?_⟩⟩⟩;cases e
  rcases hr with e|e
  ·exact (hi _ h').2.2.2.2 e.symm
  have:=hu.lt _ h';omega
 ·obtain ⟨c,a⟩:=h.o2;exact ⟨c,(a.fr hf fun i hi e=>(h.n2 i hi).2.2.2.2 e).fr du fun i hi e=>(h.n2 i hi).2.2.1 e⟩
 ·exact ho.fr du fun i hi e=>by cases hi;exact r5kb e
 ·intro q hq;obtain ⟨a,b,c,d,e,f⟩:=h.n1 q hq;refine ⟨a,zA0 b hf.nx,c,d,e,fun e'=>?_⟩;cases e'
  rcases hr with e'|e'
  ·exact f e'
  omega
 ·intro q hq;obtain ⟨a,b,c,d,e⟩:=h.n2 q hq;refine ⟨a,zA0 b hf.nx,c,d,fun e'=>?_⟩;cases e'
  rcases hr with e'|e'
  ·exact e e'
  omega
 intro q hq;cases hq
 refine ⟨?_,lt5,r5kb,r5m⟩;rcases hr with e|e
 ·exact (h.n3 _ e).1
 omega
theorem NB.book (h:NB n0 kb m lm lm k2 k3 H1 lad gr fc r1 r2 r3):oH H1 (.o (.ptr kb 0 0 4)) lm:=by
 obtain ⟨css,a,b⟩:=h.o1;exact ⟨kb,m,lad,gr,fc,rfl,h.kn.2,h.mn.2,h.kbg,h.mg,css,a.slc,b.mono fun c x ⟨hc,u,e,hu,_⟩=>⟨hc,u,e,hu⟩⟩
end
theorem lh {n:List UInt8} {us:List Pr} (h:bN n us=0):us.length≤12:=by
 unfold bN at h;by_cases hl:iA n us=true
 ·unfold iA at hl;simp only[Bool.and_eq_true,decide_eq_true_eq] at hl;omega
 rw[zB1 hl] at h;cases h
theorem Xm {H:Hp} {m:Nat} {ls:List Lad} {x:Lad} (hg:H.get m=some (hY (plN 0 ls))) (hn:(iv 0 ls x.1).isSome=false):
  aT Tryz.prog H 9 (.one (.o (.mp m))) (.one (.o (.str x.1))) (.one (.i .i64 (ls.length:Int)))=.val aF (H.mod m (hY (plN 0 (ls++[x])))):=by
 rw[KX,Nat.zero_add];refine vO vV hg ?_;rw[JW];cases h:iv 0 ls x.1 with
 | none=>rfl
 | some i=>rw[h] at hn;cases hn
theorem HZ (H:Hp) (v:AC) (ls:List Lad) (hl:fv H v ls):
  Con E2 28 [.one v,.one (.o .nilS)] H (fun _=>False) fun r H'=>∃ p,r=.tup [(false,[p]),(false,[.i .i64 (ni ls)])]∧(ni ls=0→oH H' p ls)∧(ni ls≠0→p=.o .nilP):=by
 refine Con.of rfl fun lg=>?_;have hl:fv ⟨H.t,H.nx,lg⟩ v ls:=hl;generalize (⟨H.t,H.nx,lg⟩:Hp)=H at hl ⊢;refine C1.body (E:=E2) (nt:=102) (res:=[.tmp 4,.tmp 5]) Tryz.func28 rfl rfl rfl rfl rfl fun tm A0=>?_;have h0:=A0 0 _ rfl;have h1:=A0 1 _ rfl;clear A0;have lnB:eu Tryz.prog 129=some 1:=by kernel_rfl
 by_cases U8:(32:Int)<ls.length
 ·have c32:((32:Int)<ls.length)=True:=eq_true U8;refine qW ae ?_;repeat refine R1.aA ?_
  refine qG (qA ae (qA h0 (qA h1 (qA iL (qA hl.len (qA hl.lt c32)))))) fun K hK=>?_;refine hK _ _ ?_;clear hK K;refine qY ?_;refine qV ?_;refine ⟨_,_,aM (.o .nilP) (.i .i64 3) (.inr rfl) rfl qp qp,Fr.refl _,fun _=>?_⟩;have:ni ls=3:=zB0 U8;rw[this];exact ⟨_,rfl,fun h=>(by cases h),fun _=>rfl⟩
 have c32:((32:Int)<ls.length)=False:=eq_false U8;refine qW ae ?_;repeat refine R1.aA ?_
 refine qG (qA ae (qA h0 (qA h1 (qA iL (qA hl.len (qA hl.lt (qA c32 lnB))))))) fun K hK=>?_;refine hK _ _ ?_;clear hK K;refine qY ?_;refine R1.bg ?_;repeat refine R1.aA ?_
 refine qG (qA ae (qA BE (qA BS rV))) fun K hK=>?_;refine hK _ _ ?_;clear hK K;refine R1.gen (fun A1 H1=>Gr H H1∧NB H.nx (H.nx+1) H.nx [] [] 0 0 H1 (.o .nilS) (.o .nilS) (.o .nilS) none none none∧slot A1.tm 0=.one v∧slot A1.tm 1=.one (.o .nilS)∧slot A1.tm 6=.one (.o (.ptr (H.nx+1) 0 0 4))∧A1.nt=102∧A1.dfr=[])
  ⟨((Fr.refl _).new _).new _,⟨aG rfl,(aZ (by rw[gN];omega)).trans (aG rfl),⟨[],.inl ⟨rfl,rfl,rfl,rfl⟩,trivial⟩,⟨[],.inl ⟨rfl,rfl,rfl,rfl⟩⟩,⟨[],.inl ⟨rfl,rfl,rfl,rfl⟩⟩,⟨Nat.le_succ _,zA6 _⟩,⟨zA1 _,Nat.lt_succ_of_lt (zA6 _)⟩,by omega,fun q h=>(by cases h),fun q h=>(by cases h),fun q h=>(by cases h)⟩,?_⟩ ?_
 ·exact qZ (qA h0 h1)
 clear h0 h1 tm;rintro A1 H1 ⟨g1,nb,t0,t1,t6,B0,C0⟩;obtain ⟨kb,hkb⟩:∃ k,k=H.nx+1:=⟨_,rfl⟩;obtain ⟨m,hm⟩:∃ k,k=H.nx:=⟨_,rfl⟩;rw[←hkb] at nb t6;have nb:NB H.nx kb m [] [] 0 0 H1 (.o .nilS) (.o .nilS) (.o .nilS) none none none:=by rw[hm];exact nb
 clear hkb hm;have q6:=hl.gr g1;have C3:ni ls=rO [] ls:=zB1 U8;rw[C3];generalize E0:rO [] ls=r0;refine qG (qA ae (qA t0 (qA B0 (qA iL (qA q6.len q6.lt))))) fun K hK=>?_;refine hK _ _ ?_;clear hK K;refine R1.aU fun K k1 k2 k3 k4=>?_;refine R1.loop (fun k A2 H2=>∃ (i:Nat) (lad gr fc:AC) (r1 r2 r3:Option Nat),k=ls.length - i∧i≤ls.length∧NB H.nx kb m (ls.take i) (ls.take i) i i H2 lad gr fc r1 r2 r3∧Gr H H2∧rO (ls.take i) (ls.drop i)=r0 ∧
  slot A2.tm 1=.one (.o .nilS)∧slot A2.tm 6=.one (.o (.ptr kb 0 0 4))∧slot A2.tm 26=.one v∧slot A2.tm 27=.one (.i .i64 (ls.length:Int))∧slot A2.tm 28=.one (.i .i64 (i:Int))∧A2.nt=102∧A2.dfr=[]) ?_ ls.length
  ⟨0,_,_,_,_,_,_,rfl,Nat.zero_le _,nb,g1,E0,?_⟩
 ·clear t0 t1 t6 B0 C0 A1;rintro k A H1 ⟨i,lad,gr,fc,r1,r2,r3,rfl,hi,nb,g1,hr,t1,t6,t26,t27,t28,B0,C0⟩;have q6:=hl.gr g1;refine qW (qA ae (qA t27 (qA t28 B0))) ?_;refine qE fun Kx Ky hx hy=>?_;refine di (fun hc=>hx ?_) (fun hc=>hy ?_)
  ·clear hx hy Kx Ky;have D0:i<ls.length:=by omega
   obtain ⟨id,g,off,cells,rfl,J4,W6,O0⟩:=hl.open (by omega);have hid:id<H1.nx:=zA0 J4 g1.nx;have hg:rowOf (H1.get id) g=some cells:=by rw[g1.get _ J4 zB2];exact W6
   have ex:ls[i]?=some ls[i]:=zB4 D0;have Z0:ls.drop i=ls[i]::ls.drop (i+1):=List.drop_eq_getElem_cons D0;have U2:ls.take (i+1)=ls.take i++[ls[i]]:=List.take_succ_eq_append_getElem D0;generalize ls[i]=x at ex Z0 U2;obtain ⟨u,hu0,m9,V0,T5,hx3,hx4,hx5⟩:=O0 i x ex;have hu:SlP H1 u x.2:=hu0.gr g1;have hidu:∀ k∈(AV.one u).ids,k<H.nx:=hu0.lt;have B4:(ls.take i).length=i:=by rw[List.length_take];omega
   have hi32:ls.length≤32:=by omega
   have J1:=zC0 i (by omega);rw[Z0,rO] at hr;refine qV ?_;refine R1.aU fun K2 q1 q2 q3 q4=>?_;repeat refine R1.aA ?_
   refine qG (qA ae (qA t26 (qA t28 (qA B0 (qA fe (qA da (qA jg (qA eS (qA (ixC D0) (qA hid (qA hg (qA m9 V0)))))))))))) fun K hK=>?_;refine hK _ _ ?_;clear hK K;refine R1.gen (fun A3 H3=>Gr H1 H3∧H1.nx<H3.nx∧H3.get H1.nx=some (.arr [.o (.str x.1),u] 97 0 0)∧slot A3.tm 1=.one (.o .nilS)∧slot A3.tm 6=.one (.o (.ptr kb 0 0 4))∧slot A3.tm 7=.one (.i .i64 (i:Int))∧slot A3.tm 8=.one (.o (.ptr H1.nx 0 0 2))∧slot A3.tm 26=.one (.o (.sl id g off ls.length 2))∧slot A3.tm 27=.one (.i .i64 (ls.length:Int))∧slot A3.tm 28=.one (.i .i64 (i:Int))∧A3.nt=102∧A3.dfr=[])
    ⟨((Fr.refl _).new _).mod _ (.inl (zA1 _)),?_⟩ ?_
   ·exact qZ (qA t1 (qA t6 (qA t26 (qA t27 (qA t28 (qA B0 C0))))))
   clear t1 t6 t26 t27 t28 B0 C0 A;rintro A H3 ⟨g3,n3,rx,t1,t6,t7,t8,t26,t27,t28,B0,C0⟩;have nb3:=nb.Jc g3;have g3':=g1.gr g3;repeat refine R1.aA ?_
   refine qG (qA ae (qA t8 (qA B0 (qA rx (qA n3 (qA da vX)))))) fun K hK=>?_;refine WE.con (sD H3 x.1 u x.2 (hu.gr g3)) fun w H4 g4 hv=>?_;subst hv;have nb4:=nb3.Jc g4;have rx:H4.get H1.nx=some (.arr [.o (.str x.1),u] 97 0 0):=by rw[g4.get _ n3 zB2];exact rx
   have n4:H1.nx<H4.nx:=zA0 n3 g4.nx;have hu4:SlP H4 u x.2:=(hu.gr g3).gr g4;have g4':=g3'.gr g4;refine qS (qA ae B0) ?_;refine hK _ _ ?_;clear hK K;refine qW (qA ae B0) ?_;refine qE fun Kx Ky hx hy=>?_;refine di (fun hd=>hx ?_) (fun hd=>hy ?_)
   ·clear hx hy Kx Ky;have Y0:bN x.1 x.2≠0:=by simpa using hd
    rw[zB0 Y0] at hr;subst hr;refine qW (qA ae B0) ?_;refine q4 _ _ (k4 _ _ ⟨_,_,aM (.o .nilP) (.i .i64 (bN x.1 x.2)) (.inr rfl) (qd C0) qp qp,g4',fun _=>⟨_,rfl,fun h=>absurd h Y0,fun _=>rfl⟩⟩)
   clear hx hy Kx Ky;have hz:bN x.1 x.2=0:=by simpa using hd
   rw[zB1 (fun h=>h hz)] at hr;have hL12:=lh hz;refine R1.bg ?_;repeat refine R1.aA ?_
   have lkb:=nb4.kn.2;have lm:=nb4.mn.2;have rkb:=nb4.kbg;repeat refine R1.aA ?_
   refine R1.xG (by kernel_rfl) fun K hK=>?_;simp only[qB,aq,Nat.reduceLT,Nat.reduceEqDiff,Nat.reduceLeDiff,reduceIte,Nat.reduceAdd,Nat.reduceSub,Nat.reduceMul,Int.reduceLT,Int.reduceLE,Int.reduceBEq,ae,t6,t8,B0,rx,n4,rkb,lkb,lm,gC,fa,pE,aQ,wE,Bk,My nb4.mg];refine hK _ _ ?_;clear hK K;cases J3:(iv 0 (ls.take i) x.1).isSome with
   | true=>
    rw[zB0 J3] at hr;subst hr;refine qW (qA ae B0) ?_;refine qY ?_;refine qW (qA ae B0) ?_;refine q4 _ _ (k4 _ _ ⟨_,_,aM (.o .nilP) (.i .i64 2) (.inr rfl) (qd C0) qp qp,g4',fun _=>⟨_,rfl,fun h=>(by cases h),fun _=>rfl⟩⟩)
   | false=>
    rw[zB1 (by rw[J3];decide)] at hr;have hup:=Xm nb4.mg J3;rw[B4] at hup;refine qW (qA ae B0) ?_;refine qY ?_;refine R1.bg ?_;refine qG (qA ae (qA t6 (qA t7 (qA t8 (qA B0 (qA rx (qA n4 (qA rkb (qA lkb (qA lm (qA gC (qA fa (qA pE (qA aQ (qA wE hup))))))))))))))) fun K hK=>?_;refine hK _ _ ?_;clear hK K;have nb5:=nb4.addM (ls.take i++[x]);have hmn:H.nx≤m:=nb4.mn.1;have V9:H.nx≤kb:=nb4.kn.1;have m1:m<H1.nx:=nb.mn.2;have T9:SlP (H4.mod m (hY (plN 0 (ls.take i++[x])))) u x.2:=SlC.fr hu4 du fun k h e=>by have:=hidu k h;omega
    have rx:(H4.mod m (hY (plN 0 (ls.take i++[x])))).get H1.nx=some (.arr [.o (.str x.1),u] 97 0 0):=by rw[az (by omega)];exact rx
    have g5':Gr H (H4.mod m (hY (plN 0 (ls.take i++[x])))):=g4'.mod _ (.inl hmn);have n5:H1.nx<(H4.mod m (hY (plN 0 (ls.take i++[x])))).nx:=n4;refine R1.gen (fun A5 H5=>H5=H4.mod m (hY (plN 0 (ls.take i++[x])))∧slot A5.tm 1=.one (.o .nilS)∧slot A5.tm 6=.one (.o (.ptr kb 0 0 4))∧slot A5.tm 7=.one (.i .i64 (i:Int))∧slot A5.tm 8=.one (.o (.ptr H1.nx 0 0 2))∧slot A5.tm 26=.one (.o (.sl id g off ls.length 2))∧slot A5.tm 27=.one (.i .i64 (ls.length:Int))∧slot A5.tm 28=.one (.i .i64 (i:Int))∧A5.nt=102∧A5.dfr=[]) ⟨rfl,?_⟩ ?_
    ·exact qZ (qA t1 (qA t6 (qA t7 (qA t8 (qA t26 (qA t27 (qA t28 (qA B0 C0))))))))
    clear t1 t6 t7 t8 t26 t27 t28 B0 C0 A;rintro A H5 ⟨hH5,t1,t6,t7,t8,t26,t27,t28,B0,C0⟩;rw[←hH5] at nb5 T9 rx g5' n5;clear hH5 rkb lkb lm;have lkb:=nb5.kn.2;have rkb:=nb5.kbg;refine qH (qA ae (qA t6 (qA t8 (qA B0 (qA rx (qA n5 (qA rkb (qA lkb (qA kI (qA lV (qA da AU))))))))))) fun K hK=>?_;refine WE.Pm (uI H5 x.1 u x.2 T9 (by omega)) fun w H6 g6 ⟨u',hv,hu',L2⟩=>?_;subst hv;have nb6:=nb5.Jc g6;obtain ⟨css,ho1,p7⟩:=nb6.o1;obtain ⟨zl,L1,hzll⟩:=QV;obtain ⟨I9,v7,H7,r7,Q1,ho7,m7,hr7⟩:=js fe SC L1 hzll (by decide) ho1 [.o (.str x.1),u'] rfl (by rw[B4];omega);have rk7:H7.get kb=some (.arr [lad,.o (.mp m),gr,fc] 132 0 0):=by rw[m7.get _ nb6.kn.2 (fun e=>(nb6.n1 _ e).2.2.1 rfl)];exact nb6.kbg
    have lk7:kb<H7.nx:=zA0 nb6.kn.2 m7.nx;have hui:∀ k∈(AV.one u').ids,k≠kb∧k≠m∧some k≠r1∧some k≠r2∧some k≠r3:=fun k h=>by
     have h5:=L2 k h;refine ⟨by omega,by have:=nb5.mn.2;omega,fun e=>?_,fun e=>?_,fun e=>?_⟩
     ·have:=(nb5.n1 _ e.symm).2.1;omega
     ·have:=(nb5.n2 _ e.symm).2.1;omega
     have:=(nb5.n3 _ e.symm).2.1;omega
    have nb8:=nb6.XS hu' hui p7 ho7 m7 hr7;have g7:Gr H H7:=(g5'.gr g6).then m7 fun k hk=>.inl (nb6.n1 _ hk).1;have g8:Gr H (H7.mod kb (.arr [v7,.o (.mp m),gr,fc] 132 0 0)):=g7.mod _ (.inl V9);refine qS (qA ae (qA t6 (qA B0 (qA fe (qA eS (qA mV (qA I9 (qA Q1 (qA rk7 (qA lk7 (qA kI uu))))))))))) ?_;refine ⟨I9,?_⟩;refine hK _ _ ?_;clear hK K;refine R1.gen (fun A5 H8=>H8=H7.mod kb (.arr [v7,.o (.mp m),gr,fc] 132 0 0)∧slot A5.tm 1=.one (.o .nilS)∧slot A5.tm 6=.one (.o (.ptr kb 0 0 4))∧slot A5.tm 7=.one (.i .i64 (i:Int))∧slot A5.tm 26=.one (.o (.sl id g off ls.length 2))∧slot A5.tm 27=.one (.i .i64 (ls.length:Int))∧slot A5.tm 28=.one (.i .i64 (i:Int))∧A5.nt=102∧A5.dfr=[]) ⟨rfl,?_⟩ ?_
    ·exact qZ (qA t1 (qA t6 (qA t7 (qA t26 (qA t27 (qA t28 (qA B0 C0)))))))
    clear t1 t6 t7 t8 t26 t27 t28 B0 C0 A;rintro A H8 ⟨hH8,t1,t6,t7,t26,t27,t28,B0,C0⟩;rw[←hH8] at nb8 g8;clear hH8 rk7 lk7 Q1 I9 ho7 g7 p7 ho1 m7;obtain ⟨cg,B9⟩:=nb8.o2;obtain ⟨zi,hzi,p8⟩:=BZ;obtain ⟨hlt9,v9,H9,r9,happ9,ho9,G',hr9⟩:=js jL BX hzi p8 (by decide) B9 [.i .i64 (i:Int)] rfl (by omega);have rk9:H9.get kb=some (.arr [v7,.o (.mp m),gr,fc] 132 0 0):=by rw[G'.get _ nb8.kn.2 (fun e=>(nb8.n2 _ e).2.2.1 rfl)];exact nb8.kbg
    have lk9:kb<H9.nx:=zA0 nb8.kn.2 G'.nx;have nb10:=nb8.grp ho9 G' hr9;have g10:Gr H (H9.mod kb (.arr [v7,.o (.mp m),v9,fc] 132 0 0)):=(g8.then G' fun k hk=>.inl (nb8.n2 _ hk).1).mod _ (.inl V9);have rk8:=nb8.kbg;have lk8:=nb8.kn.2;refine qG (qA ae (qA t6 (qA t7 (qA B0 (qA rk8 (qA lk8 (qA sE (qA Cv (qA jL (qA sw (qA mV (qA happ9 (qA hlt9 (qA rk9 (qA lk9 CV))))))))))))))) fun K hK=>?_;refine ⟨hlt9,?_⟩;refine hK _ _ ?_;clear hK K;refine R1.gen (fun A5 H10=>H10=H9.mod kb (.arr [v7,.o (.mp m),v9,fc] 132 0 0)∧slot A5.tm 1=.one (.o .nilS)∧slot A5.tm 6=.one (.o (.ptr kb 0 0 4))∧slot A5.tm 26=.one (.o (.sl id g off ls.length 2))∧slot A5.tm 27=.one (.i .i64 (ls.length:Int))∧slot A5.tm 28=.one (.i .i64 (i:Int))∧A5.nt=102∧A5.dfr=[]) ⟨rfl,?_⟩ ?_
    ·exact qZ (qA t1 (qA t6 (qA t26 (qA t27 (qA t28 (qA B0 C0))))))
    clear t1 t6 t7 t26 t27 t28 B0 C0 A;rintro A H10 ⟨hH10,t1,t6,t26,t27,t28,B0,C0⟩;rw[←hH10] at nb10 g10;clear hH10 rk9 lk9 happ9 hlt9 ho9 G' rk8 lk8 B9;obtain ⟨cf,ho3⟩:=nb10.o3;obtain ⟨zp,hzp,hzpl⟩:=Wo;obtain ⟨hlt11,v11,H11,r11,happ11,R_,U_,hr11⟩:=js rk Vi hzp hzpl (by decide) ho3 [.o .nilS,.o .nilS] rfl (by omega);have rk11:H11.get kb=some (.arr [v7,.o (.mp m),v9,fc] 132 0 0):=by rw[U_.get _ nb10.kn.2 (fun e=>(nb10.n3 _ e).2.2.1 rfl)];exact nb10.kbg
    have lk11:kb<H11.nx:=zA0 nb10.kn.2 U_.nx;have nb12:=nb10.fac R_ U_ hr11;have g12:Gr H (H11.mod kb (.arr [v7,.o (.mp m),v9,v11] 132 0 0)):=(g10.then U_ fun k hk=>.inl (nb10.n3 _ hk).1).mod _ (.inl V9);have rk10:=nb10.kbg;have lk10:=nb10.kn.2;refine qG (qA ae (qA t6 (qA B0 (qA rk10 (qA lk10 (qA sJ (qA wC (qA rk (qA ug (qA Di (qA mV (qA happ11 (qA hlt11 (qA rk11 (qA lk11 vt))))))))))))))) fun K hK=>?_;refine ⟨hlt11,?_⟩;refine hK _ _ ?_;clear hK K;refine q1 _ _ ?_;refine qW (qA B0 (qA t28 J1)) ?_;rw[←U2] at nb12 hr;refine ⟨ls.length - (i+1),by omega,i+1,_,_,_,_,_,_,rfl,D0,nb12,g12,hr,?_,?_,?_,?_,?_,?_,?_⟩
    ·simp only[aa,Nat.reduceEqDiff,reduceIte,t1]
    ·simp only[aa,Nat.reduceEqDiff,reduceIte,t6]
    ·simp only[aa,Nat.reduceEqDiff,reduceIte,t26]
    ·simp only[aa,Nat.reduceEqDiff,reduceIte,t27]
    ·simp only[aa,Nat.reduceEqDiff,reduceIte]
    ·simp only[aE,B0]
    simp only[ak,C0]
  clear hx hy Kx Ky;have E3:i=ls.length:=by omega
  rw[E3,List.drop_length,rO] at hr;rw[E3,List.take_length] at nb;refine qW B0 ?_;refine k2 _ _ ?_;refine qW (qA ae (qA B0 (qA t1 lnB))) ?_;refine R1.aU fun K2 q1 q2 q3 q4=>?_;refine R1.round ?_;refine qW (qA ae B0) ?_;refine qY ?_;refine qW B0 ?_;refine q2 _ _ ?_;refine qW (qA ae (qA B0 t6)) ?_;refine ⟨_,_,aM (.o (.ptr kb 0 0 4)) (.i .i64 0) (.inr rfl) (qd C0) qp qp,g1,fun _=>⟨_,by rw[←hr],fun _=>nb.book,fun h=>absurd hr.symm h⟩⟩
 simp only[aa,Nat.reduceEqDiff,reduceIte,aE,ak,t1,t6,B0,C0,and_self,true_and];exact ⟨rfl,trivial⟩
theorem Wm:al Tryz.prog 108=true:=by kernel_rfl
theorem Pp:al Tryz.prog 109=true:=by kernel_rfl
theorem sG:al Tryz.prog 56=true:=by kernel_rfl
theorem NI:al Tryz.prog 114=true:=by kernel_rfl
theorem TS:Tryz.prog.underlying 29=some (.pointer 132):=by kernel_rfl
theorem Xi:Tryz.prog.underlying 88=some (.map 9 3):=by kernel_rfl
def cQ (H:Hp) (p:AC):Option (List Lad)→Prop
 | some ls=>oH H p ls
 | none=>p=.o .nilP∨∃ kb,p=.o (.ptr kb 0 0 4)∧kb<H.nx∧H.get kb=some (.arr [.o .nilS,.o .nilM,.o .nilS,.o .nilS] 132 0 0)
theorem cQ.gr {H H':Hp} {p:AC} {o:Option (List Lad)} (h:cQ H p o) (hg:Gr H H'):cQ H' p o:=by
 cases o with
 | some ls=>exact oH.gr h hg
 | none=>
  refine Or.imp id ?_ h;rintro ⟨kb,h1,h2,h3⟩;exact ⟨kb,h1,zA0 h2 hg.nx,by rw[hg.get _ h2 zB2];exact h3⟩
theorem cQ.same {H H':Hp} {p:AC} {o:Option (List Lad)} (ht:H'.t=H.t) (hn:H'.nx=H.nx) (h:cQ H p o):cQ H' p o:=
 by
  obtain ⟨t,nx,l⟩:=H;obtain ⟨t',nx',l'⟩:=H';cases ht;cases hn
  exact h
theorem QQ (H:Hp) (p:AC) (o:Option (List Lad)) (hp:cQ H p o):Con E2 108 [.one p] H (fun _=>False) fun r _=>r=.one (.b o.isNone):=by
 refine Con.of rfl fun lg=>?_;have hp:cQ ⟨H.t,H.nx,lg⟩ p o:=cQ.same (H:=H) rfl rfl hp;generalize (⟨H.t,H.nx,lg⟩:Hp)=H at hp ⊢;refine C1.body (E:=E2) (nt:=12) (res:=[.tmp 2]) Tryz.func108 rfl rfl rfl rfl rfl fun tm A0=>?_;have h0:=A0 0 _ rfl;clear A0;have fin:∀ (b:Bool) (A:ab),slot A.tm 2=.one (.b b)→A.dfr=[]→b=o.isNone→∃ w H4,aC E2 [.tmp 2] (.ret,A,H)=.ok [(w,H4)]∧Gr H H4∧∀ _:List Nat,w=.one (.b o.isNone):=fun b A h1 h2 h3=>⟨_,_,ai (.b b) (.inr rfl) h2 h1,Fr.refl _,fun _=>by rw[h3]⟩;cases o with
 | some ls=>
  obtain ⟨kb,m,lad,gr,fc,rfl,h2,h3,h4,h5,h6⟩:=hp;refine qV ?_;repeat refine R1.aA ?_
  refine R1.oy fun K hK=>?_;simp only[qB,aq,Nat.reduceLT,Nat.reduceEqDiff,Nat.reduceLeDiff,reduceIte,Nat.reduceAdd,Nat.reduceSub,Nat.reduceMul,Int.reduceLT,Int.reduceLE,Int.reduceBEq,ae,h0,nK,tK,h2,h4,gC,pE,Cp,Ir];refine hK _ _ ?_;clear hK K;refine qV ?_;exact fin false _ qp rfl rfl
 | none=>
  rcases hp with rfl|⟨kb,rfl,h2,h4⟩
  ·refine qV ?_;repeat refine R1.aA ?_
   refine R1.oy fun K hK=>?_;simp only[qB,aq,Nat.reduceLT,Nat.reduceEqDiff,Nat.reduceLeDiff,reduceIte,Nat.reduceAdd,Nat.reduceSub,Nat.reduceMul,Int.reduceLT,Int.reduceLE,Int.reduceBEq,ae,h0,nK,Tu,Jf TS,Um];refine hK _ _ ?_;clear hK K;refine qV ?_;exact fin true _ qp rfl rfl
  refine qV ?_;repeat refine R1.aA ?_
  refine R1.oy fun K hK=>?_;simp only[qB,aq,Nat.reduceLT,Nat.reduceEqDiff,Nat.reduceLeDiff,reduceIte,Nat.reduceAdd,Nat.reduceSub,Nat.reduceMul,Int.reduceLT,Int.reduceLE,Int.reduceBEq,ae,h0,nK,tK,h2,h4,gC,pE,Cp,TG,Jy Xi,VJ];refine hK _ _ ?_;clear hK K;refine qV ?_;exact fin true _ qp rfl rfl
theorem OR (H:Hp) (p:AC) (ls:List Lad) (s:List UInt8) (hp:oH H p ls):Con E2 109 [.one p,.one (.o (.str s))] H (fun _=>False) fun r _=>
  r=.tup [(false,[.i .i64 (((iv 0 ls s).getD 0:Nat):Int)]),(false,[.i .i64 (if (iv 0 ls s).isSome=true then 0 else 4)])]:=by
 refine Con.of rfl fun lg=>?_;have hp:oH ⟨H.t,H.nx,lg⟩ p ls:=hp;generalize (⟨H.t,H.nx,lg⟩:Hp)=H at hp ⊢;refine C1.body (E:=E2) (nt:=20) (res:=[.tmp 4,.tmp 5]) Tryz.func109 rfl rfl rfl rfl rfl fun tm A0=>?_;have h0:=A0 0 _ rfl;have h1:=A0 1 _ rfl;clear A0;obtain ⟨kb,m,lad,gr,fc,rfl,h2,h3,h4,h5,h6⟩:=hp;refine qV ?_;repeat refine R1.aA ?_
 refine R1.oy fun K hK=>?_;simp only[qB,aq,Nat.reduceLT,Nat.reduceEqDiff,Nat.reduceLeDiff,reduceIte,Nat.reduceAdd,Nat.reduceSub,Nat.reduceMul,Int.reduceLT,Int.reduceLE,Int.reduceBEq,ae,h0,h1,h2,h3,h4,gC,pE,wE,Bk,My h5];refine hK _ _ ?_;clear hK K;refine qG (qA ae LW) fun K hK=>?_;refine WE.con (Fu H _ 4) fun v H7 g7 hv=>?_;subst hv;refine qS ae ?_;refine hK _ _ ?_;clear hK K;refine qV ?_;exact ⟨_,_,aM _ _ (.inr rfl) rfl qp qp,g7,fun _=>rfl⟩
def kf:Option (List Lad)→List UInt8→Int
 | none,_=>1
 | some ls,s=>if (iv 0 ls s).isSome=true then 0 else 4
def Qz (H:Hp) (c:List AC) (o:Option (List Lad)) (s:List UInt8):Prop:=
 (kf o s≠0→c=[.o (.str []),.o .nilS])∧∀ ls i x,o=some ls→iv 0 ls s=some i→ls[i]?=some x→PK H c x
theorem OC (s:List UInt8):kf none s=1:=rfl
theorem oc (ls:List Lad) (s:List UInt8):kf (some ls) s=if (iv 0 ls s).isSome=true then 0 else 4:=rfl
theorem Sq {ls:List Lad} {s:List UInt8} {i:Nat} (h:iv 0 ls s=some i):∃ x,ls[i]?=some x∧x.1=s:=by
 obtain ⟨_,_,x,h3,h4⟩:=Lw 0 ls s i h;exact ⟨x,h3,h4⟩
theorem qM {E:Env} {s q:Tmp} {t:TypeId} {n:Nat} {A:ab} {H H2:Hp} {e:ax} {id g lim:Nat} {cells:List AC} {c:AC} (ht:loadT E.P t=some (true,n)) (he:e=.normal∨e=.ret) (hd:closeAll H A.dfr=some H2) (hs:slot A.tm s=.one (.o (.ptr id g 0 lim)))
  (hg:rowOf (H2.get id) g=some cells) (hl:n≤lim) (ho:cells.length=n) (hq:slot A.tm q=.one c):aC E [.cell s t,.tmp q] (e,A,H)=.ok [(.tup [(true,cells),(false,[c])],H2)]:=by
 have key:(ay (closeAll H A.dfr) (R.bad "marks") fun h2=>ay (bh E.P [.cell s t,.tmp q] A.tm h2) (.bad "results") fun l=>.ok [(cT l,h2)])=.ok [(.tup [(true,cells),(false,[c])],H2)]:=by
  rw[hd];have e1:jy E.P (.cell s t) A.tm H2=some (true,cells):=by
   have e0:jy E.P (.cell s t)=match loadT E.P t with
     | some p=>fun tm h=>ay (tm.get s) none fun v=>ad.rec (motive:=fun _=>Option (Bool×List AC)) (fun v _=>fB v) (fun _=>none) (fun _ _=>none) (fun _ _=>none) (fun _=>none) (bR h p.1 p.2 v)
     | none=>fun _ _=>none:=rfl
   rw[e0,ht];show ay (A.tm.get s) none (fun v=>ad.rec (motive:=fun _=>Option (Bool×List AC)) (fun v _=>fB v) (fun _=>none) (fun _ _=>none) (fun _ _=>none) (fun _=>none) (bR H2 true n v))=_;rw[tY hs];show ad.rec (motive:=fun _=>Option (Bool×List AC)) (fun v _=>fB v) (fun _=>none) (fun _ _=>none) (fun _ _=>none) (fun _=>none) (bR H2 true n (.one (.o (.ptr id g 0 lim))))=_;rw[fi,hg,pJ hl (by omega),List.drop_zero,List.take_of_length_le (by omega)];rfl
  have hr:bh E.P [.cell s t,.tmp q] A.tm H2=some [(true,cells),(false,[c])]:=by
   show ay (jy E.P (.cell s t) A.tm H2) none (fun x=>ay (ay (ay (A.tm.get q) none fB) none fun x=>ay (some []) none fun l=>some (x::l)) none fun l=>some (x::l))=_;rw[e1,tY hq];rfl
  show ay (bh E.P [.cell s t,.tmp q] A.tm H2) (R.bad "results") (fun l=>R.ok [(cT l,H2)])=_
  rw[hr];rfl
 rcases he with rfl|rfl
 ·exact key
 exact key
theorem po (H:Hp) (p:AC) (o:Option (List Lad)) (s:List UInt8) (hp:cQ H p o) (hL:∀ ls,o=some ls→∀ x∈ls,x.2.length≤1000000):Con E2 56 [.one p,.one (.o (.str s))] H (fun _=>False) fun r H'=>
  ∃ c,r=.tup [(true,c),(false,[.i .i64 (kf o s)])]∧Qz H' c o s∧c.length=2:=by
 refine Con.of rfl fun lg=>?_;have hp:cQ ⟨H.t,H.nx,lg⟩ p o:=cQ.same (H:=H) rfl rfl hp;generalize (⟨H.t,H.nx,lg⟩:Hp)=H at hp ⊢;refine C1.body (E:=E2) (nt:=29) (res:=[.cell 4 97,.tmp 5]) Tryz.func56 rfl rfl rfl rfl rfl fun tm A0=>?_;have h0:=A0 0 _ rfl;have h1:=A0 1 _ rfl;clear A0;refine qG (qA ae eS) fun K hK=>?_;refine hK _ _ ?_;clear hK K;refine R1.gen (fun A1 H1=>Gr H H1∧H.nx<H1.nx∧H1.get H.nx=some (.arr [.o (.str []),.o .nilS] 97 0 0)∧slot A1.tm 0=.one p∧slot A1.tm 1=.one (.o (.str s))∧slot A1.tm 4=.one (.o (.ptr H.nx 0 0 2))∧A1.nt=29∧A1.dfr=[])
  ⟨(Fr.refl _).new _,?_⟩ ?_
 ·exact qZ (qA h0 h1)
 rintro A1 H1 ⟨g1,n1,r4,t0,t1,t4,B0,C0⟩;clear h0 h1 tm;have U5:=hp.gr g1;refine qG (qA ae (qA t0 (qA B0 Wm))) fun K hK=>?_;refine WE.con (QQ H1 p o U5) fun v H2 g2 hv=>?_;subst hv;refine qS (qA ae B0) ?_;refine hK _ _ ?_;clear hK K;have P4:=U5.gr g2;have g2':=g1.gr g2;have r4:H2.get H.nx=some (.arr [.o (.str []),.o .nilS] 97 0 0):=by rw[g2.get _ n1 zB2];exact r4
 have n2:H.nx<H2.nx:=zA0 n1 g2.nx;have fin:∀ (A:ab) (H3:Hp) (c:List AC) (e:Int),slot A.tm 4=.one (.o (.ptr H.nx 0 0 2))→slot A.tm 5=.one (.i .i64 e)→A.dfr=[]→Gr H H3→H3.get H.nx=some (.arr c 97 0 0)→c.length=2→e=kf o s→Qz H3 c o s →
   ∃ w H4,aC E2 [.cell 4 97,.tmp 5] (.ret,A,H3)=.ok [(w,H4)]∧Gr H H4∧∀ lg':List Nat,∃ c,w=.tup [(true,c),(false,[.i .i64 (kf o s)])]∧Qz ⟨H4.t,H4.nx,lg'⟩ c o s∧c.length=2:=fun A H3 c e h4 h5 hd hg hr hc he ha=>
  ⟨_,H3,qM (id:=H.nx) (g:=0) da (.inr rfl) (by rw[hd];rfl) h4 (by rw[hr];exact cy (zA1 _) (zA1 _)) (zA1 _) hc h5,hg,fun _=>⟨c,by rw[he],ha,hc⟩⟩
 cases o with
 | none=>
  refine qY ?_;refine qW (qA ae (qA B0 (qA eS (qA sX (qA t4 (qA jg (qA r4 n2))))))) ?_;exact fin _ _ _ 1 (by simp only[aa,Nat.reduceEqDiff,reduceIte,t4]) qp (qd C0) (g2'.mod _ (.inl (zA1 _))) (aj rfl) rfl rfl ⟨fun _=>rfl,fun ls i x h=>by cases h⟩
 | some ls=>
  refine qY ?_;refine R1.bg ?_;have P4:oH H2 p ls:=P4;refine qG (qA ae (qA t0 (qA t1 (qA B0 Pp)))) fun K hK=>?_;refine WE.con (OR H2 p ls s P4) fun v H3 g3 hv=>?_;subst hv;refine qS (qA ae B0) ?_;refine hK _ _ ?_;clear hK K;have z9:=P4.gr g3;have r4:H3.get H.nx=some (.arr [.o (.str []),.o .nilS] 97 0 0):=by rw[g3.get _ n2 zB2];exact r4
  have n3:H.nx<H3.nx:=zA0 n2 g3.nx;have g3':=g2'.gr g3;cases hfi:iv 0 ls s with
  | none=>
   have hle:kf (some ls) s=4:=by rw[oc,hfi];rfl
   simp only[Option.isSome_none,Bool.false_eq_true,if_false];refine qW (qA ae B0) ?_;refine qY ?_;refine qW (qA ae (qA B0 (qA eS (qA sX (qA t4 (qA jg (qA r4 n3))))))) ?_;exact fin _ _ _ 4 (by simp only[aa,Nat.reduceEqDiff,reduceIte,t4]) qp (qd C0) (g3'.mod _ (.inl (zA1 _))) (aj rfl) rfl hle.symm ⟨fun _=>rfl,fun ls' i x h h2=>by cases h;rw[hfi] at h2;cases h2⟩
  | some i=>
   have hle:kf (some ls) s=0:=by rw[oc,hfi];rfl
   obtain ⟨x,hx,m6⟩:=Sq hfi;simp only[Option.isSome_some,if_true,Option.getD_some];refine qW (qA ae B0) ?_;refine qY ?_;refine R1.bg ?_;obtain ⟨kb,m,lad,gr,fc,rfl,k1,k2,k3,k4,k5⟩:=z9;have D0:i<ls.length:=(List.getElem?_eq_some_iff.1 hx).1;obtain ⟨id,g,off,cells,rfl,hid,hg,O0⟩:=k5.open (by omega);obtain ⟨u,hu,m9,V0,_⟩:=O0 i x hx;refine qG (qA ae (qA t0 (qA B0 (qA k1 (qA k3 (qA kI (qA lV (qA fe (qA da (qA (ixC D0) (qA hid (qA hg (qA m9 (qA V0 AU)))))))))))))) fun K hK=>?_;refine WE.con (uI H3 x.1 u x.2 hu (hL ls rfl x (List.mem_of_getElem? hx))) fun w H6 g6 ⟨u',hv,hu',L2⟩=>?_;subst hv;have r4:H6.get H.nx=some (.arr [.o (.str []),.o .nilS] 97 0 0):=by rw[g6.get _ n3 zB2];exact r4
   have n6:H.nx<H6.nx:=zA0 n3 g6.nx;have hu6:SlP (H6.mod H.nx (.arr [.o (.str x.1),u'] 97 0 0)) u' x.2:=SlC.fr hu' du fun k h e=>by have:=L2 k h;omega
   refine qS (qA ae (qA B0 (qA t4 (qA jg (qA r4 n6))))) ?_;refine hK _ _ ?_;clear hK K;refine qV ?_;exact fin _ _ _ 0 (by simp only[aa,Nat.reduceEqDiff,reduceIte,t4]) qp (qd C0) ((g3'.gr g6).mod _ (.inl (zA1 _))) (aj rfl) rfl hle.symm ⟨fun h=>absurd hle h,fun ls' j y h h2 h3=>by
    cases h
    rw[hfi] at h2;cases h2
    rw[hx] at h3;cases h3
    exact ⟨u',rfl,hu6⟩⟩
theorem Jx (H:Hp) (p:AC) (o:Option (List Lad)) (hp:cQ H p o) (hL:∀ ls,o=some ls→∀ x∈ls,x.2.length≤1000000):Con E2 114 [.one p] H (fun _=>False) fun r _=>r=.one (.b o.isNone):=by
 refine Con.of rfl fun lg=>?_;have hp:cQ ⟨H.t,H.nx,lg⟩ p o:=cQ.same (H:=H) rfl rfl hp;generalize (⟨H.t,H.nx,lg⟩:Hp)=H at hp ⊢;refine C1.body (E:=E2) (nt:=12) (res:=[.tmp 2]) Tryz.func114 rfl rfl rfl rfl rfl fun tm A0=>?_;have h0:=A0 0 _ rfl;clear A0;refine qV ?_;refine qG (qA ae (qA h0 sG)) fun K hK=>?_;refine WE.con (po H p o [] hp hL) fun v H2 g2 ⟨c,hv,ha,hc⟩=>?_;subst hv;refine qS (qA ae (qA eS (qA jg hc))) ?_;refine hK _ _ ?_;clear hK K;refine qV ?_;refine ⟨_,_,ai (.b o.isNone) (.inr rfl) rfl ?_,(g2.new _).mod _ (.inl g2.nx),fun _=>rfl⟩;simp only[aa,Nat.reduceEqDiff,reduceIte];have:(kf o []==1)=o.isNone:=by
  cases o with
  | none=>rfl
  | some ls=>rw[oc];split <;> rfl
 rw[this]
theorem iD:loadT Tryz.prog 102=some (false,1):=by kernel_rfl
theorem MI:aS Tryz.prog 102=some 1:=by kernel_rfl
theorem LG:(aB Tryz.prog 102).map (fun z=>(ofValue z).cells)=some [.o .nilS]:=by kernel_rfl
theorem iJ:bm Tryz.prog 102=some (9,1):=by kernel_rfl
theorem iP:eu Tryz.prog 102=some 1:=by kernel_rfl
theorem MT:aP Tryz.prog 102=1:=by kernel_rfl
theorem qz:loadT Tryz.prog 104=some (true,3):=by kernel_rfl
theorem Ck:aS Tryz.prog 104=some 3:=by kernel_rfl
theorem Bz:(aB Tryz.prog 104).map (fun z=>(ofValue z).cells)=some [.o (.str []),.o (.str []),.o .nilS]:=by kernel_rfl
theorem Kr:aP Tryz.prog 104=4:=by kernel_rfl
theorem kG:aI Tryz.prog 104 0=some (0,9,1):=by kernel_rfl
theorem eE:aI Tryz.prog 104 1=some (1,9,1):=by kernel_rfl
theorem eL:aI Tryz.prog 104 2=some (2,102,1):=by kernel_rfl
def uB:Nat→Option (Nat×Nat):=fun i=>(#[(0,1),(1,1),(2,1)]:Array (Nat×Nat))[i]?
theorem Mf:ca Tryz.prog 104=some uB:=by kernel_rfl
theorem Aw:uB 0=some (0,1):=rfl
theorem Ay:uB 1=some (1,1):=rfl
theorem zc:uB 2=some (2,1):=rfl
theorem Hs:loadT Tryz.prog 23=some (false,1):=by kernel_rfl
theorem HB:aS Tryz.prog 23=some 1:=by kernel_rfl
theorem Hm:(aB Tryz.prog 23).map (fun z=>(ofValue z).cells)=some [.o .nilS]:=by kernel_rfl
theorem dT:bm Tryz.prog 23=some (104,3):=by kernel_rfl
theorem kT:eu Tryz.prog 23=some 1:=by kernel_rfl
theorem DW:aP Tryz.prog 23=1:=by kernel_rfl
end Go.Proofs.YtnhbkodnmkojpaaGreat
