/- A part of the proof: BkFacts, BkTy, BkUn, BkChk, BkCpy, BkBook, BkNew, BkLad, BkFacts2. No conditions. -/
import Derived.Test.YtnhbkodnmkojpaaGreatRAj
import Derived.Test.YtnhbkodnmkojpaaGreatRAf
import Derived.KernelRfl
set_option maxRecDepth 100000
set_option maxHeartbeats 64000000
set_option linter.unusedVariables false
set_option linter.unusedSimpArgs false
namespace Go.Proofs.YtnhbkodnmkojpaaGreat
open Go Go.Eng
theorem aO:loadT Tryz.prog 9=some (false,1):=by kernel_rfl
theorem Ts:aU Tryz.prog 9=some 1:=by kernel_rfl
theorem PC:(ax Tryz.prog 9).map (fun z=>(ofValue z).cells)=some [.o (.str [])]:=by kernel_rfl
theorem sk:eT Tryz.prog 9=some 0:=by kernel_rfl
theorem vv:nq Tryz.prog 9=true:=by kernel_rfl
theorem QY:aS Tryz.prog 9=4:=by kernel_rfl
theorem bV:loadT Tryz.prog 3=some (false,1):=by kernel_rfl
theorem vQ:aU Tryz.prog 3=some 1:=by kernel_rfl
theorem sA:bW Tryz.prog 3=some 8:=by kernel_rfl
theorem oV:(ax Tryz.prog 3).map (fun z=>(ofValue z).cells)=some [.i .i64 0]:=by kernel_rfl
theorem xm:∃ z,ax Tryz.prog 3=some z∧(ofValue z).cells.length=1:=by
 have h:=oV;cases hz:ax Tryz.prog 3 with
 | none=>rw[hz] at h;cases h
 | some z=>
  rw[hz] at h;exact ⟨z,rfl,by have:(ofValue z).cells=_:=Option.some.inj h;rw[this];rfl⟩
theorem Bw:ax Tryz.prog 3=some (.int .i64 0):=by kernel_rfl
theorem jm:Tryz.prog.underlying 3=some (.int .i64):=by kernel_rfl
theorem Qz:aS Tryz.prog 3=4:=by kernel_rfl
theorem jx:loadT Tryz.prog 4=some (false,1):=by kernel_rfl
theorem Ni:aU Tryz.prog 4=some 1:=by kernel_rfl
theorem MU:(ax Tryz.prog 4).map (fun z=>(ofValue z).cells)=some [.b false]:=by kernel_rfl
theorem MT:ax Tryz.prog 4=some (.bool false):=by kernel_rfl
theorem UR:Tryz.prog.underlying 4=some .bool:=by kernel_rfl
theorem Lw:aS Tryz.prog 4=4:=by kernel_rfl
theorem pI:loadT Tryz.prog 38=some (false,1):=by kernel_rfl
theorem eB:aU Tryz.prog 38=some 1:=by kernel_rfl
theorem pJ:(ax Tryz.prog 38).map (fun z=>(ofValue z).cells)=some [.i .i64 0]:=by kernel_rfl
theorem Hs:aS Tryz.prog 38=4:=by kernel_rfl
theorem qh:loadT Tryz.prog 165=some (true,2):=by kernel_rfl
theorem nD:aU Tryz.prog 165=some 2:=by kernel_rfl
theorem Lk:bW Tryz.prog 165=some 24:=by kernel_rfl
theorem lA:(ax Tryz.prog 165).map (fun z=>(ofValue z).cells)=some [.o (.str []),.i .i64 0]:=by kernel_rfl
theorem Mq:∃ z,ax Tryz.prog 165=some z∧(ofValue z).cells.length=2:=by
 have h:=lA;cases hz:ax Tryz.prog 165 with
 | none=>rw[hz] at h;cases h
 | some z=>
  rw[hz] at h;exact ⟨z,rfl,by have:(ofValue z).cells=_:=Option.some.inj h;rw[this];rfl⟩
theorem Nh:aS Tryz.prog 165=4:=by kernel_rfl
theorem bQ:aJ Tryz.prog 165 0=some (0,9,1):=by kernel_rfl
theorem cx:aJ Tryz.prog 165 1=some (1,3,1):=by kernel_rfl
def BY:Nat→Option (Nat×Nat):=fun i=>(#[(0,1),(1,1)]:Array (Nat×Nat))[i]?
theorem KE:cH Tryz.prog 165=some BY:=by kernel_rfl
theorem Ae:BY 0=some (0,1):=rfl
theorem zk:BY 1=some (1,1):=rfl
theorem cC:loadT Tryz.prog 95=some (false,1):=by kernel_rfl
theorem HL:aU Tryz.prog 95=some 1:=by kernel_rfl
theorem Fg:(ax Tryz.prog 95).map (fun z=>(ofValue z).cells)=some [.o .nilS]:=by kernel_rfl
theorem gW:ba Tryz.prog 95=some (165,2):=by kernel_rfl
theorem dP:eT Tryz.prog 95=some 1:=by kernel_rfl
theorem FV:aS Tryz.prog 95=1:=by kernel_rfl
theorem ca:loadT Tryz.prog 97=some (true,2):=by kernel_rfl
theorem fW:aU Tryz.prog 97=some 2:=by kernel_rfl
theorem RV:bW Tryz.prog 97=some 40:=by kernel_rfl
theorem dX:(ax Tryz.prog 97).map (fun z=>(ofValue z).cells)=some [.o (.str []),.o .nilS]:=by kernel_rfl
theorem Tx:∃ z,ax Tryz.prog 97=some z∧(ofValue z).cells.length=2:=by
 have h:=dX;cases hz:ax Tryz.prog 97 with
 | none=>rw[hz] at h;cases h
 | some z=>
  rw[hz] at h;exact ⟨z,rfl,by have:(ofValue z).cells=_:=Option.some.inj h;rw[this];rfl⟩
theorem PA:aS Tryz.prog 97=4:=by kernel_rfl
theorem fq:aJ Tryz.prog 97 0=some (0,9,1):=by kernel_rfl
theorem cF:aJ Tryz.prog 97 1=some (1,95,1):=by kernel_rfl
def Jo:Nat→Option (Nat×Nat):=fun i=>(#[(0,1),(1,1)]:Array (Nat×Nat))[i]?
theorem px:cH Tryz.prog 97=some Jo:=by kernel_rfl
theorem qI:Jo 0=some (0,1):=rfl
theorem rz:Jo 1=some (1,1):=rfl
theorem jH:loadT Tryz.prog 22=some (false,1):=by kernel_rfl
theorem uq:aU Tryz.prog 22=some 1:=by kernel_rfl
theorem Nb:(ax Tryz.prog 22).map (fun z=>(ofValue z).cells)=some [.o .nilS]:=by kernel_rfl
theorem fa:ba Tryz.prog 22=some (97,2):=by kernel_rfl
theorem iD:eT Tryz.prog 22=some 1:=by kernel_rfl
theorem MJ:aS Tryz.prog 22=1:=by kernel_rfl
theorem sC:loadT Tryz.prog 191=some (false,1):=by kernel_rfl
theorem Kf:aU Tryz.prog 191=some 1:=by kernel_rfl
theorem JZ:(ax Tryz.prog 191).map (fun z=>(ofValue z).cells)=some [.o .nilM]:=by kernel_rfl
theorem Bx:eT Tryz.prog 191=some 2:=by kernel_rfl
theorem xd:ir Tryz.prog 191=some (9,4):=by kernel_rfl
theorem CY:bC Tryz.prog 9=0:=by kernel_rfl
theorem Uk:aS Tryz.prog 191=2:=by kernel_rfl
theorem oX:loadT Tryz.prog 88=some (false,1):=by kernel_rfl
theorem Sw:aU Tryz.prog 88=some 1:=by kernel_rfl
theorem Se:(ax Tryz.prog 88).map (fun z=>(ofValue z).cells)=some [.o .nilM]:=by kernel_rfl
theorem TU:eT Tryz.prog 88=some 2:=by kernel_rfl
theorem vM:ir Tryz.prog 88=some (9,3):=by kernel_rfl
theorem wV:bC Tryz.prog 9=0:=by kernel_rfl
theorem CK:aS Tryz.prog 88=2:=by kernel_rfl
theorem DZ:loadT Tryz.prog 29=some (false,1):=by kernel_rfl
theorem Ei:aU Tryz.prog 29=some 1:=by kernel_rfl
theorem Im:(ax Tryz.prog 29).map (fun z=>(ofValue z).cells)=some [.o .nilP]:=by kernel_rfl
theorem lY:aS Tryz.prog 29=0:=by kernel_rfl
theorem Le:loadT Tryz.prog 132=some (true,4):=by kernel_rfl
theorem Nc:aU Tryz.prog 132=some 4:=by kernel_rfl
theorem Ci:(ax Tryz.prog 132).map (fun z=>(ofValue z).cells)=some [.o .nilS,.o .nilM,.o .nilS,.o .nilS]:=by kernel_rfl
theorem LY:aS Tryz.prog 132=4:=by kernel_rfl
theorem kN:aJ Tryz.prog 132 0=some (0,22,1):=by kernel_rfl
theorem gI:aJ Tryz.prog 132 1=some (1,88,1):=by kernel_rfl
theorem sG:aJ Tryz.prog 132 2=some (2,57,1):=by kernel_rfl
theorem si:aJ Tryz.prog 132 3=some (3,130,1):=by kernel_rfl
def pM:Nat→Option (Nat×Nat):=fun i=>(#[(0,1),(1,1),(2,1),(3,1)]:Array (Nat×Nat))[i]?
theorem Cw:cH Tryz.prog 132=some pM:=by kernel_rfl
theorem Ad:pM 0=some (0,1):=rfl
theorem ss:pM 1=some (1,1):=rfl
theorem yE:pM 2=some (2,1):=rfl
theorem xY:pM 3=some (3,1):=rfl
theorem uh:loadT Tryz.prog 57=some (false,1):=by kernel_rfl
theorem Df:aU Tryz.prog 57=some 1:=by kernel_rfl
theorem Ld:(ax Tryz.prog 57).map (fun z=>(ofValue z).cells)=some [.o .nilS]:=by kernel_rfl
theorem fv:ba Tryz.prog 57=some (3,1):=by kernel_rfl
theorem uv:eT Tryz.prog 57=some 1:=by kernel_rfl
theorem MX:aS Tryz.prog 57=1:=by kernel_rfl
theorem wj:loadT Tryz.prog 130=some (false,1):=by kernel_rfl
theorem xA:aU Tryz.prog 130=some 1:=by kernel_rfl
theorem EL:(ax Tryz.prog 130).map (fun z=>(ofValue z).cells)=some [.o .nilS]:=by kernel_rfl
theorem pU:ba Tryz.prog 130=some (138,2):=by kernel_rfl
theorem Gt:eT Tryz.prog 130=some 1:=by kernel_rfl
theorem Eb:aS Tryz.prog 130=1:=by kernel_rfl
theorem ME:loadT Tryz.prog 138=some (true,2):=by kernel_rfl
theorem MG:aU Tryz.prog 138=some 2:=by kernel_rfl
theorem VK:bW Tryz.prog 138=some 48:=by kernel_rfl
theorem tZ:(ax Tryz.prog 138).map (fun z=>(ofValue z).cells)=some [.o .nilS,.o .nilS]:=by kernel_rfl
theorem UO:∃ z,ax Tryz.prog 138=some z∧(ofValue z).cells.length=2:=by
 have h:=tZ;cases hz:ax Tryz.prog 138 with
 | none=>rw[hz] at h;cases h
 | some z=>
  rw[hz] at h;exact ⟨z,rfl,by have:(ofValue z).cells=_:=Option.some.inj h;rw[this];rfl⟩
theorem Lq:aS Tryz.prog 138=4:=by kernel_rfl
theorem zw:aJ Tryz.prog 138 0=some (0,136,1):=by kernel_rfl
theorem yo:aJ Tryz.prog 138 1=some (1,136,1):=by kernel_rfl
def Cv:Nat→Option (Nat×Nat):=fun i=>(#[(0,1),(1,1)]:Array (Nat×Nat))[i]?
theorem Ck:cH Tryz.prog 138=some Cv:=by kernel_rfl
theorem yI:Cv 0=some (0,1):=rfl
theorem AI:Cv 1=some (1,1):=rfl
theorem ad:E2.P=Tryz.prog:=rfl
theorem fM:ak Tryz.prog 101=true:=by kernel_rfl
theorem Tp:ak Tryz.prog 16=true:=by kernel_rfl
theorem Iw:ak Tryz.prog 119=true:=by kernel_rfl
theorem Be:ak Tryz.prog 170=true:=by kernel_rfl
theorem uV:ak Tryz.prog 67=true:=by kernel_rfl
theorem MH:ak Tryz.prog 120=true:=by kernel_rfl
theorem ri (s:List UInt8):E2.gp 101 [.one (.o (.str s))]=some (.one (.b (nmB s))):=by
 show some (AV.one (.b (Bj s)))=_;rw[xv]
theorem pf (s:List UInt8) (H:Hp) {X:Nat→Prop}:Con E2 101 [.one (.o (.str s))] H X fun v _=>v=.one (.b (nmB s)):=
 Con.gp (v:=.one (.b (Bj s))) rfl fun _=>by rw[xv]
theorem Pp (H:Hp) {X:Nat→Prop}:Con E2 16 [] H X fun v _=>v=.one (.b true):=Con.gp rfl fun _=>rfl
theorem tJ {A:ab} {k:Tmp} {c:AC} (h:slot A.tm k=.one c):A.tm.get k=some (.one c):=by
 unfold slot at h;cases hk:A.tm.get k with
 | none=>rw[hk] at h;cases h
 | some u=>rw[hk] at h;exact congrArg some h
theorem aQ {E:Env} {s t:Tmp} {A:ab} {H:Hp} {e:aA} (c d:AC) (he:e=.normal∨e=.ret) (hd:A.dfr=[]) (hs:slot A.tm s=.one c) (ht:slot A.tm t=.one d):an E [.tmp s,.tmp t] (e,A,H)=.ok [(.tup [(false,[c]),(false,[d])],H)]:=by
 have key:(az (closeAll H A.dfr) (R.bad "marks") fun h2=>az (bk E.P [.tmp s,.tmp t] A.tm h2) (.bad "results") fun l=>.ok [(du l,h2)])=.ok [(.tup [(false,[c]),(false,[d])],H)]:=by
  rw[hd];have hr:bk E.P [.tmp s,.tmp t] A.tm H=some [(false,[c]),(false,[d])]:=by
   show az (az (A.tm.get s) none fO) none (fun x=>az (az (az (A.tm.get t) none fO) none fun x=>az (some []) none fun l=>some (x::l)) none fun l=>some (x::l))=_;rw[tJ hs,tJ ht];rfl
  show az (bk E.P [.tmp s,.tmp t] A.tm H) (R.bad "results") (fun l=>R.ok [(du l,H)])=_
  rw[hr];rfl
 rcases he with rfl|rfl
 ·exact key
 exact key
theorem cN {E:Env} {A:ab} {H:Hp} {e:aA} (he:e=.normal∨e=.ret) (hd:A.dfr=[]):an E [] (e,A,H)=.ok [(.tup [],H)]:=by
 have key:(az (closeAll H A.dfr) (R.bad "marks") fun h2=>az (bk E.P [] A.tm h2) (.bad "results") fun l=>.ok [(du l,h2)])=.ok [(.tup [],H)]:=by rw[hd];rfl
 rcases he with rfl|rfl
 ·exact key
 exact key
theorem Dh {E:Env} {s:Tmp} {t:TypeId} {A:ab} {H H2:Hp} {e:aA} {id g off lim:Nat} {cells:List AC} {c:AC} (ht:loadT E.P t=some (false,1)) (he:e=.normal∨e=.ret) (hd:closeAll H A.dfr=some H2) (hs:slot A.tm s=.one (.o (.ptr id g off lim)))
  (hg:rowOf (H2.get id) g=some cells) (hl:1≤lim) (ho:off+1≤cells.length) (hc:(cells.drop off).headD (.b false)=c):an E [.cell s t] (e,A,H)=.ok [(.one c,H2)]:=by
 have key:(az (closeAll H A.dfr) (R.bad "marks") fun h2=>az (bk E.P [.cell s t] A.tm h2) (.bad "results") fun l=>.ok [(du l,h2)])=.ok [(.one c,H2)]:=by
  rw[hd];have hr:bk E.P [.cell s t] A.tm H2=some [(false,[c])]:=by
   have e1:iY E.P (.cell s t) A.tm H2=some (false,[c]):=by
    have e0:iY E.P (.cell s t)=match loadT E.P t with
      | some p=>fun tm h=>az (tm.get s) none fun v=>ae.rec (motive:=fun _=>Option (Bool×List AC)) (fun v _=>fO v) (fun _=>none) (fun _ _=>none) (fun _ _=>none) (fun _=>none) (cd h p.1 p.2 v)
      | none=>fun _ _=>none:=rfl
    rw[e0,ht];show az (A.tm.get s) none (fun v=>ae.rec (motive:=fun _=>Option (Bool×List AC)) (fun v _=>fO v) (fun _=>none) (fun _ _=>none) (fun _ _=>none) (fun _=>none) (cd H2 false 1 v))=_;rw[tJ hs];show ae.rec (motive:=fun _=>Option (Bool×List AC)) (fun v _=>fO v) (fun _=>none) (fun _ _=>none) (fun _ _=>none) (fun _=>none) (cd H2 false 1 (.one (.o (.ptr id g off lim))))=_;rw[fE,hg,tY hl ho,hc];rfl
   show az (iY E.P (.cell s t) A.tm H2) none (fun x=>az (some []) none fun l=>some (x::l))=_;rw[e1];rfl
  show az (bk E.P [.cell s t] A.tm H2) (R.bad "results") (fun l=>R.ok [(du l,H2)])=_
  rw[hr];rfl
 rcases he with rfl|rfl
 ·exact key
 exact key
theorem iF {H:Hp} {d:Nat} (h:H.get d=some (.oth (.dfr true))):closeAll H [d]=some (H.mod d (.oth (.dfr false))):=by
 show (match H.get d with|some (.oth (.dfr true))=>closeAll (H.mod d (.oth (.dfr false))) []|_=>none)=_;rw[h];rfl
theorem SlC.fr {H H':Hp} {v:AC} {sz n:Nat} {c:List AC} {X:Nat→Prop} (h:SlC H v sz n c) (hf:Fr X H H') (hx:∀ id∈(AV.one v).ids,¬X id):SlC H' v sz n c:=by
 refine ⟨h.1,h.2.imp id ?_⟩;rintro ⟨id,g,off,h1,h2,h3⟩;subst h1;exact ⟨id,g,off,rfl,zA0 h2 hf.nx,h3.dY (hf.get _ h2 (hx id (List.mem_singleton.2 rfl)))⟩
abbrev Pr:=List UInt8×Int
def prC (x:Pr):List AC:=[.o (.str x.1),.i .i64 x.2]
theorem eK (x:Pr):prC x=[.o (.str x.1),.i .i64 x.2]:=by unfold prC;rfl
theorem Vs (x:Pr):(prC x).length=2:=rfl
def SlP (H:Hp) (v:AC) (l:List Pr):Prop:=SlC H v 2 l.length (l.flatMap prC)
theorem SlP.gr {H H':Hp} {v:AC} {l:List Pr} (h:SlP H v l) (hg:Gr H H'):SlP H' v l:=SlC.gr h hg
theorem SlP.len {H:Hp} {v:AC} {l:List Pr} (h:SlP H v l):cQ H 1 (.one v)=.val (.one (.i .i64 (l.length:Int))) H:=SlC.len h
theorem SlP.lt {H:Hp} {v:AC} {l:List Pr} (h:SlP H v l):ltV (.one v) H.nx:=kY h
theorem SlP.nil {H:Hp}:SlP H (.o .nilS) []:=⟨by simp,.inl ⟨rfl,rfl⟩⟩
structure Ya (cells:List AC) (o:Nat) (x:Pr):Prop where
 all:(cells.drop o).take 2=prC x
 le:o+2≤cells.length
 le1:o+1≤cells.length
 le2:o+1+1≤cells.length
 fst:(cells.drop o).headD (.b false)=.o (.str x.1)
 snd:(cells.drop (o+1)).headD (.b false)=.i .i64 x.2
theorem UU {cells:List AC} {o:Nat} {x:Pr} (h:(cells.drop o).take 2=prC x) (hl:o+2≤cells.length):Ya cells o x:=by
 refine ⟨h,hl,by omega,by omega,?_,?_⟩
 ·cases hd:cells.drop o with
  | nil=>have:=congrArg List.length hd;simp at this;omega
  | cons a r=>
   rw[hd] at h;cases r with
   | nil=>cases h
   | cons b r=>cases h;rfl
 rw[←List.drop_drop];cases hd:cells.drop o with
 | nil=>have:=congrArg List.length hd;simp at this;omega
 | cons a r=>
  rw[hd] at h;cases r with
  | nil=>cases h
  | cons b r=>cases h;rfl
theorem SlP.open {H:Hp} {v:AC} {l:List Pr} (h:SlP H v l) (hn:0<l.length):∃ id g off cells,v=.o (.sl id g off l.length 2)∧id<H.nx∧rowOf (H.get id) g=some cells∧∀ (i:Nat) (x:Pr),l[i]?=some x→Ya cells (off+i*2) x:=by
 obtain ⟨id,g,off,h1,h2,hr⟩:=SlC.pos h hn;have E3:=hr;obtain ⟨cells,h3,h6,h7⟩:=hr;refine ⟨id,g,off,cells,h1,h2,h3,fun i x hx=>?_⟩;obtain ⟨cells',k3,k6,k7⟩:=Rd.at (c:=prC) Vs E3 hx;rw[h3] at k3;cases k3
 exact UU k7 k6
def yv:Int→List Pr→List (Pr×Int)
 | _,[]=>[]
 | v,u::us=>if u.2<1∨60<u.2∨1099511627776<v*u.2 then [] else (u,v*u.2)::yv (v*u.2) us
theorem BL:∀ (v:Int) (us:List Pr),(yv v us).length≤us.length
 | _,[]=>zA1 _
 | v,u::us=>by
  unfold yv;split
  ·exact Nat.zero_le _
  exact Nat.succ_le_succ (BL _ us)
theorem Sa:∀ (v:Int) (us:List Pr) (i:Nat) (y:Pr×Int),(yv v us)[i]?=some y→us[i]?=some y.1
 | _,[],_,_,h=>by simp[yv] at h
 | v,u::us,i,y,h=>by
  unfold yv at h;split at h
  ·simp at h
  cases i with
  | zero=>
   simp only[List.getElem?_cons_zero,Option.some.injEq] at h ⊢;rw[←h]
  | succ i=>
   rw[List.getElem?_cons_succ] at h ⊢;exact Sa _ us i y h
def yA (ys:List (Pr×Int)) (i:Nat):List AV:=
 match ys[i]? with
 | some y=>[.agg (prC y.1),.one (.i .i64 y.2)]
 | none=>[.any,.any]
theorem TK (ys:List (Pr×Int)) (i:Nat):(yA ys i).length=2:=by
 unfold yA;split <;> rfl
theorem Re {ys:List (Pr×Int)} {i:Nat} {y:Pr×Int} (h:ys[i]?=some y):yA ys i=[.agg (prC y.1),.one (.i .i64 y.2)]:=by
 unfold yA;rw[h]
def DL (il:Nat) (u:AC) (k:Nat):Prop:=k=il∨k∈(AV.one u).ids
theorem xX (H:Hp) (il:Nat) (n:AC) (u:AC) (us:List Pr) (D_:il<H.nx) (hg:H.get il=some (.arr [n,u] 97 0 0)) (hu:SlP H u us) (hL:us.length≤1000000) (ys:List (Pr×Int)) (W8:yv 1 us=ys):
  ItC E2 170 [(il,0,0,2)] ys.length (yA ys) (DL il u) H:=by
 intro σ L B s H1 o8 D5 hj;refine Con.of rfl fun lg=>?_;have hj:B.J 0 s ⟨H1.t,H1.nx,lg⟩:=B.hJ hj (zA1 _) fun _ _=>rfl;have o8:H.nx≤(⟨H1.t,H1.nx,lg⟩:Hp).nx:=o8;have D5:∀ k,k<H.nx→(⟨H1.t,H1.nx,lg⟩:Hp).get k=H.get k:=D5;have e0:H1.nx=(⟨H1.t,H1.nx,lg⟩:Hp).nx:=rfl;rw[e0];clear e0;generalize (⟨H1.t,H1.nx,lg⟩:Hp)=H1 at hj o8 D5 ⊢;have M4:H1.get il=some (.arr [n,u] 97 0 0):=by rw[D5 _ D_];exact hg
 have hil1:il<H1.nx:=zA0 D_ o8;have Q1:SlP H1 u us:=SlC.dY hu o8 D5;have hnu:∀ id∈(AV.one u).ids,¬B.fp s id:=fun id h hf=>(B.hl hj hf).2 (.inr h);have jend:∀ (j:Nat) (s3:σ) (H3:Hp),j=ys.length→B.J j s3 H3→B.J ys.length s3 H3:=fun j s3 H3 e h=>by subst e;exact h
 refine C1.body (E:=E2) (nt:=35) (res:=[]) Tryz.func170 rfl rfl rfl rfl rfl fun tm A0=>?_;have h0:=A0 0 _ rfl;have h1:=A0 1 _ rfl;clear A0;refine qW (qA ad (qA h0 (qA h1 (qA cF (qA cC (qA M4 (qA hil1 (qA dP (qA Q1.len Q1.lt))))))))) ?_;refine R1.qu fun K k1 k2 k3 k4=>?_;refine R1.loop (fun k A H2=>∃ (i:Nat) (s2:σ) (val:Int),k=us.length - i∧i≤us.length∧i≤ys.length∧ys.drop i=yv val (us.drop i)∧1≤val∧val≤1099511627776∧B.J i s2 H2∧Fr (B.fp s) H1 H2∧(∀ k,B.fp s2 k→B.fp s k∨H1.nx≤k) ∧
  slot A.tm 0=.one (.o (.yl L))∧slot A.tm 3=.one (.i .i64 val)∧slot A.tm 7=.one u∧slot A.tm 8=.one (.i .i64 (us.length:Int))∧slot A.tm 9=.one (.i .i64 (i:Int))∧A.nt=35∧A.dfr=[]) ?_ us.length
  ⟨0,s,1,rfl,Nat.zero_le _,Nat.zero_le _,W8.symm,by omega,by omega,hj,Fr.refl _,fun _ h=>.inl h,?_⟩
 ·clear h0 h1 tm;rintro k A H2 ⟨i,s2,val,rfl,hi,hiy,U8,B2,X1,hj2,hf2,T8,t0,t3,t7,t8,t9,B0,C0⟩;have Y2:SlP H2 u us:=SlC.fr Q1 hf2 hnu;have fin:∀ (e:aA),e=.normal∨e=.ret→∀ s3 H3 A3,B.J ys.length s3 H3∨B.F s3 H3→Fr (B.fp s) H1 H3→(∀ k,B.fp s3 k→B.fp s k∨H1.nx≤k)→A3.dfr=[]→∃ v H4,an E2 [] (e,A3,H3)=.ok [(v,H4)]∧Fr (B.fp s) H1 H4∧∀ lg',∃ s',(B.J ys.length s' ⟨H4.t,H4.nx,lg'⟩∨B.F s' ⟨H4.t,H4.nx,lg'⟩)∧∀ k,B.fp s' k→B.fp s k∨H1.nx≤k:=fun e he s3 H3 A3 hjf hf T8 hd=>
   ⟨_,H3,cN he hd,hf,fun lg'=>⟨s3,hjf.imp (fun h=>B.hJ (H:=H3) h (zA1 _) fun _ _=>rfl) (fun h=>B.hF (H:=H3) h (zA1 _) fun _ _=>rfl),T8⟩⟩
  have stop:ys.drop i=[]→i=ys.length:=fun h=>by
   have:=congrArg List.length h;rw[List.length_drop,List.length_nil] at this;omega
  refine qW (qA ad (qA t8 (qA t9 B0))) ?_;refine qE fun Kx Ky hx hy=>?_;refine cY (fun hc=>hx ?_) (fun hc=>hy ?_)
  ·clear hx hy Kx Ky;have D0:i<us.length:=by omega
   obtain ⟨id,g,off,cells,rfl,hid,hg,L0⟩:=Y2.open (by omega);have ex:us[i]?=some us[i]:=zB4 D0;have Q0:us.drop i=us[i]::us.drop (i+1):=List.drop_eq_getElem_cons D0;generalize us[i]=x at ex Q0;have K0:=L0 i x ex;rw[Q0,yv] at U8;refine qV ?_;refine R1.aG fun K2 q1 q2 q3 q4=>?_;repeat refine R1.aE ?_
   refine qG (qA ad (qA t7 (qA t9 (qA B0 (qA gW (qA qh (qA nD (qA lA (qA (ixC D0) (qA hid (qA hg (qA K0.all (qA K0.le eK))))))))))))) fun K hK=>?_;refine hK _ _ ?_;clear hK K;refine R1.gen (fun A3 H3=>Gr H2 H3∧H2.nx<H3.nx∧H3.get H2.nx=some (.arr (prC x) 165 0 0)∧slot A3.tm 0=.one (.o (.yl L))∧slot A3.tm 3=.one (.i .i64 val)∧slot A3.tm 5=.one (.o (.ptr H2.nx 0 0 2))∧slot A3.tm 7=.one (.o (.sl id g off us.length 2))∧slot A3.tm 8=.one (.i .i64 (us.length:Int))∧slot A3.tm 9=.one (.i .i64 (i:Int))∧A3.nt=35∧A3.dfr=[])
    ⟨((Fr.refl _).new _).mod _ (.inl (zA1 _)),?_⟩ ?_
   ·exact qZ (qA t0 (qA t3 (qA t7 (qA t8 (qA t9 (qA B0 (qA C0 eK)))))))
   clear t0 t3 t7 t8 t9 B0 C0 A;rintro A H3 ⟨g3,n3,gx,t0,t3,t5,t7,t8,t9,B0,C0⟩;have hj3:B.J i s2 H3:=B.hJ hj2 g3.nx fun k hk=>g3.get k hk zB2;have hf3:Fr (B.fp s) H1 H3:=hf2.gr g3;have V0:=zC0 i (by omega);repeat refine R1.aE ?_
   by_cases hb1:x.2<1
   ·have c1:(x.2<1)=True:=eq_true hb1;rw[zB0 (.inl hb1)] at U8;refine qG (qA ad (qA t5 (qA B0 (qA gx (qA n3 (qA cx (qA bV (qA eK c1)))))))) fun K hK=>?_;refine hK _ _ ?_;clear hK K;refine qY ?_;refine qW B0 ?_;refine q4 _ _ (k4 _ _ (fin .ret (.inr rfl) s2 H3 _ (.inl (jend _ _ _ (stop U8) hj3)) hf3 T8 (qd C0)))
   have c1:(x.2<1)=False:=eq_false hb1;by_cases k8:60<x.2
   ·have c2:(60<x.2)=True:=eq_true k8;rw[zB0 (.inr (.inl k8))] at U8;refine qG (qA ad (qA t5 (qA B0 (qA gx (qA n3 (qA cx (qA bV (qA eK (qA c1 c2))))))))) fun K hK=>?_;refine hK _ _ ?_;clear hK K;refine qY ?_;refine qW B0 ?_;refine q4 _ _ (k4 _ _ (fin .ret (.inr rfl) s2 H3 _ (.inl (jend _ _ _ (stop U8) hj3)) hf3 T8 (qd C0)))
   have c2:(60<x.2)=False:=eq_false k8;have G':1≤val*x.2:=by
    have:=Int.mul_le_mul B2 (by omega:1≤x.2) (by omega) (by omega);omega
   have hmul2:val*x.2≤1099511627776*60:=Int.mul_le_mul X1 (by omega) (by omega) (by omega);have hwm:IntKind.i64.wrap (val*x.2)=val*x.2:=ao (by omega) (by omega);refine qG (qA ad (qA t5 (qA B0 (qA gx (qA n3 (qA cx (qA bV (qA eK (qA c1 c2))))))))) fun K hK=>?_;refine hK _ _ ?_;clear hK K;refine qY ?_;refine R1.aT ?_;repeat refine R1.aE ?_
   refine qG (qA ad (qA t3 (qA t5 (qA B0 (qA gx (qA n3 (qA cx (qA bV (qA eK hwm))))))))) fun K hK=>?_;refine hK _ _ ?_;clear hK K;repeat refine R1.aE ?_
   by_cases F_:1099511627776<val*x.2
   ·have c3:(1099511627776<val*x.2)=True:=eq_true F_;rw[zB0 (.inr (.inr F_))] at U8;refine qG (qA ad (qA B0 c3)) fun K hK=>?_;refine hK _ _ ?_;clear hK K;refine qY ?_;refine qW B0 ?_;refine q4 _ _ (k4 _ _ (fin .ret (.inr rfl) s2 H3 _ (.inl (jend _ _ _ (stop U8) hj3)) hf3 T8 (qd C0)))
   have c3:(1099511627776<val*x.2)=False:=eq_false F_;rw[zB1 (by omega)] at U8;have R_:i<ys.length:=by
    rcases Nat.lt_or_ge i ys.length with h|h
    ·exact h
    rw[List.drop_eq_nil_of_le h] at U8;cases U8
   have hey:ys[i]?=some (x,val*x.2):=by
    rw[List.drop_eq_getElem_cons R_] at U8;rw[zB4 R_,(List.cons.inj U8).1]
   have hdy2:ys.drop (i+1)=yv (val*x.2) (us.drop (i+1)):=by
    rw[List.drop_eq_getElem_cons R_] at U8;exact (List.cons.inj U8).2
   have hp:=B.pass i s2 H3 R_ hj3;rw[Re hey] at hp;refine qG (qA ad (qA t0 (qA t5 (qA B0 (qA gx (qA n3 (qA qh (qA c3 eK)))))))) fun K hK=>?_;refine WE.conR hp fun v H4 hf4 ⟨b,s3,hv,hbt,hbf,hfp3⟩=>?_;subst hv;have hf34:Fr (B.fp s) H1 H4:=hf3.then hf4 fun k hk=>(T8 k hk).symm;have hfp4:∀ k,B.fp s3 k→B.fp s k∨H1.nx≤k:=fun k hk=>by
    rcases hfp3 k hk with h|h
    ·exact T8 k h
    exact .inr (zA2 hf3.nx h)
   cases b with
   | false=>
    refine qS (qA ad B0) ?_;refine hK _ _ ?_;clear hK K;refine qY ?_;refine qW B0 ?_;refine q4 _ _ (k4 _ _ (fin .ret (.inr rfl) s3 H4 _ (.inr (hbf rfl)) hf34 hfp4 (qd C0)))
   | true=>
    refine qS (qA ad B0) ?_;refine hK _ _ ?_;clear hK K;refine qY ?_;refine qW B0 ?_;refine q1 _ _ ?_;refine qW (qA B0 (qA t9 V0)) ?_;refine ⟨us.length - (i+1),by omega,i+1,s3,val*x.2,rfl,D0,R_,hdy2,G',by omega,hbt rfl,hf34,hfp4,?_,?_,?_,?_,?_,?_,?_⟩
    ·simp only[aa,Nat.reduceEqDiff,reduceIte,t0]
    ·simp only[aa,Nat.reduceEqDiff,reduceIte]
    ·simp only[aa,Nat.reduceEqDiff,reduceIte,t7]
    ·simp only[aa,Nat.reduceEqDiff,reduceIte,t8]
    ·simp only[aa,Nat.reduceEqDiff,reduceIte]
    ·simp only[aw,B0]
    simp only[aj,C0]
  clear hx hy Kx Ky;have C2:i=us.length:=by omega
  rw[C2,List.drop_length,yv] at U8;refine qW B0 ?_;refine k2 _ _ ?_;refine fin .normal (.inl rfl) s2 H2 _ (.inl (jend _ _ _ (stop (by rw[C2];exact U8)) hj2)) hf2 T8 (qd C0)
 all_goals simp only[aa,Nat.reduceEqDiff,reduceIte,h0,aw,aj,and_self,true_and]
 all_goals first|rfl|exact ⟨rfl,trivial⟩
theorem zF (H:Hp) (n u:AC) (hu:ltV (.one u) H.nx):
  Con E2 119 [.agg [n,u]] H (fun _=>False) fun r H'=>r=.one (.o (.clo 170 [(H.nx,0,0,2)]))∧H'.get H.nx=some (.arr [n,u] 97 0 0)∧H.nx<H'.nx:=by
 refine Con.of rfl fun lg=>?_;have e0:H.nx=(⟨H.t,H.nx,lg⟩:Hp).nx:=rfl;rw[e0];clear e0;generalize (⟨H.t,H.nx,lg⟩:Hp)=H at hu ⊢;refine C1.body (E:=E2) (nt:=4) (res:=[.tmp 2]) Tryz.func119 rfl rfl rfl rfl rfl fun tm A0=>?_;have h0:=A0 0 _ rfl;clear A0;refine qW (qA ad h0) ?_;refine ⟨_,_,ah (.o (.clo 170 [(H.nx,0,0,2)])) (.inr rfl) rfl qp,(Fr.refl _).new _,fun _=>⟨rfl,?_,?_⟩⟩
 ·exact aB (H:=H) (o:=.arr [n,u] 97 0 0) rfl
 exact zA6 _
def okU (us:List Pr) (i:Nat) (x:Pr):Bool:=nmB x.1&&!((us.take i).any fun y=>y.1==x.1)&&((x.2==1)==((i:Int)==0))
def gq (n:List UInt8) (us:List Pr):Bool:=
 nmB n&&!((us.length:Int)==0)&&decide ((us.length:Int)≤12)&&decide ((yv 1 us).length=us.length)&&(List.range us.length).all fun i=>okU us i (us.getD i ([],0))
def bE (n:List UInt8) (us:List Pr):Int:=if gq n us=true then 0 else 10
theorem Sr {n:List UInt8} {us:List Pr} {i:Nat} {x:Pr} (hx:us[i]?=some x) (h:okU us i x=false):gq n us=false:=by
 have D0:i<us.length:=by
  rcases Nat.lt_or_ge i us.length with h|h
  ·exact h
  rw[List.getElem?_eq_none h] at hx;cases hx
 have:((List.range us.length).all fun i=>okU us i (us.getD i ([],0)))=false:=List.all_eq_false.2 ⟨i,List.mem_range.2 D0,by rw[List.getD_eq_getElem?_getD,hx];show ¬okU us i x=true;rw[h];decide⟩;unfold gq;rw[this,Bool.and_false]
def iv (us:List Pr) (i:Nat):List (List UInt8×AC):=(us.take i).map fun x=>(x.1,.b true)
theorem xT {us:List Pr} {i:Nat} (h:i≤us.length):(iv us i).length=i:=by
 unfold iv;rw[List.length_map,List.length_take];omega
theorem FU (us:List Pr) (i:Nat) (s:List UInt8):atK (iv us i) s=if (us.take i).any (fun y=>y.1==s)=true then some (.b true) else none:=by
 unfold iv;induction us.take i with
 | nil=>rfl
 | cons x l ih=>
  show (if x.1=s then some (AC.b true) else atK (l.map fun x=>(x.1,AC.b true)) s)=_;rw[ih,List.any_cons];by_cases h:x.1=s
  ·rw[zB0 h,h,beq_self_eq_true,Bool.true_or,zB0 rfl]
  rw[zB1 h,zB5 h,Bool.false_or]
theorem ID {us:List Pr} {i:Nat} {x:Pr} (hx:us[i]?=some x):iv us (i+1)=iv us i++[(x.1,.b true)]:=by
 obtain ⟨D0,rfl⟩:=List.getElem?_eq_some_iff.1 hx;unfold iv;rw[List.take_succ_eq_append_getElem D0,List.map_append];rfl
theorem Ud {H:Hp} {m:Nat} {us:List Pr} {i:Nat} {x:Pr} (hg:H.get m=some (ic (iv us i))) (hx:us[i]?=some x) (hs:((us.take i).any fun y=>y.1==x.1)=false):
  aV Tryz.prog H 9 (.one (.o (.mp m))) (.one (.o (.str x.1))) (.one (.b true))=.val aH (H.mod m (ic (iv us (i+1)))):=by
 rw[ID hx];exact wk CY hg (by rw[FU,hs];rfl)
theorem fU (t:PT AV) (d i:Nat) (v:AV):slot (t.set d v) i=if i=d then v else slot t i:=by
 unfold slot;rw[PT.dA];by_cases h:i=d
 ·rw[zB0 h,zB0 h];rfl
 rw[zB1 h,zB1 h]
theorem yK {H:Hp} {m:Nat} {us:List Pr} {i:Nat} {s:List UInt8} (hg:H.get m=some (ic (iv us i))):
  bw Tryz.prog H 9 (.one (.b false)) (.one (.o (.mp m))) (.one (.o (.str s))) false=.val (.one (.b ((us.take i).any fun y=>y.1==s))) H:=by
 rw[vu CY hg,FU];cases (us.take i).any (fun y=>y.1==s) <;> rfl
theorem HP (H:Hp) (b:Bool) (e:Int):Con E2 120 [.one (.b b),.one (.i .i64 e)] H (fun _=>False) fun r _=>r=.one (.i .i64 (if b=true then 0 else e)):=by
 refine Con.of rfl fun lg=>?_;generalize (⟨H.t,H.nx,lg⟩:Hp)=H;refine C1.body (E:=E2) (nt:=7) (res:=[.tmp 4]) Tryz.func120 rfl rfl rfl rfl rfl fun tm A0=>?_;have h0:=A0 0 _ rfl;have h1:=A0 1 _ rfl;clear A0;cases b with
 | true=>
  refine qW (qA ad (qA h0 h1)) ?_;refine qY ?_;refine qV ?_;exact ⟨_,_,ah (.i .i64 0) (.inr rfl) rfl qp,Fr.refl _,fun _=>rfl⟩
 | false=>
  refine qW (qA ad (qA h0 h1)) ?_;refine qY ?_;refine qW h1 ?_;exact ⟨_,_,ah (.i .i64 e) (.inr rfl) rfl qp,Fr.refl _,fun _=>rfl⟩
theorem sK (H:Hp) (n:List UInt8) (u:AC) (us:List Pr) (hu:SlP H u us):
  Con E2 67 [.agg [.o (.str n),u]] H (fun _=>False) fun r _=>r=.one (.i .i64 (bE n us)):=by
 refine Con.of rfl fun lg=>?_;have hu:SlP ⟨H.t,H.nx,lg⟩ u us:=hu;generalize (⟨H.t,H.nx,lg⟩:Hp)=H at hu ⊢;refine C1.body (E:=E2) (nt:=55) (res:=[.cell 2 38]) Tryz.func67 rfl rfl rfl rfl rfl fun tm A0=>?_;have h0:=A0 0 _ rfl;clear A0;refine qG (qA ad (qA h0 pJ)) fun K hK=>?_;refine hK _ _ ?_;clear hK K;have N5:∀ id∈(AV.one u).ids,id<H.nx:=hu.lt;refine R1.gen (fun A1 H1=>Gr H H1∧H.nx+1<H1.nx∧H1.get H.nx=some (.arr [.o (.str n),u] 97 0 0)∧H1.get (H.nx+1)=some (.arr [.i .i64 0] 38 0 0)∧slot A1.tm 1=.one (.o (.ptr H.nx 0 0 2))∧slot A1.tm 2=.one (.o (.ptr (H.nx+1) 0 0 1))∧A1.nt=55∧A1.dfr=[])
  ⟨((Fr.refl _).new _).new _,?_⟩ ?_
 ·exact qU
 rintro A1 H1 ⟨g1,n1,r1,r2,t1,t2,B0,C0⟩;clear h0 tm;have Q1:SlP H1 u us:=hu.gr g1;obtain ⟨c1,r8⟩:∃ c,c=H.nx:=⟨_,rfl⟩;obtain ⟨c2,P7⟩:∃ c,c=H.nx+1:=⟨_,rfl⟩;have h12:c1<c2:=by omega
 have o6:H.nx≤c1:=by omega
 rw[←r8] at r1 t1 N5;rw[←P7] at r2 t2 n1;have l1:c1<H1.nx:=by omega
 have fin:∀ (e:aA) (A:ab) (H2 H3:Hp) (v:Int),(e=.normal∨e=.ret)→closeAll H2 A.dfr=some H3→Gr H H3→slot A.tm 2=.one (.o (.ptr c2 0 0 1))→H3.get c2=some (.arr [.i .i64 v] 38 0 0)→v=bE n us →
   ∃ w H4,an E2 [.cell 2 38] (e,A,H2)=.ok [(w,H4)]∧Gr H H4∧∀ _:List Nat,w=.one (.i .i64 (bE n us)):=fun e A H2 H3 v he hd hg hs hr hv=>
  ⟨_,H3,Dh (c:=.i .i64 v) pI he hd hs (by rw[hr];exact bF (zA1 _) (zA1 _)) (zA1 _) (zA1 _) rfl,hg,fun _=>by rw[hv]⟩
 repeat refine R1.aE ?_
 refine qG (qA ad (qA t1 (qA B0 (qA r1 (qA l1 (qA fq (qA aO fM))))))) fun K hK=>?_;refine WE.gp (ri n) fun H2 g2 n2 e2=>?_;have r1:H2.get c1=some (.arr [.o (.str n),u] 97 0 0):=(e2 c1).trans r1;have r2:H2.get c2=some (.arr [.i .i64 0] 38 0 0):=(e2 c2).trans r2;rw[←n2] at l1 n1;have Y2:SlP H2 u us:=Q1.gr g2;have g2:Gr H H2:=g1.gr g2;clear g1 e2 n2 Q1;have bad:∀ (A:ab),slot A.tm 2=.one (.o (.ptr c2 0 0 1))→A.nt=55→A.dfr=[]→bE n us=10→∃ w H4,an E2 [.cell 2 38] (.ret,A,H2.mod c2 (.arr [.i .i64 10] 38 0 0))=.ok [(w,H4)]∧Gr H H4∧∀ _:List Nat,w=.one (.i .i64 (bE n us)):=fun A hs hn hd hv=>
  fin .ret A _ _ 10 (.inr rfl) (by rw[hd];rfl) (g2.mod _ (.inl (by omega))) hs (al rfl) hv.symm
 cases D7:nmB n with
 | false=>
  refine qS (qA ad (qA t1 B0)) ?_;refine hK _ _ ?_;clear hK K;refine qY ?_;refine qW (qA ad (qA t2 (qA B0 (qA eB (qA r2 n1))))) ?_;exact bad _ (by simp only[aa,Nat.reduceEqDiff,reduceIte,t2]) (by simp only[aw,B0]) (qd C0) (by unfold bE gq;rw[D7];rfl)
 | true=>
  cases hz:((us.length:Int)==0) with
  | true=>
   refine qS (qA ad (qA t1 (qA B0 (qA r1 (qA l1 (qA cF (qA cC (qA dP (qA Y2.len (qA Y2.lt hz)))))))))) ?_;refine hK _ _ ?_;clear hK K;refine qY ?_;refine qW (qA ad (qA t2 (qA B0 (qA eB (qA r2 n1))))) ?_;exact bad _ (by simp only[aa,Nat.reduceEqDiff,reduceIte,t2]) (by simp only[aw,B0]) (qd C0) (by unfold bE gq;rw[hz];simp only[Bool.not_true,Bool.and_false,Bool.false_and,Bool.false_eq_true,if_false])
  | false=>
   by_cases h12':(12:Int)<us.length
   ·have c12:((12:Int)<us.length)=True:=eq_true h12';refine qS (qA ad (qA t1 (qA B0 (qA r1 (qA l1 (qA cF (qA cC (qA dP (qA Y2.len (qA Y2.lt (qA hz c12))))))))))) ?_;refine hK _ _ ?_;clear hK K;refine qY ?_;refine qW (qA ad (qA t2 (qA B0 (qA eB (qA r2 n1))))) ?_;exact bad _ (by simp only[aa,Nat.reduceEqDiff,reduceIte,t2]) (by simp only[aw,B0]) (qd C0) (by unfold bE gq;rw[decide_eq_false (by omega:¬(us.length:Int)≤12)];simp only[Bool.and_false,Bool.false_and,Bool.false_eq_true,if_false])
   have c12:((12:Int)<us.length)=False:=eq_false h12';refine qS (qA ad (qA t1 (qA B0 (qA r1 (qA l1 (qA cF (qA cC (qA dP (qA Y2.len (qA Y2.lt (qA hz c12))))))))))) ?_;refine hK _ _ ?_;clear hK K;refine qE fun Kx Ky hx hy=>?_;refine hy ?_;clear hx hy Kx Ky bad;refine R1.aT ?_;repeat refine R1.aE ?_
   refine qG (qA ad (qA B0 (qA JZ Kf))) fun K hK=>?_;refine hK _ _ ?_;clear hK K;refine R1.gen (fun A3 H3=>Gr H H3∧H3.nx=H2.nx+2∧H3.get c1=some (.arr [.o (.str n),u] 97 0 0)∧H3.get c2=some (.arr [.i .i64 0] 38 0 0)∧H3.get H2.nx=some (ic (iv us 0))∧H3.get (H2.nx+1)=some (.arr [.o (.mp H2.nx)] 191 0 0) ∧
    slot A3.tm 1=.one (.o (.ptr c1 0 0 2))∧slot A3.tm 2=.one (.o (.ptr c2 0 0 1))∧slot A3.tm 3=.one (.o (.ptr (H2.nx+1) 0 0 1))∧A3.nt=55∧A3.dfr=[])
    ⟨((g2.new _).new _).mod _ (.inl (by have:=g2.nx;omega)),rfl,?_,?_,?_,?_,?_⟩ ?_
   ·rw[aI (by omega),aW (by rw[td];omega),aW l1];exact r1
   ·rw[aI (by omega),aW (by rw[td];omega),aW n1];exact r2
   ·rw[aI (by omega),aW (by rw[td];omega),aB rfl];rfl
   ·exact al rfl
   ·simp only[qB,Nat.reduceLT,t1,t2,B0,C0,and_self]
   rintro A H3 ⟨g3,n3,q1,q2,qm,q3,t1,t2,t3,B0,C0⟩;have m6:SlP H3 u us:=hu.gr g3;obtain ⟨m,hm⟩:∃ m,m=H2.nx:=⟨_,rfl⟩;obtain ⟨c3,q9⟩:∃ c,c=H2.nx+1:=⟨_,rfl⟩;rw[←q9] at q3 t3;rw[←hm] at qm q3;have o1:c2<m:=by omega
   have o2:m<c3:=by omega
   have o3:c3<H3.nx:=by omega
   clear hm q9 n3 r1 r2 Y2 l1 n1;have l1:c1<H3.nx:=by omega
   repeat refine R1.aE ?_
   refine qG (qA ad (qA t1 (qA B0 (qA q1 (qA l1 (qA ca Iw)))))) fun K hK=>?_;refine WE.con (zF H3 (.o (.str n)) u m6.lt) fun v H5 g5 ⟨hv,D_,hln⟩=>?_;subst hv;refine qS (qA ad B0) ?_;refine hK _ _ ?_;clear hK K;refine R1.Ep (fun A4=>slot A4.tm 1=.one (.o (.ptr c1 0 0 2))∧slot A4.tm 2=.one (.o (.ptr c2 0 0 1))∧slot A4.tm 3=.one (.o (.ptr c3 0 0 1))∧slot A4.tm 23=.one (.o (.clo 170 [(H3.nx,0,0,2)]))∧A4.nt=55∧A4.dfr=[])
    ⟨by simp only[aa,Nat.reduceEqDiff,reduceIte,t1],by simp only[aa,Nat.reduceEqDiff,reduceIte,t2],by simp only[aa,Nat.reduceEqDiff,reduceIte,t3],by simp only[aa,Nat.reduceEqDiff,reduceIte],by simp only[aw,B0],by simp only[aj,C0]⟩ ?_
   clear t1 t2 t3 B0 C0 A;rintro A ⟨t1,t2,t3,t23,B0,C0⟩;have gg:Gr H H5:=g3.gr g5;have q1:H5.get c1=some (.arr [.o (.str n),u] 97 0 0):=by rw[g5.get _ l1 zB2];exact q1
   have q2:H5.get c2=some (.arr [.i .i64 0] 38 0 0):=by rw[g5.get _ (by omega) zB2];exact q2
   have q3:H5.get c3=some (.arr [.o (.mp m)] 191 0 0):=by rw[g5.get _ o3 zB2];exact q3
   have qm:H5.get m=some (ic (iv us 0)):=by rw[g5.get _ (by omega) zB2];exact qm
   have T9:SlP H5 u us:=m6.gr g5;have o4:c3<H5.nx:=zA0 o3 g5.nx;have l3:c1<H3.nx:=l1;obtain ⟨il,T_⟩:∃ i,i=H3.nx:=⟨_,rfl⟩;rw[←T_] at D_ hln t23 o3 l3;clear T_ l1;generalize W8:yv 1 us=ys;have hyl:ys.length≤us.length:=by rw[←W8];exact BL 1 us
   have husL:us.length≤12:=by omega
   refine R1.aG fun K k1 k2 k3 k4=>?_;refine R1.range (σ:=Unit) (g:=170) (caps:=[(il,0,0,2)]) (n:=ys.length) (ar:=yA ys) (D:=DL il u) (by simp only[NP,t23]) Be (fun _=>rfl)
    (xX H5 il (.o (.str n)) u us hln D_ T9 (by omega) ys W8) (fun k hk=>by
     rcases hk with h|h
     ·omega
     exact Nat.lt_trans (N5 k h) (by omega)) (by rw[B0];rfl) (fun i _=>TK ys i)
    (fun i _ H6=>H6.get m=some (ic (iv us i))∧H6.get c3=some (.arr [.o (.mp m)] 191 0 0)∧H6.get c2=some (.arr [.i .i64 0] 38 0 0)∧(∀ j,j<i→okU us j (us.getD j ([],0))=true)∧H5.nx≤H6.nx)
    (fun e _ H6=>e=.ret∧H6.get c2=some (.arr [.i .i64 10] 38 0 0)∧gq n us=false∧H5.nx≤H6.nx)
    (fun _ k=>k=m∨k=c2) ?_ ?_ ?_ () ?_ ?_ ?_ ?_
   ·rintro i s H6 H7 ⟨a1,a2,a3,a4,a5⟩ hs;exact ⟨by rw[hs.get _ (by omega) (by omega)];exact a1,by rw[hs.get _ (by omega) (by omega)];exact a2,by rw[hs.get _ (by omega) (by omega)];exact a3,a4,zA2 a5 hs.nx⟩
   ·rintro e s H6 H7 ⟨a1,a2,a3,a5⟩ hs;exact ⟨a1,by rw[hs.get _ (by omega) (by omega)];exact a2,a3,zA2 a5 hs.nx⟩
   ·rintro i s H6 k ⟨a1,a2,a3,a4,a5⟩ hk;have:k<H5.nx∧c1<k∧k<il:=by rcases hk with rfl|rfl <;> omega
    refine ⟨by omega,by omega,by omega,fun h=>?_⟩;rcases h with h|h
    ·omega
    have:=N5 k h;omega
   ·intro H6 g6 n6;exact ⟨by rw[g6.get _ (by omega) zB2];exact qm,by rw[g6.get _ o4 zB2];exact q3,by rw[g6.get _ (by omega) zB2];exact q2,fun j hj=>absurd hj (Nat.not_lt_zero j),g6.nx⟩
   ·rintro i _ H6 hi ⟨a1,a2,a3,a4,a5⟩ n6;have hy:ys[i]?=some ys[i]:=zB4 hi;generalize ys[i]=y at hy;have X8:us[i]?=some y.1:=Sa 1 us i y (by rw[W8];exact hy);rw[Re hy];obtain ⟨x,yval⟩:=y;have X8:us[i]?=some x:=X8;refine R1.Ep (fun A7=>slot A7.tm 1=.one (.o (.ptr c1 0 0 2))∧slot A7.tm 2=.one (.o (.ptr c2 0 0 1))∧slot A7.tm 3=.one (.o (.ptr c3 0 0 1))∧slot A7.tm 24=.agg (prC x)∧A7.nt=55∧A7.dfr=[]) ⟨?_,?_,?_,?_,B0,rfl⟩ ?_
    ·show slot ((A.tm.set 24 _).set 25 _) 1=_;simp only[fU,Nat.reduceEqDiff,reduceIte,t1]
    ·show slot ((A.tm.set 24 _).set 25 _) 2=_;simp only[fU,Nat.reduceEqDiff,reduceIte,t2]
    ·show slot ((A.tm.set 24 _).set 25 _) 3=_;simp only[fU,Nat.reduceEqDiff,reduceIte,t3]
    ·show slot ((A.tm.set 24 _).set 25 _) 24=_;simp only[fU,Nat.reduceEqDiff,reduceIte]
    rintro A7 ⟨u1,u2,u3,u24,unt,udf⟩;refine qG (qA ad (qA u24 (qA unt (qA lA (qA nD eK))))) fun K hK=>?_;refine hK _ _ ?_;clear hK K;refine ⟨rfl,((Fr.refl _).new _).mod _ (.inl (zA1 _)),fun H8 n8 s8=>?_⟩;have gu:H8.get H6.nx=some (.arr (prC x) 165 0 0):=by
     rw[s8.get _ (by show H6.nx<H6.nx+1;omega) (by omega)];exact al rfl
    have keep:∀ k,k<H5.nx→H8.get k=H6.get k:=fun k hk=>by
     rw[s8.get _ (by show k<H6.nx+1;omega) (by omega),aI (by omega),aW (by omega)]
    have n8':H8.nx=H6.nx+1:=n8;have b1:H8.get m=some (ic (iv us i)):=(keep m (by omega)).trans a1;have b3:H8.get c3=some (.arr [.o (.mp m)] 191 0 0):=(keep c3 o4).trans a2;have b2:H8.get c2=some (.arr [.i .i64 0] 38 0 0):=(keep c2 (by omega)).trans a3;have lu:H6.nx<H8.nx:=by omega
    clear keep n8 n8' s8 a1 a2 a3;refine R1.qu fun K2 p1 p2 p3 p4=>?_;repeat refine R1.aE ?_
    refine qG (qA ad (qA unt (qA gu (qA lu (qA bQ (qA aO (qA eK fM))))))) fun K hK=>?_;refine WE.gp (ri x.1) fun H9 g9 n9 e9=>?_;have gu:H9.get H6.nx=some (.arr (prC x) 165 0 0):=(e9 _).trans gu;have b1:H9.get m=some (ic (iv us i)):=(e9 m).trans b1;have b3:H9.get c3=some (.arr [.o (.mp m)] 191 0 0):=(e9 c3).trans b3;have b2:H9.get c2=some (.arr [.i .i64 0] 38 0 0):=(e9 c2).trans b2;rw[←n9] at lu;have n59:H5.nx≤H9.nx:=by omega
    have lc2:c2<H9.nx:=by omega
    have lc3:c3<H9.nx:=by omega
    have lm:m<H9.nx:=by omega
    have bad:∀ (e:aA) (A2:ab),e=.ret→A2.dfr=[]→okU us i x=false→A2.dfr=[]∧Fr (fun k=>(k=m∨k=c2)∨H6.nx≤k) H8 (H9.mod c2 (.arr [.i .i64 10] 38 0 0))∧∃ s':Unit,
      (e=aA.normal→(H9.mod c2 (.arr [.i .i64 10] 38 0 0)).get m=some (ic (iv us (i+1)))∧(H9.mod c2 (.arr [.i .i64 10] 38 0 0)).get c3=some (.arr [.o (.mp m)] 191 0 0)∧(H9.mod c2 (.arr [.i .i64 10] 38 0 0)).get c2=some (.arr [.i .i64 0] 38 0 0)∧(∀ (j:Nat),j<i+1→okU us j (us.getD j ([],0))=true)∧H5.nx≤(H9.mod c2 (.arr [.i .i64 10] 38 0 0)).nx) ∧
      (e≠aA.normal→e=aA.ret∧(H9.mod c2 (.arr [.i .i64 10] 38 0 0)).get c2=some (.arr [.i .i64 10] 38 0 0)∧gq n us=false∧H5.nx≤(H9.mod c2 (.arr [.i .i64 10] 38 0 0)).nx) ∧
      ∀ (k:Nat),k=m∨k=c2→(k=m∨k=c2)∨H6.nx≤k:=fun e A2 he hd hb=>
     ⟨hd,(g9.none).mod _ (.inr (.inl (.inr rfl))),(),fun h=>(by rw[he] at h;cases h),fun _=>⟨he,al rfl,Sr X8 hb,n59⟩,fun k hk=>.inl hk⟩
    cases hq:nmB x.1 with
    | false=>
     refine qS (qA ad unt) ?_;refine hK _ _ ?_;clear hK K;refine qY ?_;refine qW (qA ad (qA u2 (qA unt (qA eB (qA b2 lc2))))) ?_;exact p4 _ _ (bad _ _ rfl (by simp only[aj,udf]) (by unfold okU;rw[hq];rfl))
    | true=>
     cases I7:((us.take i).any fun y=>y.1==x.1) with
     | true=>
      simp only[qB,aC,Nat.reduceLT,Nat.reduceLeDiff,Nat.reduceAdd,Nat.reduceSub,ad,u3,unt,b3,lc3,gu,lu,sC,xd,MT,yK b1,lm,bQ,aO,prC,I7];refine hK _ _ ?_;clear hK K;refine qY ?_;refine qW (qA ad (qA u2 (qA unt (qA eB (qA b2 lc2))))) ?_;exact p4 _ _ (bad _ _ rfl (by simp only[aj,udf]) (by unfold okU;rw[I7,Bool.not_true,Bool.and_false,Bool.false_and]))
     | false=>
      have hlm:cQ H9 2 (.one (.o (.mp m)))=.val (.one (.i .i64 (i:Int))) H9:=by
       rw[Rw b1,xT (by have:=BL 1 us;rw[W8] at this;omega)]
      simp only[qB,aC,Nat.reduceLT,Nat.reduceLeDiff,Nat.reduceAdd,Nat.reduceSub,ad,u3,unt,b3,lc3,gu,lu,sC,xd,MT,yK b1,lm,bQ,cx,aO,bV,prC,I7,Bx,hlm,IX UR];refine hK _ _ ?_;clear hK K;refine qE fun Kx Ky hx hy=>?_;refine cY (fun hd=>hx ?_) (fun hd=>hy ?_)
      ·clear hx hy Kx Ky;refine qW (qA ad (qA u2 (qA unt (qA eB (qA b2 lc2))))) ?_;exact p4 _ _ (bad _ _ rfl (by simp only[aj,udf]) (by unfold okU;rw[hq,I7];simpa using hd))
      clear hx hy Kx Ky bad;have B3:okU us i x=true:=by unfold okU;rw[hq,I7];simpa using hd
      refine R1.aT ?_;refine R1.GR fun K hK=>?_;simp only[qB,aC,Nat.reduceLT,Nat.reduceLeDiff,Nat.reduceAdd,Nat.reduceSub,ad,u3,unt,b3,lc3,gu,lu,sC,xd,bQ,aO,prC,lm,Ud b1 X8 I7];refine hK _ _ ?_;clear hK K;refine p1 _ _ ⟨by simp only[aj,udf],(g9.none).mod _ (.inr (.inl (.inl rfl))),(),fun _=>⟨al rfl,?_,?_,fun j hj=>?_,n59⟩,fun h=>absurd rfl h,fun k hk=>.inl hk⟩
      ·rw[aI (by omega)];exact b3
      ·rw[aI (by omega)];exact b2
      rcases Nat.lt_or_ge j i with h|h
      ·exact a4 j h
      have:j=i:=by omega
      subst this;rw[List.getD_eq_getElem?_getD,X8];exact B3
   ·rintro s' H6 ⟨a1,a2,a3,a4,a5⟩ n6 hd6 G7 T8;have g6:Gr H H6:=gg.then G7 fun k hk=>.inl (by rcases hk with rfl|rfl <;> omega);have q1:H6.get c1=some (.arr [.o (.str n),u] 97 0 0):=by rw[G7.get _ (by omega) (fun h=>by rcases h with h|h <;> omega)];exact q1
    have hu6:SlP H6 u us:=hu.gr g6;have hlm:cQ H6 2 (.one (.o (.mp m)))=.val (.one (.i .i64 (ys.length:Int))) H6:=by
     rw[Rw a1,xT hyl]
    have lc1:c1<H6.nx:=by omega
    have lc2:c2<H6.nx:=by omega
    have lc3:c3<H6.nx:=by omega
    have lm:m<H6.nx:=by omega
    refine k1 _ _ ?_;refine R1.Ep (fun A7=>slot A7.tm 1=.one (.o (.ptr c1 0 0 2))∧slot A7.tm 2=.one (.o (.ptr c2 0 0 1))∧slot A7.tm 3=.one (.o (.ptr c3 0 0 1))∧A7.nt=55∧A7.dfr=[H5.nx]) ⟨t1,t2,t3,B0,by show H5.nx::A.dfr=_;rw[C0]⟩ ?_;rintro A7 ⟨u1,u2,u3,unt,udf⟩;refine qG (qA ad (qA u1 (qA u3 (qA unt (qA a2 (qA lc3 (qA lc1 (qA lm (qA q1 (qA cF (qA cC (qA dP (qA sC (qA Bx (qA hlm (qA hu6.len (qA hu6.lt MH))))))))))))))))) fun K hK=>?_;refine WE.con (HP H6 _ 10) fun v H7 g7 hv=>?_;subst hv;have b2:H7.get c2=some (.arr [.i .i64 0] 38 0 0):=by rw[g7.get _ lc2 zB2];exact a3
    have lc2:c2<H7.nx:=zA0 lc2 g7.nx;have hd7:H7.get H5.nx=some (.oth (.dfr true)):=by rw[g7.get _ (by omega) zB2];exact hd6
    have g67:Gr H H7:=g6.gr g7;refine qS (qA ad (qA u2 (qA unt (qA eB (qA b2 lc2))))) ?_;refine hK _ _ ?_;clear hK K;refine qV ?_;refine fin .ret _ _ _ _ (.inr rfl) (by simp only[aj,udf];exact iF (by rw[aI (by omega)];exact hd7)) ((g67.mod _ (.inl (by omega))).mod _ (.inl (by have:=gg.nx;omega))) (by simp only[aa,Nat.reduceEqDiff,reduceIte,u2]) (by rw[aI (by omega)];exact al rfl) ?_;unfold bE;by_cases hlen:(ys.length:Int)=us.length
    ·have T1:gq n us=true:=by
      unfold gq;rw[D7,hz,W8,decide_eq_true (by omega:(us.length:Int)≤12),decide_eq_true (by omega:ys.length=us.length)];simp only[Bool.not_false,Bool.true_and,List.all_eq_true];intro j hj;exact a4 j (by have:=List.mem_range.1 hj;omega)
     rw[T1,hlen,beq_self_eq_true]
    have T1:gq n us=false:=by
     unfold gq;rw[W8,decide_eq_false (by omega:¬ys.length=us.length),Bool.and_false,Bool.false_and]
    rw[T1,zB5 hlen]
   rintro e s' H6 Z0 ⟨rfl,a2,a3,a5⟩ n6 hd6 G7 T8;have g6:Gr H H6:=gg.then G7 fun k hk=>.inl (by rcases hk with rfl|rfl <;> omega);refine k4 _ _ (fin .ret _ _ _ 10 (.inr rfl) (by show closeAll H6 (H5.nx::A.dfr)=_;rw[C0];exact iF hd6) (g6.mod _ (.inl (by have:=gg.nx;omega))) t2 (by rw[aI (by omega)];exact a2) ?_);unfold bE;rw[a3];rfl
theorem Bd:ak Tryz.prog 68=true:=by kernel_rfl
theorem eF {E:Env} {s:Tmp} {t:TypeId} {n:Nat} {A:ab} {H H2:Hp} {e:aA} {id g lim:Nat} {cells:List AC} (ht:loadT E.P t=some (true,n)) (he:e=.normal∨e=.ret) (hd:closeAll H A.dfr=some H2) (hs:slot A.tm s=.one (.o (.ptr id g 0 lim)))
  (hg:rowOf (H2.get id) g=some cells) (hl:n≤lim) (ho:cells.length=n):an E [.cell s t] (e,A,H)=.ok [(.agg cells,H2)]:=by
 have key:(az (closeAll H A.dfr) (R.bad "marks") fun h2=>az (bk E.P [.cell s t] A.tm h2) (.bad "results") fun l=>.ok [(du l,h2)])=.ok [(.agg cells,H2)]:=by
  rw[hd];have e1:iY E.P (.cell s t) A.tm H2=some (true,cells):=by
   have e0:iY E.P (.cell s t)=match loadT E.P t with
     | some p=>fun tm h=>az (tm.get s) none fun v=>ae.rec (motive:=fun _=>Option (Bool×List AC)) (fun v _=>fO v) (fun _=>none) (fun _ _=>none) (fun _ _=>none) (fun _=>none) (cd h p.1 p.2 v)
     | none=>fun _ _=>none:=rfl
   rw[e0,ht];show az (A.tm.get s) none (fun v=>ae.rec (motive:=fun _=>Option (Bool×List AC)) (fun v _=>fO v) (fun _=>none) (fun _ _=>none) (fun _ _=>none) (fun _=>none) (cd H2 true n v))=_;rw[tJ hs];show ae.rec (motive:=fun _=>Option (Bool×List AC)) (fun v _=>fO v) (fun _=>none) (fun _ _=>none) (fun _ _=>none) (fun _=>none) (cd H2 true n (.one (.o (.ptr id g 0 lim))))=_;rw[fE,hg,qx hl (by omega),List.drop_zero,List.take_of_length_le (by omega)];rfl
  have hr:bk E.P [.cell s t] A.tm H2=some [(true,cells)]:=by
   show az (iY E.P (.cell s t) A.tm H2) none (fun x=>az (some []) none fun l=>some (x::l))=_;rw[e1];rfl
  show az (bk E.P [.cell s t] A.tm H2) (R.bad "results") (fun l=>R.ok [(du l,H2)])=_
  rw[hr];rfl
 rcases he with rfl|rfl
 ·exact key
 exact key
theorem wL (H:Hp) (n:List UInt8) (u:AC) (us:List Pr) (hu:SlP H u us) (hL:us.length≤1000000):
  Con E2 68 [.agg [.o (.str n),u]] H (fun _=>False) fun r H'=>∃ u',r=.agg [.o (.str n),u']∧SlP H' u' us∧∀ id∈(AV.one u').ids,H.nx≤id:=by
 refine Con.of rfl fun lg=>?_;have hu:SlP ⟨H.t,H.nx,lg⟩ u us:=hu;have e0:H.nx=(⟨H.t,H.nx,lg⟩:Hp).nx:=rfl;rw[e0];clear e0;generalize (⟨H.t,H.nx,lg⟩:Hp)=H at hu ⊢;refine C1.body (E:=E2) (nt:=9) (res:=[.cell 2 97]) Tryz.func68 rfl rfl rfl rfl rfl fun tm A0=>?_;have h0:=A0 0 _ rfl;clear A0;refine qG (qA ad (qA h0 dX)) fun K hK=>?_;refine hK _ _ ?_;clear hK K;refine R1.gen (fun A1 H1=>Gr H H1∧H.nx+1<H1.nx∧H1.get H.nx=some (.arr [.o (.str n),u] 97 0 0)∧H1.get (H.nx+1)=some (.arr [.o (.str []),.o .nilS] 97 0 0)∧slot A1.tm 1=.one (.o (.ptr H.nx 0 0 2))∧slot A1.tm 2=.one (.o (.ptr (H.nx+1) 0 0 2))∧A1.nt=9∧A1.dfr=[])
  ⟨((Fr.refl _).new _).new _,?_⟩ ?_
 ·exact qU
 rintro A1 H1 ⟨g1,n1,r1,r2,t1,t2,B0,C0⟩;clear h0 tm;have Q1:SlP H1 u us:=hu.gr g1;have l1:H.nx<H1.nx:=by omega
 have hlu:∀ id∈(AV.one u).ids,id<H1.nx:=Q1.lt;obtain ⟨z,hz,X0⟩:=Mq;repeat refine R1.aE ?_
 (first|refine R1.ED (ms:=[0,1,0,4,12,31,63]) (by kernel_rfl) (by kernel_rfl) fun K hK=>?_|refine R1.e_drw (ms:=[0,1,0,4,12,31,63]) (by kernel_rfl) (by kernel_rfl) fun K hK=>?_)
 simp (config:={decide:=true}) only [qB,aC,Nat.reduceLT,Nat.reduceLeDiff,Nat.reduceAdd,Nat.reduceSub,qD,cP,bB,ad,t1,B0,r1,l1,fq,cF,aO,cC]
 refine BN gW Lk hz X0 (by decide) Q1 (by omega) (fun id h=>by have:=hlu id h;simp (config:={decide:=true}) [bB,cP] <;> omega) fun v c1 H2 hv hvn g2 hc=>?_;subst hc;have r2:H2.get (H.nx+1)=some (.arr [.o (.str []),.o .nilS] 97 0 0):=by rw[g2.get _ n1 zB2];exact r2
 have n2:H.nx+1<H2.nx:=zA0 n1 g2.nx;simp (config:={decide:=true}) only [qB,Nat.reduceLeDiff,Nat.reduceAdd,qD,cP,ee,bB,t2,B0,MR dX px,qI,rz,fW,r2,n2]
 refine hK _ _ ?_;clear hK K;refine qV ?_;have G5:SlP (H2.mod (H.nx+1) (.arr [.o (.str n),v] 97 0 0)) v us:=SlC.fr hv (X:=fun k=>k=H.nx+1) ((Fr.refl _).mod _ (.inr rfl)) fun id h hh=>by have:=hvn id h;omega
 exact ⟨_,_,eF (id:=H.nx+1) (g:=0) ca (.inr rfl) (by simp only[aj,C0];rfl) (by simp only[aa,Nat.reduceEqDiff,reduceIte,t2]) (by rw[al rfl];exact bF (zA1 _) (zA1 _)) (zA1 _) rfl,(g1.gr g2).mod _ (.inl (Nat.le_succ _)),fun _=>⟨v,rfl,G5,fun id h=>by have:=hvn id h;omega⟩⟩
abbrev Lad:=List UInt8×List Pr
def Qs (H:Hp) (c:List AC) (x:Lad):Prop:=∃ u,c=[.o (.str x.1),u]∧SlP H u x.2
theorem Qs.gr {H H':Hp} {c:List AC} {x:Lad} (h:Qs H c x) (hg:Gr H H'):Qs H' c x:=let ⟨u,h1,h2⟩:=h;⟨u,h1,h2.gr hg⟩
def fL (H:Hp) (v:AC) (ls:List Lad):Prop:=SlR Qs 2 H v ls
theorem fL.gr {H H':Hp} {v:AC} {ls:List Lad} (h:fL H v ls) (hg:Gr H H'):fL H' v ls:=SlR.dY h hg.nx (fun i hi=>hg.get i hi zB2) fun _ _ h=>h.gr hg
theorem fL.len {H:Hp} {v:AC} {l:List Lad} (h:fL H v l):cQ H 1 (.one v)=.val (.one (.i .i64 (l.length:Int))) H:=SlR.len h
theorem fL.lt {H:Hp} {v:AC} {l:List Lad} (h:fL H v l):ltV (.one v) H.nx:=SlR.lt h
theorem fL.open {H:Hp} {v:AC} {l:List Lad} (h:fL H v l) (hn:0<l.length):∃ id g off cells,v=.o (.sl id g off l.length 2)∧id<H.nx∧rowOf (H.get id) g=some cells ∧
  ∀ (i:Nat) (x:Lad),l[i]?=some x→∃ u,SlP H u x.2∧(cells.drop (off+i*2)).take 2=[.o (.str x.1),u]∧off+i*2+2≤cells.length∧off+i*2+1≤cells.length∧off+i*2+1+1≤cells.length ∧
   (cells.drop (off+i*2)).headD (.b false)=.o (.str x.1)∧(cells.drop (off+i*2+1)).headD (.b false)=u:=by
 obtain ⟨id,g,off,cells,e1,hid,hg,L0⟩:=SlR.open h hn;refine ⟨id,g,off,cells,e1,hid,hg,fun i x hx=>?_⟩;obtain ⟨hle,c,hc,W0,u,rfl,hu⟩:=L0 i x hx;refine ⟨u,hu,hc,hle,by omega,by omega,?_,?_⟩
 ·cases hd:cells.drop (off+i*2) with
  | nil=>rw[hd] at hc;cases hc
  | cons a r=>
   rw[hd] at hc;cases r with
   | nil=>cases hc
   | cons b r=>cases hc;rfl
 rw[←List.drop_drop];cases hd:cells.drop (off+i*2) with
 | nil=>rw[hd] at hc;cases hc
 | cons a r=>
  rw[hd] at hc;cases r with
  | nil=>cases hc
  | cons b r=>cases hc;rfl
def plN:Nat→List Lad→List (List UInt8×AC)
 | _,[]=>[]
 | n,x::ls=>(x.1,.i .i64 (n:Int))::plN (n+1) ls
def gV:Nat→List Lad→List UInt8→Option Nat
 | _,[],_=>none
 | n,x::ls,s=>if x.1=s then some n else gV (n+1) ls s
theorem JK:∀ (n:Nat) (ls:List Lad) (s:List UInt8),atK (plN n ls) s=(gV n ls s).map fun i=>.i .i64 (i:Int)
 | _,[],_=>rfl
 | n,x::ls,s=>by
  show (if x.1=s then some (AC.i .i64 (n:Int)) else atK (plN (n+1) ls) s)=Option.map _ (if x.1=s then some n else gV (n+1) ls s);by_cases h:x.1=s
  ·rw[zB0 h,zB0 h];rfl
  rw[zB1 h,zB1 h];exact JK (n+1) ls s
theorem NF:∀ (n:Nat) (ls:List Lad) (x:Lad),plN n (ls++[x])=plN n ls++[(x.1,.i .i64 ((n+ls.length:Nat):Int))]
 | n,[],x=>rfl
 | n,y::ls,x=>by
  show _::plN (n+1) (ls++[x])=_::(plN (n+1) ls++_);rw[NF (n+1) ls x];have:n+1+ls.length=n+(y::ls).length:=by rw[List.length_cons];omega
  rw[this]
theorem NN {H:Hp} {m:Nat} {ls:List Lad} {s:List UInt8} (hg:H.get m=some (ic (plN 0 ls))):
  bw Tryz.prog H 9 (.one (.i .i64 0)) (.one (.o (.mp m))) (.one (.o (.str s))) true=.val (.tup [(false,[.i .i64 (((gV 0 ls s).getD 0:Nat):Int)]),(false,[.b (gV 0 ls s).isSome])]) H:=by
 rw[vu wV hg,JK];cases gV 0 ls s <;> rfl
theorem MO:∀ (n:Nat) (ls:List Lad) (s:List UInt8) (i:Nat),gV n ls s=some i→n≤i∧i<n+ls.length∧∃ x,ls[i - n]?=some x∧x.1=s
 | _,[],_,_,h=>by cases h
 | n,x::ls,s,i,h=>by
  unfold gV at h;by_cases hx:x.1=s
  ·rw[zB0 hx] at h;cases h
   refine ⟨zA1 _,by rw[List.length_cons];omega,x,by rw[Nat.sub_self];rfl,hx⟩
  rw[zB1 hx] at h;obtain ⟨h1,h2,y,h3,h4⟩:=MO (n+1) ls s i h;refine ⟨by omega,by rw[List.length_cons];omega,y,?_,h4⟩;have:i - n=(i - (n+1))+1:=by omega
  rw[this,List.getElem?_cons_succ];exact h3
def qz:List Lad→List Lad→Int
 | _,[]=>0
 | acc,x::ls=>if bE x.1 x.2≠0 then bE x.1 x.2 else if (gV 0 acc x.1).isSome=true then 2 else qz (acc++[x]) ls
def nj (ls:List Lad):Int:=if (32:Int)<ls.length then 3 else qz [] ls
def oy (H:Hp) (p:AC) (ls:List Lad):Prop:=
 ∃ kb m lad gr fc,p=.o (.ptr kb 0 0 4)∧kb<H.nx∧m<H.nx∧H.get kb=some (.arr [lad,.o (.mp m),gr,fc] 132 0 0)∧H.get m=some (ic (plN 0 ls))∧fL H lad ls
theorem oy.gr {H H':Hp} {p:AC} {ls:List Lad} (h:oy H p ls) (hg:Gr H H'):oy H' p ls:=by
 obtain ⟨kb,m,lad,gr,fc,h1,h2,h3,h4,h5,h6⟩:=h;exact ⟨kb,m,lad,gr,fc,h1,zA0 h2 hg.nx,zA0 h3 hg.nx,by rw[hg.get _ h2 zB2];exact h4,by rw[hg.get _ h3 zB2];exact h5,h6.gr hg⟩
theorem JB:ak Tryz.prog 28=true:=by kernel_rfl
structure NB (n0 kb m:Nat) (lm ll:List Lad) (k2 k3:Nat) (H1:Hp) (lad gr fc:AC) (r1 r2 r3:Option Nat):Prop where
 kbg:H1.get kb=some (.arr [lad,.o (.mp m),gr,fc] 132 0 0)
 mg:H1.get m=some (ic (plN 0 lm))
 o1:∃ css:List (List AC),dm H1 lad 97 2 ll.length (css.flatMap id) r1∧Al (fun c x=>c.length=2∧∃ u,c=[.o (.str x.1),u]∧SlP H1 u x.2∧∀ id∈(AV.one u).ids,id≠kb∧id≠m∧some id≠r1∧some id≠r2∧some id≠r3) css ll
 o2:∃ cg,dm H1 gr 3 1 k2 cg r2
 o3:∃ cf,dm H1 fc 138 2 k3 cf r3
 kn:n0≤kb∧kb<H1.nx
 mn:n0≤m∧m<H1.nx
 km:kb≠m
 n1:∀ q,r1=some q→n0≤q∧q<H1.nx∧q≠kb∧q≠m∧r2≠some q∧r3≠some q
 n2:∀ q,r2=some q→n0≤q∧q<H1.nx∧q≠kb∧q≠m∧r3≠some q
 n3:∀ q,r3=some q→n0≤q∧q<H1.nx∧q≠kb∧q≠m
section
variable {n0 kb m k2 k3:Nat} {lm ll:List Lad} {H1 H2:Hp} {lad gr fc:AC} {r1 r2 r3:Option Nat}
theorem NB.Kd (h:NB n0 kb m lm ll k2 k3 H1 lad gr fc r1 r2 r3) (hg:Gr H1 H2):NB n0 kb m lm ll k2 k3 H2 lad gr fc r1 r2 r3 where
 kbg:=by rw[hg.get _ h.kn.2 zB2];exact h.kbg
 mg:=by rw[hg.get _ h.mn.2 zB2];exact h.mg
 o1:=let ⟨css,a,b⟩:=h.o1;⟨css,a.fr hg fun _ _ h=>h,b.mono fun c x ⟨hc,u,e,hu,hi⟩=>⟨hc,u,e,hu.gr hg,hi⟩⟩
 o2:=let ⟨c,a⟩:=h.o2;⟨c,a.fr hg fun _ _ h=>h⟩
 o3:=let ⟨c,a⟩:=h.o3;⟨c,a.fr hg fun _ _ h=>h⟩
 kn:=⟨h.kn.1,zA0 h.kn.2 hg.nx⟩
 mn:=⟨h.mn.1,zA0 h.mn.2 hg.nx⟩
 km:=h.km
 n1:=fun q hq=>let ⟨a,b,c⟩:=h.n1 q hq;⟨a,zA0 b hg.nx,c⟩
 n2:=fun q hq=>let ⟨a,b,c⟩:=h.n2 q hq;⟨a,zA0 b hg.nx,c⟩
 n3:=fun q hq=>let ⟨a,b,c⟩:=h.n3 q hq;⟨a,zA0 b hg.nx,c⟩
theorem dC {H:Hp} {k:Nat} {o:aN}:Fr (fun i=>i=k) H (H.mod k o):=(Fr.refl _).mod _ (.inr rfl)
theorem NB.addM (h:NB n0 kb m lm ll k2 k3 H1 lad gr fc r1 r2 r3) (lm':List Lad):NB n0 kb m lm' ll k2 k3 (H1.mod m (ic (plN 0 lm'))) lad gr fc r1 r2 r3 where
 kbg:=by rw[aI h.km];exact h.kbg
 mg:=al rfl
 o1:=let ⟨css,a,b⟩:=h.o1;⟨css,a.fr dC fun i hi e=>(h.n1 i hi).2.2.2.1 e,b.mono fun c x ⟨hc,u,e,hu,hi⟩=>⟨hc,u,e,SlC.fr hu dC fun i W9 e=>(hi i W9).2.1 e,hi⟩⟩
 o2:=let ⟨c,a⟩:=h.o2;⟨c,a.fr dC fun i hi e=>(h.n2 i hi).2.2.2.1 e⟩
 o3:=let ⟨c,a⟩:=h.o3;⟨c,a.fr dC fun i hi e=>(h.n3 i hi).2.2.2 e⟩
 kn:=h.kn
 mn:=h.mn
 km:=h.km
 n1:=h.n1
 n2:=h.n2
 n3:=h.n3
theorem NB.Xh (h:NB n0 kb m lm ll k2 k3 H1 lad gr fc r1 r2 r3) {x:Lad} {u v5:AC} {r5:Nat} {H5:Hp} (hu:SlP H1 u x.2) (hi:∀ id∈(AV.one u).ids,id≠kb∧id≠m∧some id≠r1∧some id≠r2∧some id≠r3)
  {css:List (List AC)} (v8:Al (fun c x=>c.length=2∧∃ u,c=[.o (.str x.1),u]∧SlP H1 u x.2∧∀ id∈(AV.one u).ids,id≠kb∧id≠m∧some id≠r1∧some id≠r2∧some id≠r3) css ll)
  (ho:dm H5 v5 97 2 (ll.length+1) (css.flatMap id++[.o (.str x.1),u]) (some r5)) (hf:Fr (fun i=>r1=some i) H1 H5) (hr:r1=some r5∨H1.nx≤r5):
  NB n0 kb m lm (ll++[x]) k2 k3 (H5.mod kb (.arr [v5,.o (.mp m),gr,fc] 132 0 0)) v5 gr fc (some r5) r2 r3:=by
 have r5kb:r5≠kb:=by
  rcases hr with e|e
  ·exact (h.n1 _ e).2.2.1
  have:=h.kn.2;omega
 have r5m:r5≠m:=by
  rcases hr with e|e
  ·exact (h.n1 _ e).2.2.2.1
  have:=h.mn.2;omega
 have n0le:n0≤H1.nx:=zA2 h.kn.1 (Nat.le_of_lt h.kn.2);have lt5:r5<H5.nx:=by
  rcases ho with ⟨_,_,_,e⟩|⟨id,lo,gen,e,_,_,_,_,hl⟩
  ·cases e
  cases e;exact hl
 have keep:∀ {c:List AC} {x:Lad},(c.length=2∧∃ u,c=[.o (.str x.1),u]∧SlP H1 u x.2∧∀ id∈(AV.one u).ids,id≠kb∧id≠m∧some id≠r1∧some id≠r2∧some id≠r3) →
   c.length=2∧∃ u,c=[.o (.str x.1),u]∧SlP (H5.mod kb (.arr [v5,.o (.mp m),gr,fc] 132 0 0)) u x.2∧∀ id∈(AV.one u).ids,id≠kb∧id≠m∧some id≠some r5∧some id≠r2∧some id≠r3:=by
  rintro c x ⟨hc,u,e,hu,hi⟩;refine ⟨hc,u,e,SlC.fr (SlC.fr hu hf fun i h' e=>(hi i h').2.2.1 e.symm) dC fun i h' e=>(hi i h').1 e,fun i h'=>⟨(hi i h').1,(hi i h').2.1,fun e=>?_,(hi i h').2.2.2.1,(hi i h').2.2.2.2⟩⟩;cases e
  rcases hr with e|e
  ·exact (hi _ h').2.2.1 e.symm
  have:=hu.lt _ h';omega
 refine ⟨al rfl,?_,⟨css++[[.o (.str x.1),u]],?_,?_⟩,?_,?_,⟨h.kn.1,zA0 h.kn.2 hf.nx⟩,⟨h.mn.1,zA0 h.mn.2 hf.nx⟩,h.km,?_,?_,?_⟩
 ·rw[aI (fun e=>h.km e.symm),hf.get _ h.mn.2 fun e=>(h.n1 _ e).2.2.2.1 rfl];exact h.mg
 ·rw[List.length_append,List.length_singleton,List.flatMap_append];exact ho.fr dC fun i hi e=>by cases hi;exact r5kb e
 ·exact Al.app (v8.mono fun c x hc=>keep hc) (keep ⟨rfl,u,rfl,hu,hi⟩)
 ·obtain ⟨c,a⟩:=h.o2;exact ⟨c,(a.fr hf fun i hi e=>(h.n1 i e).2.2.2.2.1 hi).fr dC fun i hi e=>(h.n2 i hi).2.2.1 e⟩
 ·obtain ⟨c,a⟩:=h.o3;exact ⟨c,(a.fr hf fun i hi e=>(h.n1 i e).2.2.2.2.2 hi).fr dC fun i hi e=>(h.n3 i hi).2.2.1 e⟩
 ·intro q hq;cases hq
  refine ⟨?_,lt5,r5kb,r5m,fun e=>?_,fun e=>?_⟩
  ·rcases hr with e|e
   ·exact (h.n1 _ e).1
   omega
  ·rcases hr with e'|e'
   ·exact (h.n1 _ e').2.2.2.2.1 e
   have:=(h.n2 _ e).2.1;omega
  rcases hr with e'|e'
  ·exact (h.n1 _ e').2.2.2.2.2 e
  have:=(h.n3 _ e).2.1;omega
 ·intro q hq;obtain ⟨a,b,c⟩:=h.n2 q hq;exact ⟨a,zA0 b hf.nx,c⟩
 intro q hq;obtain ⟨a,b,c⟩:=h.n3 q hq;exact ⟨a,zA0 b hf.nx,c⟩
theorem NB.grp (h:NB n0 kb m lm ll k2 k3 H1 lad gr fc r1 r2 r3) {v5:AC} {r5:Nat} {H5:Hp} {c5:List AC} (ho:dm H5 v5 3 1 (k2+1) c5 (some r5)) (hf:Fr (fun i=>r2=some i) H1 H5) (hr:r2=some r5∨H1.nx≤r5):
  NB n0 kb m lm ll (k2+1) k3 (H5.mod kb (.arr [lad,.o (.mp m),v5,fc] 132 0 0)) lad v5 fc r1 (some r5) r3:=by
 have r5kb:r5≠kb:=by
  rcases hr with e|e
  ·exact (h.n2 _ e).2.2.1
  have:=h.kn.2;omega
 have r5m:r5≠m:=by
  rcases hr with e|e
  ·exact (h.n2 _ e).2.2.2.1
  have:=h.mn.2;omega
 have n0le:n0≤H1.nx:=zA2 h.kn.1 (Nat.le_of_lt h.kn.2);have lt5:r5<H5.nx:=by
  rcases ho with ⟨_,_,_,e⟩|⟨id,lo,gen,e,_,_,_,_,hl⟩
  ·cases e
  cases e;exact hl
 refine ⟨al rfl,?_,?_,⟨c5,?_⟩,?_,⟨h.kn.1,zA0 h.kn.2 hf.nx⟩,⟨h.mn.1,zA0 h.mn.2 hf.nx⟩,h.km,?_,?_,?_⟩
 ·rw[aI (fun e=>h.km e.symm),hf.get _ h.mn.2 fun e=>(h.n2 _ e).2.2.2.1 rfl];exact h.mg
 ·obtain ⟨css,a,b⟩:=h.o1;refine ⟨css,(a.fr hf fun i hi e=>(h.n1 i hi).2.2.2.2.1 e).fr dC fun i hi e=>(h.n1 i hi).2.2.1 e,b.mono fun c x ⟨hc,u,e,hu,hi⟩=>⟨hc,u,e,SlC.fr (SlC.fr hu hf fun i h' e=>(hi i h').2.2.2.1 e.symm) dC fun i h' e=>(hi i h').1 e,fun i h'=>⟨(hi i h').1,(hi i h').2.1,(hi i h').2.2.1,fun e=>?_,(hi i h').2.2.2.2⟩⟩⟩;cases e
  rcases hr with e|e
  ·exact (hi _ h').2.2.2.1 e.symm
  have:=hu.lt _ h';omega
 ·exact ho.fr dC fun i hi e=>by cases hi;exact r5kb e
 ·obtain ⟨c,a⟩:=h.o3;exact ⟨c,(a.fr hf fun i hi e=>(h.n2 i e).2.2.2.2 hi).fr dC fun i hi e=>(h.n3 i hi).2.2.1 e⟩
 ·intro q hq;obtain ⟨a,b,c,d,e,f⟩:=h.n1 q hq;refine ⟨a,zA0 b hf.nx,c,d,fun e'=>?_,f⟩;cases e'
  rcases hr with e'|e'
  ·exact e e'
  omega
 ·intro q hq;cases hq
  refine ⟨?_,lt5,r5kb,r5m,fun e=>?_⟩
  ·rcases hr with e|e
   ·exact (h.n2 _ e).1
   omega
  rcases hr with e'|e'
  ·exact (h.n2 _ e').2.2.2.2 e
  have:=(h.n3 _ e).2.1;omega
 intro q hq;obtain ⟨a,b,c⟩:=h.n3 q hq;exact ⟨a,zA0 b hf.nx,c⟩
theorem NB.fac (h:NB n0 kb m lm ll k2 k3 H1 lad gr fc r1 r2 r3) {v5:AC} {r5:Nat} {H5:Hp} {c5:List AC} (ho:dm H5 v5 138 2 (k3+1) c5 (some r5)) (hf:Fr (fun i=>r3=some i) H1 H5) (hr:r3=some r5∨H1.nx≤r5):
  NB n0 kb m lm ll k2 (k3+1) (H5.mod kb (.arr [lad,.o (.mp m),gr,v5] 132 0 0)) lad gr v5 r1 r2 (some r5):=by
 have r5kb:r5≠kb:=by
  rcases hr with e|e
  ·exact (h.n3 _ e).2.2.1
  have:=h.kn.2;omega
 have r5m:r5≠m:=by
  rcases hr with e|e
  ·exact (h.n3 _ e).2.2.2
  have:=h.mn.2;omega
 have n0le:n0≤H1.nx:=zA2 h.kn.1 (Nat.le_of_lt h.kn.2);have lt5:r5<H5.nx:=by
  rcases ho with ⟨_,_,_,e⟩|⟨id,lo,gen,e,_,_,_,_,hl⟩
  ·cases e
  cases e;exact hl
 refine ⟨al rfl,?_,?_,?_,⟨c5,?_⟩,⟨h.kn.1,zA0 h.kn.2 hf.nx⟩,⟨h.mn.1,zA0 h.mn.2 hf.nx⟩,h.km,?_,?_,?_⟩
 ·rw[aI (fun e=>h.km e.symm),hf.get _ h.mn.2 fun e=>(h.n3 _ e).2.2.2 rfl];exact h.mg
 ·obtain ⟨css,a,b⟩:=h.o1;refine ⟨css,(a.fr hf fun i hi e=>(h.n1 i hi).2.2.2.2.2 e).fr dC fun i hi e=>(h.n1 i hi).2.2.1 e,b.mono fun c x ⟨hc,u,e,hu,hi⟩=>⟨hc,u,e,SlC.fr (SlC.fr hu hf fun i h' e=>(hi i h').2.2.2.2 e.symm) dC fun i h' e=>(hi i h').1 e,fun i h'=>⟨(hi i h').1,(hi i h').2.1,(hi i h').2.2.1,(hi i h').2.2.2.1,fun e=>?_⟩⟩⟩;cases e
  rcases hr with e|e
  ·exact (hi _ h').2.2.2.2 e.symm
  have:=hu.lt _ h';omega
 ·obtain ⟨c,a⟩:=h.o2;exact ⟨c,(a.fr hf fun i hi e=>(h.n2 i hi).2.2.2.2 e).fr dC fun i hi e=>(h.n2 i hi).2.2.1 e⟩
 ·exact ho.fr dC fun i hi e=>by cases hi;exact r5kb e
 ·intro q hq;obtain ⟨a,b,c,d,e,f⟩:=h.n1 q hq;refine ⟨a,zA0 b hf.nx,c,d,e,fun e'=>?_⟩;cases e'
  rcases hr with e'|e'
  ·exact f e'
  omega
 ·intro q hq;obtain ⟨a,b,c,d,e⟩:=h.n2 q hq;refine ⟨a,zA0 b hf.nx,c,d,fun e'=>?_⟩;cases e'
  rcases hr with e'|e'
  ·exact e e'
  omega
 intro q hq;cases hq
 refine ⟨?_,lt5,r5kb,r5m⟩;rcases hr with e|e
 ·exact (h.n3 _ e).1
 omega
theorem NB.book (h:NB n0 kb m lm lm k2 k3 H1 lad gr fc r1 r2 r3):oy H1 (.o (.ptr kb 0 0 4)) lm:=by
 obtain ⟨css,a,b⟩:=h.o1;exact ⟨kb,m,lad,gr,fc,rfl,h.kn.2,h.mn.2,h.kbg,h.mg,css,a.slc,b.mono fun c x ⟨hc,u,e,hu,_⟩=>⟨hc,u,e,hu⟩⟩
end
theorem iZ {n:List UInt8} {us:List Pr} (h:bE n us=0):us.length≤12:=by
 unfold bE at h;by_cases hl:gq n us=true
 ·unfold gq at hl;simp only[Bool.and_eq_true,decide_eq_true_eq] at hl;omega
 rw[zB1 hl] at h;cases h
theorem Xc {H:Hp} {m:Nat} {ls:List Lad} {x:Lad} (hg:H.get m=some (ic (plN 0 ls))) (hn:(gV 0 ls x.1).isSome=false):
  aV Tryz.prog H 9 (.one (.o (.mp m))) (.one (.o (.str x.1))) (.one (.i .i64 (ls.length:Int)))=.val aH (H.mod m (ic (plN 0 (ls++[x])))):=by
 rw[NF,Nat.zero_add];refine wk wV hg ?_;rw[JK];cases h:gV 0 ls x.1 with
 | none=>rfl
 | some i=>rw[h] at hn;cases hn
theorem DG (H:Hp) (v:AC) (ls:List Lad) (hl:fL H v ls):
  Con E2 28 [.one v,.one (.o .nilS)] H (fun _=>False) fun r H'=>∃ p,r=.tup [(false,[p]),(false,[.i .i64 (nj ls)])]∧(nj ls=0→oy H' p ls)∧(nj ls≠0→p=.o .nilP):=by
 refine Con.of rfl fun lg=>?_;have hl:fL ⟨H.t,H.nx,lg⟩ v ls:=hl;generalize (⟨H.t,H.nx,lg⟩:Hp)=H at hl ⊢;refine C1.body (E:=E2) (nt:=102) (res:=[.tmp 4,.tmp 5]) Tryz.func28 rfl rfl rfl rfl rfl fun tm A0=>?_;have h0:=A0 0 _ rfl;have h1:=A0 1 _ rfl;clear A0;have lnB:eT Tryz.prog 129=some 1:=by kernel_rfl
 by_cases Q7:(32:Int)<ls.length
 ·have c32:((32:Int)<ls.length)=True:=eq_true Q7;refine qW ad ?_;repeat refine R1.aE ?_
  refine qG (qA ad (qA h0 (qA h1 (qA iD (qA hl.len (qA hl.lt c32)))))) fun K hK=>?_;refine hK _ _ ?_;clear hK K;refine qY ?_;refine qV ?_;refine ⟨_,_,aQ (.o .nilP) (.i .i64 3) (.inr rfl) rfl qp qp,Fr.refl _,fun _=>?_⟩;have:nj ls=3:=zB0 Q7;rw[this];exact ⟨_,rfl,fun h=>(by cases h),fun _=>rfl⟩
 have c32:((32:Int)<ls.length)=False:=eq_false Q7;refine qW ad ?_;repeat refine R1.aE ?_
 refine qG (qA ad (qA h0 (qA h1 (qA iD (qA hl.len (qA hl.lt (qA c32 lnB))))))) fun K hK=>?_;refine hK _ _ ?_;clear hK K;refine qY ?_;refine R1.aT ?_;repeat refine R1.aE ?_
 refine qG (qA ad (qA Ci (qA Cw ss))) fun K hK=>?_;refine hK _ _ ?_;clear hK K;refine R1.gen (fun A1 H1=>Gr H H1∧NB H.nx (H.nx+1) H.nx [] [] 0 0 H1 (.o .nilS) (.o .nilS) (.o .nilS) none none none∧slot A1.tm 0=.one v∧slot A1.tm 1=.one (.o .nilS)∧slot A1.tm 6=.one (.o (.ptr (H.nx+1) 0 0 4))∧A1.nt=102∧A1.dfr=[])
  ⟨((Fr.refl _).new _).new _,⟨aB rfl,(aW (by rw[td];omega)).trans (aB rfl),⟨[],.inl ⟨rfl,rfl,rfl,rfl⟩,trivial⟩,⟨[],.inl ⟨rfl,rfl,rfl,rfl⟩⟩,⟨[],.inl ⟨rfl,rfl,rfl,rfl⟩⟩,⟨Nat.le_succ _,zA6 _⟩,⟨zA1 _,Nat.lt_succ_of_lt (zA6 _)⟩,by omega,fun q h=>(by cases h),fun q h=>(by cases h),fun q h=>(by cases h)⟩,?_⟩ ?_
 ·exact qZ (qA h0 h1)
 clear h0 h1 tm;rintro A1 H1 ⟨g1,nb,t0,t1,t6,B0,C0⟩;obtain ⟨kb,hkb⟩:∃ k,k=H.nx+1:=⟨_,rfl⟩;obtain ⟨m,hm⟩:∃ k,k=H.nx:=⟨_,rfl⟩;rw[←hkb] at nb t6;have nb:NB H.nx kb m [] [] 0 0 H1 (.o .nilS) (.o .nilS) (.o .nilS) none none none:=by rw[hm];exact nb
 clear hkb hm;have M7:=hl.gr g1;have U3:nj ls=qz [] ls:=zB1 Q7;rw[U3];generalize E0:qz [] ls=r0;refine qG (qA ad (qA t0 (qA B0 (qA iD (qA M7.len M7.lt))))) fun K hK=>?_;refine hK _ _ ?_;clear hK K;refine R1.aG fun K k1 k2 k3 k4=>?_;refine R1.loop (fun k A2 H2=>∃ (i:Nat) (lad gr fc:AC) (r1 r2 r3:Option Nat),k=ls.length - i∧i≤ls.length∧NB H.nx kb m (ls.take i) (ls.take i) i i H2 lad gr fc r1 r2 r3∧Gr H H2∧qz (ls.take i) (ls.drop i)=r0 ∧
  slot A2.tm 1=.one (.o .nilS)∧slot A2.tm 6=.one (.o (.ptr kb 0 0 4))∧slot A2.tm 26=.one v∧slot A2.tm 27=.one (.i .i64 (ls.length:Int))∧slot A2.tm 28=.one (.i .i64 (i:Int))∧A2.nt=102∧A2.dfr=[]) ?_ ls.length
  ⟨0,_,_,_,_,_,_,rfl,Nat.zero_le _,nb,g1,E0,?_⟩
 ·clear t0 t1 t6 B0 C0 A1;rintro k A H1 ⟨i,lad,gr,fc,r1,r2,r3,rfl,hi,nb,g1,hr,t1,t6,t26,t27,t28,B0,C0⟩;have M7:=hl.gr g1;refine qW (qA ad (qA t27 (qA t28 B0))) ?_;refine qE fun Kx Ky hx hy=>?_;refine cY (fun hc=>hx ?_) (fun hc=>hy ?_)
  ·clear hx hy Kx Ky;have D0:i<ls.length:=by omega
   obtain ⟨id,g,off,cells,rfl,N5,j8,L0⟩:=hl.open (by omega);have hid:id<H1.nx:=zA0 N5 g1.nx;have hg:rowOf (H1.get id) g=some cells:=by rw[g1.get _ N5 zB2];exact j8
   have ex:ls[i]?=some ls[i]:=zB4 D0;have Q0:ls.drop i=ls[i]::ls.drop (i+1):=List.drop_eq_getElem_cons D0;have B1:ls.take (i+1)=ls.take i++[ls[i]]:=List.take_succ_eq_append_getElem D0;generalize ls[i]=x at ex Q0 B1;obtain ⟨u,hu0,X8,K0,L2,hx3,hx4,hx5⟩:=L0 i x ex;have hu:SlP H1 u x.2:=hu0.gr g1;have hidu:∀ k∈(AV.one u).ids,k<H.nx:=hu0.lt;have V4:(ls.take i).length=i:=by rw[List.length_take];omega
   have hi32:ls.length≤32:=by omega
   have V0:=zC0 i (by omega);rw[Q0,qz] at hr;refine qV ?_;refine R1.aG fun K2 q1 q2 q3 q4=>?_;repeat refine R1.aE ?_
   refine qG (qA ad (qA t26 (qA t28 (qA B0 (qA fa (qA ca (qA fW (qA dX (qA (ixC D0) (qA hid (qA hg (qA X8 K0)))))))))))) fun K hK=>?_;refine hK _ _ ?_;clear hK K;refine R1.gen (fun A3 H3=>Gr H1 H3∧H1.nx<H3.nx∧H3.get H1.nx=some (.arr [.o (.str x.1),u] 97 0 0)∧slot A3.tm 1=.one (.o .nilS)∧slot A3.tm 6=.one (.o (.ptr kb 0 0 4))∧slot A3.tm 7=.one (.i .i64 (i:Int))∧slot A3.tm 8=.one (.o (.ptr H1.nx 0 0 2))∧slot A3.tm 26=.one (.o (.sl id g off ls.length 2))∧slot A3.tm 27=.one (.i .i64 (ls.length:Int))∧slot A3.tm 28=.one (.i .i64 (i:Int))∧A3.nt=102∧A3.dfr=[])
    ⟨((Fr.refl _).new _).mod _ (.inl (zA1 _)),?_⟩ ?_
   ·exact qZ (qA t1 (qA t6 (qA t26 (qA t27 (qA t28 (qA B0 C0))))))
   clear t1 t6 t26 t27 t28 B0 C0 A;rintro A H3 ⟨g3,n3,rx,t1,t6,t7,t8,t26,t27,t28,B0,C0⟩;have nb3:=nb.Kd g3;have g3':=g1.gr g3;repeat refine R1.aE ?_
   refine qG (qA ad (qA t8 (qA B0 (qA rx (qA n3 (qA ca uV)))))) fun K hK=>?_;refine WE.con (sK H3 x.1 u x.2 (hu.gr g3)) fun w H4 g4 hv=>?_;subst hv;have nb4:=nb3.Kd g4;have rx:H4.get H1.nx=some (.arr [.o (.str x.1),u] 97 0 0):=by rw[g4.get _ n3 zB2];exact rx
   have n4:H1.nx<H4.nx:=zA0 n3 g4.nx;have n_:SlP H4 u x.2:=(hu.gr g3).gr g4;have g4':=g3'.gr g4;refine qS (qA ad B0) ?_;refine hK _ _ ?_;clear hK K;refine qW (qA ad B0) ?_;refine qE fun Kx Ky hx hy=>?_;refine cY (fun hd=>hx ?_) (fun hd=>hy ?_)
   ·clear hx hy Kx Ky;have Z0:bE x.1 x.2≠0:=by simpa using hd
    rw[zB0 Z0] at hr;subst hr;refine qW (qA ad B0) ?_;refine q4 _ _ (k4 _ _ ⟨_,_,aQ (.o .nilP) (.i .i64 (bE x.1 x.2)) (.inr rfl) (qd C0) qp qp,g4',fun _=>⟨_,rfl,fun h=>absurd h Z0,fun _=>rfl⟩⟩)
   clear hx hy Kx Ky;have hz:bE x.1 x.2=0:=by simpa using hd
   rw[zB1 (fun h=>h hz)] at hr;have hL12:=iZ hz;refine R1.aT ?_;repeat refine R1.aE ?_
   have lkb:=nb4.kn.2;have lm:=nb4.mn.2;have rkb:=nb4.kbg;repeat refine R1.aE ?_
   refine R1.EC (by kernel_rfl) fun K hK=>?_;simp only[qB,aC,Nat.reduceLT,Nat.reduceLeDiff,Nat.reduceAdd,Nat.reduceSub,ad,t6,t8,B0,rx,n4,rkb,lkb,lm,gI,fq,oX,aO,vM,Bw,NN nb4.mg];refine hK _ _ ?_;clear hK K;cases C4:(gV 0 (ls.take i) x.1).isSome with
   | true=>
    rw[zB0 C4] at hr;subst hr;refine qW (qA ad B0) ?_;refine qY ?_;refine qW (qA ad B0) ?_;refine q4 _ _ (k4 _ _ ⟨_,_,aQ (.o .nilP) (.i .i64 2) (.inr rfl) (qd C0) qp qp,g4',fun _=>⟨_,rfl,fun h=>(by cases h),fun _=>rfl⟩⟩)
   | false=>
    rw[zB1 (by rw[C4];decide)] at hr;have hup:=Xc nb4.mg C4;rw[V4] at hup;refine qW (qA ad B0) ?_;refine qY ?_;refine R1.aT ?_;refine qG (qA ad (qA t6 (qA t7 (qA t8 (qA B0 (qA rx (qA n4 (qA rkb (qA lkb (qA lm (qA gI (qA fq (qA oX (qA aO (qA vM hup))))))))))))))) fun K hK=>?_;refine hK _ _ ?_;clear hK K;have nb5:=nb4.addM (ls.take i++[x]);have hmn:H.nx≤m:=nb4.mn.1;have q_:H.nx≤kb:=nb4.kn.1;have m1:m<H1.nx:=nb.mn.2;have T9:SlP (H4.mod m (ic (plN 0 (ls.take i++[x])))) u x.2:=SlC.fr n_ dC fun k h e=>by have:=hidu k h;omega
    have rx:(H4.mod m (ic (plN 0 (ls.take i++[x])))).get H1.nx=some (.arr [.o (.str x.1),u] 97 0 0):=by rw[aI (by omega)];exact rx
    have g5':Gr H (H4.mod m (ic (plN 0 (ls.take i++[x])))):=g4'.mod _ (.inl hmn);have n5:H1.nx<(H4.mod m (ic (plN 0 (ls.take i++[x])))).nx:=n4;refine R1.gen (fun A5 H5=>H5=H4.mod m (ic (plN 0 (ls.take i++[x])))∧slot A5.tm 1=.one (.o .nilS)∧slot A5.tm 6=.one (.o (.ptr kb 0 0 4))∧slot A5.tm 7=.one (.i .i64 (i:Int))∧slot A5.tm 8=.one (.o (.ptr H1.nx 0 0 2))∧slot A5.tm 26=.one (.o (.sl id g off ls.length 2))∧slot A5.tm 27=.one (.i .i64 (ls.length:Int))∧slot A5.tm 28=.one (.i .i64 (i:Int))∧A5.nt=102∧A5.dfr=[]) ⟨rfl,?_⟩ ?_
    ·exact qZ (qA t1 (qA t6 (qA t7 (qA t8 (qA t26 (qA t27 (qA t28 (qA B0 C0))))))))
    clear t1 t6 t7 t8 t26 t27 t28 B0 C0 A;rintro A H5 ⟨hH5,t1,t6,t7,t8,t26,t27,t28,B0,C0⟩;rw[←hH5] at nb5 T9 rx g5' n5;clear hH5 rkb lkb lm;have lkb:=nb5.kn.2;have rkb:=nb5.kbg;refine qH (qA ad (qA t6 (qA t8 (qA B0 (qA rx (qA n5 (qA rkb (qA lkb (qA kN (qA jH (qA ca Bd))))))))))) fun K hK=>?_;refine WE.Rc (wL H5 x.1 u x.2 T9 (by omega)) fun w H6 g6 ⟨u',hv,hu',F1⟩=>?_;subst hv;have nb6:=nb5.Kd g6;obtain ⟨css,ho1,v8⟩:=nb6.o1;obtain ⟨zl,X0,hzll⟩:=Tx;obtain ⟨e_,v7,H7,r7,U1,j9,W4,hr7⟩:=gZ fa RV X0 hzll (by decide) ho1 [.o (.str x.1),u'] rfl (by rw[V4];omega);have rk7:H7.get kb=some (.arr [lad,.o (.mp m),gr,fc] 132 0 0):=by rw[W4.get _ nb6.kn.2 (fun e=>(nb6.n1 _ e).2.2.1 rfl)];exact nb6.kbg
    have lk7:kb<H7.nx:=zA0 nb6.kn.2 W4.nx;have hui:∀ k∈(AV.one u').ids,k≠kb∧k≠m∧some k≠r1∧some k≠r2∧some k≠r3:=fun k h=>by
     have h5:=F1 k h;refine ⟨by omega,by have:=nb5.mn.2;omega,fun e=>?_,fun e=>?_,fun e=>?_⟩
     ·have:=(nb5.n1 _ e.symm).2.1;omega
     ·have:=(nb5.n2 _ e.symm).2.1;omega
     have:=(nb5.n3 _ e.symm).2.1;omega
    have nb8:=nb6.Xh hu' hui v8 j9 W4 hr7;have g7:Gr H H7:=(g5'.gr g6).then W4 fun k hk=>.inl (nb6.n1 _ hk).1;have g8:Gr H (H7.mod kb (.arr [v7,.o (.mp m),gr,fc] 132 0 0)):=g7.mod _ (.inl q_);refine qS (qA ad (qA t6 (qA B0 (qA fa (qA dX (qA iz (qA e_ (qA U1 (qA rk7 (qA lk7 (qA kN uq))))))))))) ?_;refine ⟨e_,?_⟩;refine hK _ _ ?_;clear hK K;refine R1.gen (fun A5 H8=>H8=H7.mod kb (.arr [v7,.o (.mp m),gr,fc] 132 0 0)∧slot A5.tm 1=.one (.o .nilS)∧slot A5.tm 6=.one (.o (.ptr kb 0 0 4))∧slot A5.tm 7=.one (.i .i64 (i:Int))∧slot A5.tm 26=.one (.o (.sl id g off ls.length 2))∧slot A5.tm 27=.one (.i .i64 (ls.length:Int))∧slot A5.tm 28=.one (.i .i64 (i:Int))∧A5.nt=102∧A5.dfr=[]) ⟨rfl,?_⟩ ?_
    ·exact qZ (qA t1 (qA t6 (qA t7 (qA t26 (qA t27 (qA t28 (qA B0 C0)))))))
    clear t1 t6 t7 t8 t26 t27 t28 B0 C0 A;rintro A H8 ⟨hH8,t1,t6,t7,t26,t27,t28,B0,C0⟩;rw[←hH8] at nb8 g8;clear hH8 rk7 lk7 U1 e_ j9 g7 v8 ho1 W4;obtain ⟨cg,U'⟩:=nb8.o2;obtain ⟨zi,w_,E6⟩:=xm;obtain ⟨hlt9,v9,H9,r9,happ9,ho9,E_,hr9⟩:=gZ fv sA w_ E6 (by decide) U' [.i .i64 (i:Int)] rfl (by omega);have rk9:H9.get kb=some (.arr [v7,.o (.mp m),gr,fc] 132 0 0):=by rw[E_.get _ nb8.kn.2 (fun e=>(nb8.n2 _ e).2.2.1 rfl)];exact nb8.kbg
    have lk9:kb<H9.nx:=zA0 nb8.kn.2 E_.nx;have nb10:=nb8.grp ho9 E_ hr9;have g10:Gr H (H9.mod kb (.arr [v7,.o (.mp m),v9,fc] 132 0 0)):=(g8.then E_ fun k hk=>.inl (nb8.n2 _ hk).1).mod _ (.inl q_);have rk8:=nb8.kbg;have lk8:=nb8.kn.2;refine qG (qA ad (qA t6 (qA t7 (qA B0 (qA rk8 (qA lk8 (qA sG (qA uh (qA fv (qA oV (qA iz (qA happ9 (qA hlt9 (qA rk9 (qA lk9 Df))))))))))))))) fun K hK=>?_;refine ⟨hlt9,?_⟩;refine hK _ _ ?_;clear hK K;refine R1.gen (fun A5 H10=>H10=H9.mod kb (.arr [v7,.o (.mp m),v9,fc] 132 0 0)∧slot A5.tm 1=.one (.o .nilS)∧slot A5.tm 6=.one (.o (.ptr kb 0 0 4))∧slot A5.tm 26=.one (.o (.sl id g off ls.length 2))∧slot A5.tm 27=.one (.i .i64 (ls.length:Int))∧slot A5.tm 28=.one (.i .i64 (i:Int))∧A5.nt=102∧A5.dfr=[]) ⟨rfl,?_⟩ ?_
    ·exact qZ (qA t1 (qA t6 (qA t26 (qA t27 (qA t28 (qA B0 C0))))))
    clear t1 t6 t7 t26 t27 t28 B0 C0 A;rintro A H10 ⟨hH10,t1,t6,t26,t27,t28,B0,C0⟩;rw[←hH10] at nb10 g10;clear hH10 rk9 lk9 happ9 hlt9 ho9 E_ rk8 lk8 U';obtain ⟨cf,ho3⟩:=nb10.o3;obtain ⟨zp,hzp,hzpl⟩:=UO;obtain ⟨hlt11,v11,H11,r11,happ11,E9,hf11,hr11⟩:=gZ pU VK hzp hzpl (by decide) ho3 [.o .nilS,.o .nilS] rfl (by omega);have rk11:H11.get kb=some (.arr [v7,.o (.mp m),v9,fc] 132 0 0):=by rw[hf11.get _ nb10.kn.2 (fun e=>(nb10.n3 _ e).2.2.1 rfl)];exact nb10.kbg
    have lk11:kb<H11.nx:=zA0 nb10.kn.2 hf11.nx;have nb12:=nb10.fac E9 hf11 hr11;have g12:Gr H (H11.mod kb (.arr [v7,.o (.mp m),v9,v11] 132 0 0)):=(g10.then hf11 fun k hk=>.inl (nb10.n3 _ hk).1).mod _ (.inl q_);have rk10:=nb10.kbg;have lk10:=nb10.kn.2;refine qG (qA ad (qA t6 (qA B0 (qA rk10 (qA lk10 (qA si (qA wj (qA pU (qA tZ (qA Ck (qA iz (qA happ11 (qA hlt11 (qA rk11 (qA lk11 xA))))))))))))))) fun K hK=>?_;refine ⟨hlt11,?_⟩;refine hK _ _ ?_;clear hK K;refine q1 _ _ ?_;refine qW (qA B0 (qA t28 V0)) ?_;rw[←B1] at nb12 hr;refine ⟨ls.length - (i+1),by omega,i+1,_,_,_,_,_,_,rfl,D0,nb12,g12,hr,?_,?_,?_,?_,?_,?_,?_⟩
    ·simp only[aa,Nat.reduceEqDiff,reduceIte,t1]
    ·simp only[aa,Nat.reduceEqDiff,reduceIte,t6]
    ·simp only[aa,Nat.reduceEqDiff,reduceIte,t26]
    ·simp only[aa,Nat.reduceEqDiff,reduceIte,t27]
    ·simp only[aa,Nat.reduceEqDiff,reduceIte]
    ·simp only[aw,B0]
    simp only[aj,C0]
  clear hx hy Kx Ky;have C2:i=ls.length:=by omega
  rw[C2,List.drop_length,qz] at hr;rw[C2,List.take_length] at nb;refine qW B0 ?_;refine k2 _ _ ?_;refine qW (qA ad (qA B0 (qA t1 lnB))) ?_;refine R1.aG fun K2 q1 q2 q3 q4=>?_;refine R1.round ?_;refine qW (qA ad B0) ?_;refine qY ?_;refine qW B0 ?_;refine q2 _ _ ?_;refine qW (qA ad (qA B0 t6)) ?_;refine ⟨_,_,aQ (.o (.ptr kb 0 0 4)) (.i .i64 0) (.inr rfl) (qd C0) qp qp,g1,fun _=>⟨_,by rw[←hr],fun _=>nb.book,fun h=>absurd hr.symm h⟩⟩
 simp only[aa,Nat.reduceEqDiff,reduceIte,aw,aj,t1,t6,B0,C0,and_self,true_and];exact ⟨rfl,trivial⟩
theorem VB:ak Tryz.prog 108=true:=by kernel_rfl
theorem QU:ak Tryz.prog 109=true:=by kernel_rfl
theorem sD:ak Tryz.prog 56=true:=by kernel_rfl
theorem OX:ak Tryz.prog 114=true:=by kernel_rfl
theorem Qq:Tryz.prog.underlying 29=some (.pointer 132):=by kernel_rfl
theorem XV:Tryz.prog.underlying 88=some (.map 9 3):=by kernel_rfl
def cU (H:Hp) (p:AC):Option (List Lad)→Prop
 | some ls=>oy H p ls
 | none=>p=.o .nilP∨∃ kb,p=.o (.ptr kb 0 0 4)∧kb<H.nx∧H.get kb=some (.arr [.o .nilS,.o .nilM,.o .nilS,.o .nilS] 132 0 0)
theorem cU.gr {H H':Hp} {p:AC} {o:Option (List Lad)} (h:cU H p o) (hg:Gr H H'):cU H' p o:=by
 cases o with
 | some ls=>exact oy.gr h hg
 | none=>
  refine Or.imp id ?_ h;rintro ⟨kb,h1,h2,h3⟩;exact ⟨kb,h1,zA0 h2 hg.nx,by rw[hg.get _ h2 zB2];exact h3⟩
theorem cU.same {H H':Hp} {p:AC} {o:Option (List Lad)} (ht:H'.t=H.t) (hn:H'.nx=H.nx) (h:cU H p o):cU H' p o:=
 by
  obtain ⟨t,nx,l⟩:=H;obtain ⟨t',nx',l'⟩:=H';cases ht;cases hn
  exact h
theorem QK (H:Hp) (p:AC) (o:Option (List Lad)) (hp:cU H p o):Con E2 108 [.one p] H (fun _=>False) fun r _=>r=.one (.b o.isNone):=by
 refine Con.of rfl fun lg=>?_;have hp:cU ⟨H.t,H.nx,lg⟩ p o:=cU.same (H:=H) rfl rfl hp;generalize (⟨H.t,H.nx,lg⟩:Hp)=H at hp ⊢;refine C1.body (E:=E2) (nt:=12) (res:=[.tmp 2]) Tryz.func108 rfl rfl rfl rfl rfl fun tm A0=>?_;have h0:=A0 0 _ rfl;clear A0;have fin:∀ (b:Bool) (A:ab),slot A.tm 2=.one (.b b)→A.dfr=[]→b=o.isNone→∃ w H4,an E2 [.tmp 2] (.ret,A,H)=.ok [(w,H4)]∧Gr H H4∧∀ _:List Nat,w=.one (.b o.isNone):=fun b A h1 h2 h3=>⟨_,_,ah (.b b) (.inr rfl) h2 h1,Fr.refl _,fun _=>by rw[h3]⟩;cases o with
 | some ls=>
  obtain ⟨kb,m,lad,gr,fc,rfl,h2,h3,h4,h5,h6⟩:=hp;refine qV ?_;repeat refine R1.aE ?_
  refine R1.ow fun K hK=>?_;simp only[qB,aC,Nat.reduceLT,Nat.reduceLeDiff,Nat.reduceAdd,ad,h0,lY,mJ,h2,h4,gI,oX,CK,Jt];refine hK _ _ ?_;clear hK K;refine qV ?_;exact fin false _ qp rfl rfl
 | none=>
  rcases hp with rfl|⟨kb,rfl,h2,h4⟩
  ·refine qV ?_;repeat refine R1.aE ?_
   refine R1.ow fun K hK=>?_;simp only[qB,aC,Nat.reduceLT,ad,h0,lY,HM,vO Qq,Me];refine hK _ _ ?_;clear hK K;refine qV ?_;exact fin true _ qp rfl rfl
  refine qV ?_;repeat refine R1.aE ?_
  refine R1.ow fun K hK=>?_;simp only[qB,aC,Nat.reduceLT,Nat.reduceLeDiff,Nat.reduceAdd,ad,h0,lY,mJ,h2,h4,gI,oX,CK,QP,JG XV,UG];refine hK _ _ ?_;clear hK K;refine qV ?_;exact fin true _ qp rfl rfl
theorem NV (H:Hp) (p:AC) (ls:List Lad) (s:List UInt8) (hp:oy H p ls):Con E2 109 [.one p,.one (.o (.str s))] H (fun _=>False) fun r _=>
  r=.tup [(false,[.i .i64 (((gV 0 ls s).getD 0:Nat):Int)]),(false,[.i .i64 (if (gV 0 ls s).isSome=true then 0 else 4)])]:=by
 refine Con.of rfl fun lg=>?_;have hp:oy ⟨H.t,H.nx,lg⟩ p ls:=hp;generalize (⟨H.t,H.nx,lg⟩:Hp)=H at hp ⊢;refine C1.body (E:=E2) (nt:=20) (res:=[.tmp 4,.tmp 5]) Tryz.func109 rfl rfl rfl rfl rfl fun tm A0=>?_;have h0:=A0 0 _ rfl;have h1:=A0 1 _ rfl;clear A0;obtain ⟨kb,m,lad,gr,fc,rfl,h2,h3,h4,h5,h6⟩:=hp;refine qV ?_;repeat refine R1.aE ?_
 refine R1.ow fun K hK=>?_;simp only[qB,aC,Nat.reduceLT,Nat.reduceLeDiff,Nat.reduceAdd,ad,h0,h1,h2,h3,h4,gI,oX,vM,Bw,NN h5];refine hK _ _ ?_;clear hK K;refine qG (qA ad MH) fun K hK=>?_;refine WE.con (HP H _ 4) fun v H7 g7 hv=>?_;subst hv;refine qS ad ?_;refine hK _ _ ?_;clear hK K;refine qV ?_;exact ⟨_,_,aQ _ _ (.inr rfl) rfl qp qp,g7,fun _=>rfl⟩
def fT:Option (List Lad)→List UInt8→Int
 | none,_=>1
 | some ls,s=>if (gV 0 ls s).isSome=true then 0 else 4
def GG (H:Hp) (c:List AC) (o:Option (List Lad)) (s:List UInt8):Prop:=
 (fT o s≠0→c=[.o (.str []),.o .nilS])∧∀ ls i x,o=some ls→gV 0 ls s=some i→ls[i]?=some x→Qs H c x
theorem Oq (s:List UInt8):fT none s=1:=rfl
theorem iN (ls:List Lad) (s:List UInt8):fT (some ls) s=if (gV 0 ls s).isSome=true then 0 else 4:=rfl
theorem IV {ls:List Lad} {s:List UInt8} {i:Nat} (h:gV 0 ls s=some i):∃ x,ls[i]?=some x∧x.1=s:=by
 obtain ⟨_,_,x,h3,h4⟩:=MO 0 ls s i h;exact ⟨x,h3,h4⟩
theorem jG {E:Env} {s q:Tmp} {t:TypeId} {n:Nat} {A:ab} {H H2:Hp} {e:aA} {id g lim:Nat} {cells:List AC} {c:AC} (ht:loadT E.P t=some (true,n)) (he:e=.normal∨e=.ret) (hd:closeAll H A.dfr=some H2) (hs:slot A.tm s=.one (.o (.ptr id g 0 lim)))
  (hg:rowOf (H2.get id) g=some cells) (hl:n≤lim) (ho:cells.length=n) (hq:slot A.tm q=.one c):an E [.cell s t,.tmp q] (e,A,H)=.ok [(.tup [(true,cells),(false,[c])],H2)]:=by
 have key:(az (closeAll H A.dfr) (R.bad "marks") fun h2=>az (bk E.P [.cell s t,.tmp q] A.tm h2) (.bad "results") fun l=>.ok [(du l,h2)])=.ok [(.tup [(true,cells),(false,[c])],H2)]:=by
  rw[hd];have e1:iY E.P (.cell s t) A.tm H2=some (true,cells):=by
   have e0:iY E.P (.cell s t)=match loadT E.P t with
     | some p=>fun tm h=>az (tm.get s) none fun v=>ae.rec (motive:=fun _=>Option (Bool×List AC)) (fun v _=>fO v) (fun _=>none) (fun _ _=>none) (fun _ _=>none) (fun _=>none) (cd h p.1 p.2 v)
     | none=>fun _ _=>none:=rfl
   rw[e0,ht];show az (A.tm.get s) none (fun v=>ae.rec (motive:=fun _=>Option (Bool×List AC)) (fun v _=>fO v) (fun _=>none) (fun _ _=>none) (fun _ _=>none) (fun _=>none) (cd H2 true n v))=_;rw[tJ hs];show ae.rec (motive:=fun _=>Option (Bool×List AC)) (fun v _=>fO v) (fun _=>none) (fun _ _=>none) (fun _ _=>none) (fun _=>none) (cd H2 true n (.one (.o (.ptr id g 0 lim))))=_;rw[fE,hg,qx hl (by omega),List.drop_zero,List.take_of_length_le (by omega)];rfl
  have hr:bk E.P [.cell s t,.tmp q] A.tm H2=some [(true,cells),(false,[c])]:=by
   show az (iY E.P (.cell s t) A.tm H2) none (fun x=>az (az (az (A.tm.get q) none fO) none fun x=>az (some []) none fun l=>some (x::l)) none fun l=>some (x::l))=_;rw[e1,tJ hq];rfl
  show az (bk E.P [.cell s t,.tmp q] A.tm H2) (R.bad "results") (fun l=>R.ok [(du l,H2)])=_
  rw[hr];rfl
 rcases he with rfl|rfl
 ·exact key
 exact key
theorem oZ (H:Hp) (p:AC) (o:Option (List Lad)) (s:List UInt8) (hp:cU H p o) (hL:∀ ls,o=some ls→∀ x∈ls,x.2.length≤1000000):Con E2 56 [.one p,.one (.o (.str s))] H (fun _=>False) fun r H'=>
  ∃ c,r=.tup [(true,c),(false,[.i .i64 (fT o s)])]∧GG H' c o s∧c.length=2:=by
 refine Con.of rfl fun lg=>?_;have hp:cU ⟨H.t,H.nx,lg⟩ p o:=cU.same (H:=H) rfl rfl hp;generalize (⟨H.t,H.nx,lg⟩:Hp)=H at hp ⊢;refine C1.body (E:=E2) (nt:=29) (res:=[.cell 4 97,.tmp 5]) Tryz.func56 rfl rfl rfl rfl rfl fun tm A0=>?_;have h0:=A0 0 _ rfl;have h1:=A0 1 _ rfl;clear A0;refine qG (qA ad dX) fun K hK=>?_;refine hK _ _ ?_;clear hK K;refine R1.gen (fun A1 H1=>Gr H H1∧H.nx<H1.nx∧H1.get H.nx=some (.arr [.o (.str []),.o .nilS] 97 0 0)∧slot A1.tm 0=.one p∧slot A1.tm 1=.one (.o (.str s))∧slot A1.tm 4=.one (.o (.ptr H.nx 0 0 2))∧A1.nt=29∧A1.dfr=[])
  ⟨(Fr.refl _).new _,?_⟩ ?_
 ·exact qZ (qA h0 h1)
 rintro A1 H1 ⟨g1,n1,r4,t0,t1,t4,B0,C0⟩;clear h0 h1 tm;have J4:=hp.gr g1;refine qG (qA ad (qA t0 (qA B0 VB))) fun K hK=>?_;refine WE.con (QK H1 p o J4) fun v H2 g2 hv=>?_;subst hv;refine qS (qA ad B0) ?_;refine hK _ _ ?_;clear hK K;have E4:=J4.gr g2;have g2':=g1.gr g2;have r4:H2.get H.nx=some (.arr [.o (.str []),.o .nilS] 97 0 0):=by rw[g2.get _ n1 zB2];exact r4
 have n2:H.nx<H2.nx:=zA0 n1 g2.nx;have fin:∀ (A:ab) (H3:Hp) (c:List AC) (e:Int),slot A.tm 4=.one (.o (.ptr H.nx 0 0 2))→slot A.tm 5=.one (.i .i64 e)→A.dfr=[]→Gr H H3→H3.get H.nx=some (.arr c 97 0 0)→c.length=2→e=fT o s→GG H3 c o s →
   ∃ w H4,an E2 [.cell 4 97,.tmp 5] (.ret,A,H3)=.ok [(w,H4)]∧Gr H H4∧∀ lg':List Nat,∃ c,w=.tup [(true,c),(false,[.i .i64 (fT o s)])]∧GG ⟨H4.t,H4.nx,lg'⟩ c o s∧c.length=2:=fun A H3 c e h4 h5 hd hg hr hc he ha=>
  ⟨_,H3,jG (id:=H.nx) (g:=0) ca (.inr rfl) (by rw[hd];rfl) h4 (by rw[hr];exact bF (zA1 _) (zA1 _)) (zA1 _) hc h5,hg,fun _=>⟨c,by rw[he],ha,hc⟩⟩
 cases o with
 | none=>
  refine qY ?_;refine qW (qA ad (qA B0 (qA dX (qA px (qA t4 (qA fW (qA r4 n2))))))) ?_;exact fin _ _ _ 1 (by simp only[aa,Nat.reduceEqDiff,reduceIte,t4]) qp (qd C0) (g2'.mod _ (.inl (zA1 _))) (al rfl) rfl rfl ⟨fun _=>rfl,fun ls i x h=>by cases h⟩
 | some ls=>
  refine qY ?_;refine R1.aT ?_;have E4:oy H2 p ls:=E4;refine qG (qA ad (qA t0 (qA t1 (qA B0 QU)))) fun K hK=>?_;refine WE.con (NV H2 p ls s E4) fun v H3 g3 hv=>?_;subst hv;refine qS (qA ad B0) ?_;refine hK _ _ ?_;clear hK K;have a9:=E4.gr g3;have r4:H3.get H.nx=some (.arr [.o (.str []),.o .nilS] 97 0 0):=by rw[g3.get _ n2 zB2];exact r4
  have n3:H.nx<H3.nx:=zA0 n2 g3.nx;have g3':=g2'.gr g3;cases Z':gV 0 ls s with
  | none=>
   have hle:fT (some ls) s=4:=by rw[iN,Z'];rfl
   simp only[Option.isSome_none,Bool.false_eq_true,if_false];refine qW (qA ad B0) ?_;refine qY ?_;refine qW (qA ad (qA B0 (qA dX (qA px (qA t4 (qA fW (qA r4 n3))))))) ?_;exact fin _ _ _ 4 (by simp only[aa,Nat.reduceEqDiff,reduceIte,t4]) qp (qd C0) (g3'.mod _ (.inl (zA1 _))) (al rfl) rfl hle.symm ⟨fun _=>rfl,fun ls' i x h h2=>by cases h;rw[Z'] at h2;cases h2⟩
  | some i=>
   have hle:fT (some ls) s=0:=by rw[iN,Z'];rfl
   obtain ⟨x,hx,R4⟩:=IV Z';simp only[Option.isSome_some,if_true,Option.getD_some];refine qW (qA ad B0) ?_;refine qY ?_;refine R1.aT ?_;obtain ⟨kb,m,lad,gr,fc,rfl,k1,k2,k3,k4,k5⟩:=a9;have D0:i<ls.length:=(List.getElem?_eq_some_iff.1 hx).1;obtain ⟨id,g,off,cells,rfl,hid,hg,L0⟩:=k5.open (by omega);obtain ⟨u,hu,X8,K0,_⟩:=L0 i x hx;refine qG (qA ad (qA t0 (qA B0 (qA k1 (qA k3 (qA kN (qA jH (qA fa (qA ca (qA (ixC D0) (qA hid (qA hg (qA X8 (qA K0 Bd)))))))))))))) fun K hK=>?_;refine WE.con (wL H3 x.1 u x.2 hu (hL ls rfl x (List.mem_of_getElem? hx))) fun w H6 g6 ⟨u',hv,hu',F1⟩=>?_;subst hv;have r4:H6.get H.nx=some (.arr [.o (.str []),.o .nilS] 97 0 0):=by rw[g6.get _ n3 zB2];exact r4
   have n6:H.nx<H6.nx:=zA0 n3 g6.nx;have hu6:SlP (H6.mod H.nx (.arr [.o (.str x.1),u'] 97 0 0)) u' x.2:=SlC.fr hu' dC fun k h e=>by have:=F1 k h;omega
   refine qS (qA ad (qA B0 (qA t4 (qA fW (qA r4 n6))))) ?_;refine hK _ _ ?_;clear hK K;refine qV ?_;exact fin _ _ _ 0 (by simp only[aa,Nat.reduceEqDiff,reduceIte,t4]) qp (qd C0) ((g3'.gr g6).mod _ (.inl (zA1 _))) (al rfl) rfl hle.symm ⟨fun h=>absurd hle h,fun ls' j y h h2 h3=>by
    cases h
    rw[Z'] at h2;cases h2
    rw[hx] at h3;cases h3
    exact ⟨u',rfl,hu6⟩⟩
theorem JV (H:Hp) (p:AC) (o:Option (List Lad)) (hp:cU H p o) (hL:∀ ls,o=some ls→∀ x∈ls,x.2.length≤1000000):Con E2 114 [.one p] H (fun _=>False) fun r _=>r=.one (.b o.isNone):=by
 refine Con.of rfl fun lg=>?_;have hp:cU ⟨H.t,H.nx,lg⟩ p o:=cU.same (H:=H) rfl rfl hp;generalize (⟨H.t,H.nx,lg⟩:Hp)=H at hp ⊢;refine C1.body (E:=E2) (nt:=12) (res:=[.tmp 2]) Tryz.func114 rfl rfl rfl rfl rfl fun tm A0=>?_;have h0:=A0 0 _ rfl;clear A0;refine qV ?_;refine qG (qA ad (qA h0 sD)) fun K hK=>?_;refine WE.con (oZ H p o [] hp hL) fun v H2 g2 ⟨c,hv,ha,hc⟩=>?_;subst hv;refine qS (qA ad (qA dX (qA fW hc))) ?_;refine hK _ _ ?_;clear hK K;refine qV ?_;refine ⟨_,_,ah (.b o.isNone) (.inr rfl) rfl ?_,(g2.new _).mod _ (.inl g2.nx),fun _=>rfl⟩;simp only[aa,Nat.reduceEqDiff,reduceIte];have:(fT o []==1)=o.isNone:=by
  cases o with
  | none=>rfl
  | some ls=>rw[iN];split <;> rfl
 rw[this]
theorem dB:loadT Tryz.prog 102=some (false,1):=by kernel_rfl
theorem KM:aU Tryz.prog 102=some 1:=by kernel_rfl
theorem Mb:(ax Tryz.prog 102).map (fun z=>(ofValue z).cells)=some [.o .nilS]:=by kernel_rfl
theorem dK:ba Tryz.prog 102=some (9,1):=by kernel_rfl
theorem dJ:eT Tryz.prog 102=some 1:=by kernel_rfl
theorem MZ:aS Tryz.prog 102=1:=by kernel_rfl
theorem nF:loadT Tryz.prog 104=some (true,3):=by kernel_rfl
theorem Dc:aU Tryz.prog 104=some 3:=by kernel_rfl
theorem Dt:(ax Tryz.prog 104).map (fun z=>(ofValue z).cells)=some [.o (.str []),.o (.str []),.o .nilS]:=by kernel_rfl
theorem My:aS Tryz.prog 104=4:=by kernel_rfl
theorem fH:aJ Tryz.prog 104 0=some (0,9,1):=by kernel_rfl
theorem cu:aJ Tryz.prog 104 1=some (1,9,1):=by kernel_rfl
theorem bX:aJ Tryz.prog 104 2=some (2,102,1):=by kernel_rfl
def ui:Nat→Option (Nat×Nat):=fun i=>(#[(0,1),(1,1),(2,1)]:Array (Nat×Nat))[i]?
theorem LU:cH Tryz.prog 104=some ui:=by kernel_rfl
theorem Bk:ui 0=some (0,1):=rfl
theorem AZ:ui 1=some (1,1):=rfl
theorem yp:ui 2=some (2,1):=rfl
theorem DT:loadT Tryz.prog 23=some (false,1):=by kernel_rfl
theorem ER:aU Tryz.prog 23=some 1:=by kernel_rfl
theorem Fy:(ax Tryz.prog 23).map (fun z=>(ofValue z).cells)=some [.o .nilS]:=by kernel_rfl
theorem bI:ba Tryz.prog 23=some (104,3):=by kernel_rfl
theorem fu:eT Tryz.prog 23=some 1:=by kernel_rfl
theorem Fi:aS Tryz.prog 23=1:=by kernel_rfl
end Go.Proofs.YtnhbkodnmkojpaaGreat
