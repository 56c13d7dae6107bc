/- A part of the proof: BkFacts, BkTy, BkUn, BkChk, BkCpy, BkBook, BkNew, BkLad, BkFacts2, BkGood, BkRef1, BkRef2, BkFacts3, BkRef3, BkRef4, BkRef6, BkBooks, BkArg, BkStay, BkFacts4, BkNum1, BkNum2. No conditions. -/
import Derived.Test.YtgepceljhelekaaGreatPFAf
import Derived.Test.YtgepceljhelekaaGreatPFAd
import Derived.KernelRfl
import Derived.Carry
set_option maxRecDepth 100000
set_option maxHeartbeats 64000000
set_option linter.all false
namespace Go.Proofs.YtgepceljhelekaaGreat
open Go Go.Eng
def bC:loadT Tryz.prog 9=some (false,1):=by kernel_rfl
def Rn:aT Tryz.prog 9=some 1:=by kernel_rfl
def Tu:(ay Tryz.prog 9).map (λz=>(ofValue z).cells)=some [.o (.str [])]:=by kernel_rfl
def sf:eR Tryz.prog 9=some 0:=by kernel_rfl
def wG:lO Tryz.prog 9=true:=by kernel_rfl
def TY:aR Tryz.prog 9=4:=by kernel_rfl
def bE:loadT Tryz.prog 3=some (false,1):=by kernel_rfl
def vp:aT Tryz.prog 3=some 1:=by kernel_rfl
def sB:cK Tryz.prog 3=some 8:=by kernel_rfl
def rO:(ay Tryz.prog 3).map (λz=>(ofValue z).cells)=some [.i .i64 0]:=by kernel_rfl
def Ct:∃z,ay Tryz.prog 3=some z∧(ofValue z).cells.length=1:=by
 have h:=rO;cases hz:ay Tryz.prog 3 with
 |none=>rw[hz]at h;cases h
 |some z=>
  rw[hz]at h;exact⟨z,rfl,by have:(ofValue z).cells=_:=Option.some.inj h;rw[this];rfl⟩
def BJ:ay Tryz.prog 3=some (.int .i64 0):=by kernel_rfl
def jB:Tryz.prog.underlying 3=some (.int .i64):=by kernel_rfl
def RN:aR Tryz.prog 3=4:=by kernel_rfl
def jr:loadT Tryz.prog 4=some (false,1):=by kernel_rfl
def tL:aT Tryz.prog 4=some 1:=by kernel_rfl
def Wv:cK Tryz.prog 4=some 1:=by kernel_rfl
def Ku:(ay Tryz.prog 4).map (λz=>(ofValue z).cells)=some [.b false]:=by kernel_rfl
def fJ:ay Tryz.prog 4=some (.bool false):=by kernel_rfl
def Wb:Tryz.prog.underlying 4=some .bool:=by kernel_rfl
def Mu:aR Tryz.prog 4=4:=by kernel_rfl
def qz:loadT Tryz.prog 35=some (false,1):=by kernel_rfl
def dJ:aT Tryz.prog 35=some 1:=by kernel_rfl
def rD:(ay Tryz.prog 35).map (λz=>(ofValue z).cells)=some [.i .i64 0]:=by kernel_rfl
def DW:aR Tryz.prog 35=4:=by kernel_rfl
def qR:loadT Tryz.prog 133=some (true,2):=by kernel_rfl
def nX:aT Tryz.prog 133=some 2:=by kernel_rfl
def LO:cK Tryz.prog 133=some 24:=by kernel_rfl
def kN:(ay Tryz.prog 133).map (λz=>(ofValue z).cells)=some [.o (.str []),.i .i64 0]:=by kernel_rfl
def Ma:∃z,ay Tryz.prog 133=some z∧(ofValue z).cells.length=2:=by
 have h:=kN;cases hz:ay Tryz.prog 133 with
 |none=>rw[hz]at h;cases h
 |some z=>
  rw[hz]at h;exact⟨z,rfl,by have:(ofValue z).cells=_:=Option.some.inj h;rw[this];rfl⟩
def MF:aR Tryz.prog 133=4:=by kernel_rfl
def bJ:aE Tryz.prog 133 0=some (0,9,1):=by kernel_rfl
def bU:aE Tryz.prog 133 1=some (1,3,1):=by kernel_rfl
def Cy:Nat->Option (Nat×Nat):=λi=>(#[(0,1),(1,1)]:Array (Nat×Nat))[i]?
def LK:cB Tryz.prog 133=some Cy:=by kernel_rfl
def Aq:Cy 0=some (0,1):=rfl
def AP:Cy 1=some (1,1):=rfl
def bZ:loadT Tryz.prog 49=some (false,1):=by kernel_rfl
def EO:aT Tryz.prog 49=some 1:=by kernel_rfl
def GL:(ay Tryz.prog 49).map (λz=>(ofValue z).cells)=some [.o .nilS]:=by kernel_rfl
def gT:bt Tryz.prog 49=some (133,2):=by kernel_rfl
def dq:eR Tryz.prog 49=some 1:=by kernel_rfl
def Ie:aR Tryz.prog 49=1:=by kernel_rfl
def eP:loadT Tryz.prog 51=some (true,2):=by kernel_rfl
def jC:aT Tryz.prog 51=some 2:=by kernel_rfl
def Jo:cK Tryz.prog 51=some 40:=by kernel_rfl
def fh:(ay Tryz.prog 51).map (λz=>(ofValue z).cells)=some [.o (.str []),.o .nilS]:=by kernel_rfl
def JM:∃z,ay Tryz.prog 51=some z∧(ofValue z).cells.length=2:=by
 have h:=fh;cases hz:ay Tryz.prog 51 with
 |none=>rw[hz]at h;cases h
 |some z=>
  rw[hz]at h;exact⟨z,rfl,by have:(ofValue z).cells=_:=Option.some.inj h;rw[this];rfl⟩
def TQ:aR Tryz.prog 51=4:=by kernel_rfl
def eS:aE Tryz.prog 51 0=some (0,9,1):=by kernel_rfl
def bY:aE Tryz.prog 51 1=some (1,49,1):=by kernel_rfl
def ID:Nat->Option (Nat×Nat):=λi=>(#[(0,1),(1,1)]:Array (Nat×Nat))[i]?
def sE:cB Tryz.prog 51=some ID:=by kernel_rfl
def qK:ID 0=some (0,1):=rfl
def qf:ID 1=some (1,1):=rfl
def kW:loadT Tryz.prog 22=some (false,1):=by kernel_rfl
def tS:aT Tryz.prog 22=some 1:=by kernel_rfl
def LL:(ay Tryz.prog 22).map (λz=>(ofValue z).cells)=some [.o .nilS]:=by kernel_rfl
def ez:bt Tryz.prog 22=some (51,2):=by kernel_rfl
def ig:eR Tryz.prog 22=some 1:=by kernel_rfl
def Mr:aR Tryz.prog 22=1:=by kernel_rfl
def rP:loadT Tryz.prog 150=some (false,1):=by kernel_rfl
def IQ:aT Tryz.prog 150=some 1:=by kernel_rfl
def IP:(ay Tryz.prog 150).map (λz=>(ofValue z).cells)=some [.o .nilM]:=by kernel_rfl
def Bt:eR Tryz.prog 150=some 2:=by kernel_rfl
def uU:fW Tryz.prog 150=some (9,4):=by kernel_rfl
def Ci:bf Tryz.prog 9=0:=by kernel_rfl
def RE:aR Tryz.prog 150=2:=by kernel_rfl
def oP:loadT Tryz.prog 103=some (false,1):=by kernel_rfl
def PO:aT Tryz.prog 103=some 1:=by kernel_rfl
def Sq:(ay Tryz.prog 103).map (λz=>(ofValue z).cells)=some [.o .nilM]:=by kernel_rfl
def Qa:eR Tryz.prog 103=some 2:=by kernel_rfl
def wa:fW Tryz.prog 103=some (9,3):=by kernel_rfl
def Cj:bf Tryz.prog 9=0:=by kernel_rfl
def Cz:aR Tryz.prog 103=2:=by kernel_rfl
def Hv:loadT Tryz.prog 31=some (false,1):=by kernel_rfl
def GS:aT Tryz.prog 31=some 1:=by kernel_rfl
def DO:(ay Tryz.prog 31).map (λz=>(ofValue z).cells)=some [.o .nilP]:=by kernel_rfl
def lU:aR Tryz.prog 31=0:=by kernel_rfl
def Ml:loadT Tryz.prog 106=some (true,4):=by kernel_rfl
def KI:aT Tryz.prog 106=some 4:=by kernel_rfl
def CP:(ay Tryz.prog 106).map (λz=>(ofValue z).cells)=some [.o .nilS,.o .nilM,.o .nilS,.o .nilS]:=by kernel_rfl
def ME:aR Tryz.prog 106=4:=by kernel_rfl
def jZ:aE Tryz.prog 106 0=some (0,22,1):=by kernel_rfl
def gh:aE Tryz.prog 106 1=some (1,103,1):=by kernel_rfl
def sG:aE Tryz.prog 106 2=some (2,27,1):=by kernel_rfl
def rW:aE Tryz.prog 106 3=some (3,104,1):=by kernel_rfl
def pY:Nat->Option (Nat×Nat):=λi=>(#[(0,1),(1,1),(2,1),(3,1)]:Array (Nat×Nat))[i]?
def Bz:cB Tryz.prog 106=some pY:=by kernel_rfl
def Bo:pY 0=some (0,1):=rfl
def sx:pY 1=some (1,1):=rfl
def AM:pY 2=some (2,1):=rfl
def yj:pY 3=some (3,1):=rfl
def nC:loadT Tryz.prog 27=some (false,1):=by kernel_rfl
def CV:aT Tryz.prog 27=some 1:=by kernel_rfl
def LQ:(ay Tryz.prog 27).map (λz=>(ofValue z).cells)=some [.o .nilS]:=by kernel_rfl
def er:bt Tryz.prog 27=some (3,1):=by kernel_rfl
def Da:eR Tryz.prog 27=some 1:=by kernel_rfl
def MK:aR Tryz.prog 27=1:=by kernel_rfl
def we:loadT Tryz.prog 104=some (false,1):=by kernel_rfl
def xi:aT Tryz.prog 104=some 1:=by kernel_rfl
def Hz:(ay Tryz.prog 104).map (λz=>(ofValue z).cells)=some [.o .nilS]:=by kernel_rfl
def pN:bt Tryz.prog 104=some (116,2):=by kernel_rfl
def Gm:eR Tryz.prog 104=some 1:=by kernel_rfl
def DM:aR Tryz.prog 104=1:=by kernel_rfl
def Lm:loadT Tryz.prog 116=some (true,2):=by kernel_rfl
def Lr:aT Tryz.prog 116=some 2:=by kernel_rfl
def WG:cK Tryz.prog 116=some 48:=by kernel_rfl
def ua:(ay Tryz.prog 116).map (λz=>(ofValue z).cells)=some [.o .nilS,.o .nilS]:=by kernel_rfl
def VC:∃z,ay Tryz.prog 116=some z∧(ofValue z).cells.length=2:=by
 have h:=ua;cases hz:ay Tryz.prog 116 with
 |none=>rw[hz]at h;cases h
 |some z=>
  rw[hz]at h;exact⟨z,rfl,by have:(ofValue z).cells=_:=Option.some.inj h;rw[this];rfl⟩
def MO:aR Tryz.prog 116=4:=by kernel_rfl
def xW:aE Tryz.prog 116 0=some (0,114,1):=by kernel_rfl
def yo:aE Tryz.prog 116 1=some (1,114,1):=by kernel_rfl
def Cd:Nat->Option (Nat×Nat):=λi=>(#[(0,1),(1,1)]:Array (Nat×Nat))[i]?
def BL:cB Tryz.prog 116=some Cd:=by kernel_rfl
def An:Cd 0=some (0,1):=rfl
def zM:Cd 1=some (1,1):=rfl
def ai:E2.P=Tryz.prog:=rfl
def kE:ao Tryz.prog 63=true:=by kernel_rfl
def eU:ao Tryz.prog 11=true:=by kernel_rfl
def GF:ao Tryz.prog 64=true:=by kernel_rfl
def AS:ao Tryz.prog 115=true:=by kernel_rfl
def uE:ao Tryz.prog 39=true:=by kernel_rfl
def pv:ao Tryz.prog 62=true:=by kernel_rfl
def mq(s:List UInt8):E2.dQ 63 [.one (.o (.str s))]=some (.one (.b (nmB s))):=by
 show some (AV.one (.b (Fh s)))=_;rw[GN]
def pB:E2.dQ 11 []=some (.one (.b true)):=rfl
def IN{A:aa}{k:Tmp}{c:AC}(h:slot A.tm k=.one c):A.tm.get k=some (.one c):=by
 unfold slot at h;cases hk:A.tm.get k with
 |none=>rw[hk]at h;cases h
 |some u=>rw[hk]at h;exact congrArg some h
def aZ{E:Env}{s t:Tmp}{A:aa}{H:Hp}{e:ak}(c d:AC)(he:e=.normal∨e=.ret)(hd:A.dfr=[])(hs:slot A.tm s=.one c)(ht:slot A.tm t=.one d):aC E [.tmp s,.tmp t] (e,A,H)=.ok [(.tup [(false,[c]),(false,[d])],H)]:=by
 have key:(aw (closeAll H A.dfr) (R.bad "marks") λh2=>aw (bQ E.P [.tmp s,.tmp t] A.tm h2) (.bad "results") λl=>.ok [(dU l,h2)])=.ok [(.tup [(false,[c]),(false,[d])],H)]:=by
  rw[hd];have hr:bQ E.P [.tmp s,.tmp t] A.tm H=some [(false,[c]),(false,[d])]:=by
   show aw (aw (A.tm.get s) none iZ) none (λx=>aw (aw (aw (A.tm.get t) none iZ) none λx=>aw (some []) none λl=>some (x::l)) none λl=>some (x::l))=_;rw[IN hs,IN ht];rfl
  show aw (bQ E.P [.tmp s,.tmp t] A.tm H) (R.bad "results") (λl=>R.ok [(dU l,H)])=_
  rw[hr];rfl
 rcases he with rfl|rfl
 ·exact key
 exact key
def bX{E:Env}{A:aa}{H:Hp}{e:ak}(he:e=.normal∨e=.ret)(hd:A.dfr=[]):aC E [] (e,A,H)=.ok [(.tup [],H)]:=by
 have key:(aw (closeAll H A.dfr) (R.bad "marks") λh2=>aw (bQ E.P [] A.tm h2) (.bad "results") λl=>.ok [(dU l,h2)])=.ok [(.tup [],H)]:=by rw[hd];rfl
 rcases he with rfl|rfl
 ·exact key
 exact key
def pF{E:Env}{s:Tmp}{t:TypeId}{A:aa}{H H2:Hp}{e:ak}{id g off lim:Nat}{cells:List AC}{c:AC}(ht:loadT E.P t=some (false,1))(he:e=.normal∨e=.ret)(hd:closeAll H A.dfr=some H2)(hs:slot A.tm s=.one (.o (.ptr id g off lim)))
  (hg:rowOf (H2.get id) g=some cells) (hl:1≤lim) (ho:off+1≤cells.length) (hc:(cells.drop off).headD (.b false)=c):aC E [.cell s t] (e,A,H)=.ok [(.one c,H2)]:=by
 have key:(aw (closeAll H A.dfr) (R.bad "marks") λh2=>aw (bQ E.P [.cell s t] A.tm h2) (.bad "results") λl=>.ok [(dU l,h2)])=.ok [(.one c,H2)]:=by
  rw[hd];have hr:bQ E.P [.cell s t] A.tm H2=some [(false,[c])]:=by
   have e1:jM E.P (.cell s t) A.tm H2=some (false,[c]):=by
    have e0:jM E.P (.cell s t)=match loadT E.P t with
      |some p=>λtm h=>aw (tm.get s) none λv=>ab.rec (motive:=λ_=>Option (Bool×List AC)) (λv _=>iZ v) (λ_=>none) (λ_ _=>none) (λ_ _=>none) (λ_=>none) (cH h p.1 p.2 v)
      |none=>λ_ _=>none:=rfl
    rw[e0,ht];show aw (A.tm.get s) none (λv=>ab.rec (motive:=λ_=>Option (Bool×List AC)) (λv _=>iZ v) (λ_=>none) (λ_ _=>none) (λ_ _=>none) (λ_=>none) (cH H2 false 1 v))=_;rw[IN hs];show ab.rec (motive:=λ_=>Option (Bool×List AC)) (λv _=>iZ v) (λ_=>none) (λ_ _=>none) (λ_ _=>none) (λ_=>none) (cH H2 false 1 (.one (.o (.ptr id g off lim))))=_;rw[gy,hg,uu hl ho,hc];rfl
   show aw (jM E.P (.cell s t) A.tm H2) none (λx=>aw (some []) none λl=>some (x::l))=_;rw[e1];rfl
  show aw (bQ E.P [.cell s t] A.tm H2) (R.bad "results") (λl=>R.ok [(dU l,H2)])=_
  rw[hr];rfl
 rcases he with rfl|rfl
 ·exact key
 exact key
def eG{H:Hp}{d:Nat}(h:H.get d=some (.oth (.dfr true))):closeAll H [d]=some (H.mod d (.oth (.dfr false))):=by
 show(match H.get d with|some (.oth (.dfr true))=>closeAll (H.mod d (.oth (.dfr false))) []|_=>none)=_
 rw[h];rfl
def SlC.fr{H H':Hp}{v:AC}{sz n:Nat}{c:List AC}{X:Nat->Prop}(h:SlC H v sz n c)(hf:Fr X H H')(hx:∀id∈(AV.one v).ids,¬X id):SlC H' v sz n c:=by
 refine⟨h.1,h.2.imp id ?_⟩
 rintro⟨id,g,off,h1,h2,h3⟩
 subst h1;exact⟨id,g,off,rfl,zA0 h2 hf.nx,h3.dG (hf.get _ h2 (hx id (List.mem_singleton.2 rfl)))⟩
abbrev Pr:=List UInt8×Int
def prC(x:Pr):List AC:=[.o (.str x.1),.i .i64 x.2]
def dW(x:Pr):prC x=[.o (.str x.1),.i .i64 x.2]:=by unfold prC;rfl
def WZ(x:Pr):(prC x).length=2:=rfl
def SlP(H:Hp)(v:AC)(l:List Pr):Prop:=SlC H v 2 l.length (l.flatMap prC)
def SlP.gr{H H':Hp}{v:AC}{l:List Pr}(h:SlP H v l)(hg:Gr H H'):SlP H' v l:=SlC.gr h hg
def SlP.len{H:Hp}{v:AC}{l:List Pr}(h:SlP H v l):cW H 1 (.one v)=.val (.one (.i .i64 (l.length:Int))) H:=SlC.len h
def SlP.lt{H:Hp}{v:AC}{l:List Pr}(h:SlP H v l):ltV (.one v) H.nx:=qj h
def SlP.nil{H:Hp}:SlP H (.o .nilS) []:=⟨by simp,.inl ⟨rfl,rfl⟩⟩
structure YV(cells:List AC)(o:Nat)(x:Pr):Prop where
 all:(cells.drop o).take 2=prC x
 le:o+2≤cells.length
 le1:o+1≤cells.length
 le2:o+1+1≤cells.length
 fst:(cells.drop o).headD (.b false)=.o (.str x.1)
 snd:(cells.drop (o+1)).headD (.b false)=.i .i64 x.2
def Vu{cells:List AC}{o:Nat}{x:Pr}(h:(cells.drop o).take 2=prC x)(hl:o+2≤cells.length):YV cells o x:=by
 refine⟨h,hl,by omega,by omega,?_,?_⟩
 ·cases hd:cells.drop o with
  |nil=>have:=congrArg List.length hd;simp at this;omega
  |cons a r=>
   rw[hd]at h;cases r with
   |nil=>cases h
   |cons b r=>cases h;rfl
 rw[<-List.drop_drop];cases hd:cells.drop o with
 |nil=>have:=congrArg List.length hd;simp at this;omega
 |cons a r=>
  rw[hd]at h;cases r with
  |nil=>cases h
  |cons b r=>cases h;rfl
def SlP.open{H:Hp}{v:AC}{l:List Pr}(h:SlP H v l)(hn:0<l.length):∃id g off cells,v=.o (.sl id g off l.length 2)∧id<H.nx∧rowOf (H.get id) g=some cells∧∀(i:Nat)(x:Pr),l[i]?=some x->YV cells (off+i*2) x:=by
 obtain⟨id,g,off,h1,h2,hr⟩:=SlC.pos h hn
 have E3:=hr;obtain⟨cells,h3,h6,h7⟩:=hr
 refine⟨id,g,off,cells,h1,h2,h3,λi x hx=>?_⟩
 obtain⟨cells',k3,k6,k7⟩:=Rd.at (c:=prC) WZ E3 hx
 rw[h3]at k3;cases k3
 exact Vu k7 k6
def yv:Int->List Pr->List (Pr×Int)
 |_,[]=>[]
 |v,u::us=>if u.2<1∨60<u.2∨1099511627776<v*u.2 then[]else(u,v*u.2)::yv (v*u.2) us
def BH:∀(v:Int)(us:List Pr),(yv v us).length≤us.length
 |_,[]=>zA1 _
 |v,u::us=>by
  unfold yv;split
  ·exact Nat.zero_le _
  exact Nat.succ_le_succ (BH _ us)
def Rv:∀(v:Int)(us:List Pr)(i:Nat)(y:Pr×Int),(yv v us)[i]?=some y->us[i]?=some y.1
 |_,[],_,_,h=>by simp[yv]at h
 |v,u::us,i,y,h=>by
  unfold yv at h;split at h
  ·simp at h
  cases i with
  |zero=>
   simp only[List.getElem?_cons_zero,Option.some.injEq]at h ⊢;rw[<-h]
  |succ i=>
   rw[List.getElem?_cons_succ]at h ⊢;exact Rv _ us i y h
def yA(ys:List (Pr×Int))(i:Nat):List AV:=
 match ys[i]? with
 |some y=>[.agg (prC y.1),.one (.i .i64 y.2)]
 |none=>[.any,.any]
def RK(ys:List (Pr×Int))(i:Nat):(yA ys i).length=2:=by
 unfold yA;split<;>rfl
def Tl{ys:List (Pr×Int)}{i:Nat}{y:Pr×Int}(h:ys[i]?=some y):yA ys i=[.agg (prC y.1),.one (.i .i64 y.2)]:=by
 unfold yA;rw[h]
def DL(il:Nat)(u:AC)(k:Nat):Prop:=k=il∨k∈(AV.one u).ids
def AU(H:Hp)(il:Nat)(n:AC)(u:AC)(us:List Pr)(C4:il<H.nx)(hg:H.get il=some (.arr [n,u] 51 0 0))(hu:SlP H u us)(hL:us.length≤1000000)(ys:List (Pr×Int))(x9:yv 1 us=ys):
  ItC E2 115 [(il,0,0,2)] ys.length (yA ys) (DL il u) H:=by
 intro σ L B s H1 M5 J5 hj;refine Con.of rfl λlg=>?_;have hj:B.J 0 s ⟨H1.t,H1.nx,lg⟩:=B.hJ hj (zA1 _) λ_ _=>rfl;have M5:H.nx≤(⟨H1.t,H1.nx,lg⟩:Hp).nx:=M5;have J5:∀k,k<H.nx->(⟨H1.t,H1.nx,lg⟩:Hp).get k=H.get k:=J5;have e0:H1.nx=(⟨H1.t,H1.nx,lg⟩:Hp).nx:=rfl;rw[e0];clear e0;generalize(⟨H1.t,H1.nx,lg⟩:Hp)=H1 at hj M5 J5 ⊢
 have O':H1.get il=some (.arr [n,u] 51 0 0):=by rw[J5 _ C4];exact hg
 have hil1:il<H1.nx:=zA0 C4 M5;have X1:SlP H1 u us:=SlC.dG hu M5 J5;have hnu:∀id∈(AV.one u).ids,¬B.fp s id:=λid h hf=>(B.hl hj hf).2 (.inr h);have jend:∀(j:Nat)(s3:σ)(H3:Hp),j=ys.length->B.J j s3 H3->B.J ys.length s3 H3:=λj s3 H3 e h=>by subst e;exact h
 refine C1.body (E:=E2) (nt:=35) (res:=[]) Tryz.func115 rfl rfl rfl rfl rfl λtm z0=>?_;have h0:=z0 0 _ rfl;have h1:=z0 1 _ rfl;clear z0;refine qW (zDk ai h0 h1 bY bZ O' hil1 dq X1.len X1.lt) ?_;refine R1.kX λK k1 k2 k3 k4=>?_;refine R1.loop (λk A H2=>∃(i:Nat)(s2:σ)(val:Int),k=us.length-i∧i≤us.length∧i≤ys.length∧ys.drop i=yv val (us.drop i)∧1≤val∧val≤1099511627776∧B.J i s2 H2∧Fr (B.fp s) H1 H2∧(∀k,B.fp s2 k->B.fp s k∨H1.nx≤k) ∧
  slot A.tm 0=.one (.o (.yl L))∧slot A.tm 3=.one (.i .i64 val)∧slot A.tm 7=.one u∧slot A.tm 8=.one (.i .i64 (us.length:Int))∧slot A.tm 9=.one (.i .i64 (i:Int))∧A.nt=35∧A.dfr=[]) ?_ us.length
  ⟨0,s,1,rfl,Nat.zero_le _,Nat.zero_le _,x9.symm,by omega,by omega,hj,Fr.refl _,λ_ h=>.inl h,?_⟩
 ·clear h0 h1 tm;rintro k A H2 ⟨i,s2,val,rfl,hi,hiy,p9,G8,R6,hj2,P',Y5,t0,t3,t7,t8,t9,A0,B0⟩;have j6:SlP H2 u us:=SlC.fr X1 P' hnu;have fin:∀(e:ak),e=.normal∨e=.ret->∀s3 H3 A3,B.J ys.length s3 H3∨B.F s3 H3->Fr (B.fp s) H1 H3->(∀k,B.fp s3 k->B.fp s k∨H1.nx≤k)->A3.dfr=[]->∃v H4,aC E2 [] (e,A3,H3)=.ok [(v,H4)]∧Fr (B.fp s) H1 H4∧∀lg',∃s',(B.J ys.length s' ⟨H4.t,H4.nx,lg'⟩∨B.F s' ⟨H4.t,H4.nx,lg'⟩)∧∀k,B.fp s' k->B.fp s k∨H1.nx≤k:=λe he s3 H3 A3 hjf hf Y5 hd=>
   ⟨_,H3,bX he hd,hf,λlg'=>⟨s3,hjf.imp (λh=>B.hJ (H:=H3) h (zA1 _) λ_ _=>rfl) (λh=>B.hF (H:=H3) h (zA1 _) λ_ _=>rfl),Y5⟩⟩
  have stop:ys.drop i=[]->i=ys.length:=λh=>by
   have:=congrArg List.length h;rw[List.length_drop,List.length_nil]at this;omega
  refine qW (zDe ai t8 t9 A0) ?_;refine qE λKx Ky hx hy=>?_;refine iy (λhc=>hx ?_) (λhc=>hy ?_)
  ·clear hx hy Kx Ky;have C0:i<us.length:=by omega
   obtain⟨id,g,off,cells,rfl,hid,hg,K0⟩:=j6.open (by omega)
   have ex:us[i]?=some us[i]:=zB4 C0;have N0:us.drop i=us[i]::us.drop (i+1):=List.drop_eq_getElem_cons C0;generalize us[i]=x at ex N0;have O0:=K0 i x ex;rw[N0,yv]at p9;refine qV ?_;refine R1.ba λK2 q1 q2 q3 q4=>?_;repeat refine R1.aF ?_
   refine qG (zDm ai t7 t9 A0 gT qR nX kN (ixC C0) hid hg (zDd O0.all O0.le dW)) λK hK=>?_;refine hK _ _ ?_;clear hK K;refine R1.gen (λA3 H3=>Gr H2 H3∧H2.nx<H3.nx∧H3.get H2.nx=some (.arr (prC x) 133 0 0)∧slot A3.tm 0=.one (.o (.yl L))∧slot A3.tm 3=.one (.i .i64 val)∧slot A3.tm 5=.one (.o (.ptr H2.nx 0 0 2))∧slot A3.tm 7=.one (.o (.sl id g off us.length 2))∧slot A3.tm 8=.one (.i .i64 (us.length:Int))∧slot A3.tm 9=.one (.i .i64 (i:Int))∧A3.nt=35∧A3.dfr=[])
    ⟨((Fr.refl _).new _).mod _ (.inl (zA1 _)),?_⟩ ?_
   ·exact qZ (zDi t0 t3 t7 t8 t9 A0 B0 dW)
   clear t0 t3 t7 t8 t9 A0 B0 A;rintro A H3 ⟨g3,n3,gx,t0,t3,t5,t7,t8,t9,A0,B0⟩;have hj3:B.J i s2 H3:=B.hJ hj2 g3.nx λk hk=>g3.get k hk zB2;have l_:Fr (B.fp s) H1 H3:=P'.gr g3;have B3:=zC0 i (by omega);repeat refine R1.aF ?_
   by_cases Z2:x.2<1
   ·have c1:(x.2<1)=True:=eq_true Z2;rw[zB0 (.inl Z2)]at p9;refine qG (zDj ai t5 A0 gx n3 bU bE dW c1) λK hK=>?_;refine hK _ _ ?_;clear hK K;refine qY ?_;refine qW A0 ?_;refine q4 _ _ (k4 _ _ (fin .ret (.inr rfl) s2 H3 _ (.inl (jend _ _ _ (stop p9) hj3)) l_ Y5 (qd B0)))
   have c1:(x.2<1)=False:=eq_false Z2;by_cases hb2:60<x.2
   ·have c2:(60<x.2)=True:=eq_true hb2;rw[zB0 (.inr (.inl hb2))]at p9;refine qG (zDk ai t5 A0 gx n3 bU bE dW c1 c2) λK hK=>?_;refine hK _ _ ?_;clear hK K;refine qY ?_;refine qW A0 ?_;refine q4 _ _ (k4 _ _ (fin .ret (.inr rfl) s2 H3 _ (.inl (jend _ _ _ (stop p9) hj3)) l_ Y5 (qd B0)))
   have c2:(60<x.2)=False:=eq_false hb2;have a_:1≤val*x.2:=by
    have:=Int.mul_le_mul G8 (by omega:1≤x.2) (by omega) (by omega);omega
   have hmul2:val*x.2≤1099511627776*60:=Int.mul_le_mul R6 (by omega) (by omega) (by omega);have hwm:IntKind.i64.wrap (val*x.2)=val*x.2:=aP (by omega) (by omega);refine qG (zDk ai t5 A0 gx n3 bU bE dW c1 c2) λK hK=>?_;refine hK _ _ ?_;clear hK K;refine qY ?_;refine R1.bA ?_;repeat refine R1.aF ?_
   refine qG (zDk ai t3 t5 A0 gx n3 bU bE dW hwm) λK hK=>?_;refine hK _ _ ?_;clear hK K;repeat refine R1.aF ?_
   by_cases hb3:1099511627776<val*x.2
   ·have c3:(1099511627776<val*x.2)=True:=eq_true hb3;rw[zB0 (.inr (.inr hb3))]at p9;refine qG (zDd ai A0 c3) λK hK=>?_;refine hK _ _ ?_;clear hK K;refine qY ?_;refine qW A0 ?_;refine q4 _ _ (k4 _ _ (fin .ret (.inr rfl) s2 H3 _ (.inl (jend _ _ _ (stop p9) hj3)) l_ Y5 (qd B0)))
   have c3:(1099511627776<val*x.2)=False:=eq_false hb3;rw[zB1 (by omega)]at p9;have hiy2:i<ys.length:=by
    rcases Nat.lt_or_ge i ys.length with h|h
    ·exact h
    rw[List.drop_eq_nil_of_le h]at p9;cases p9
   have hey:ys[i]?=some (x,val*x.2):=by
    rw[List.drop_eq_getElem_cons hiy2]at p9;rw[zB4 hiy2,(List.cons.inj p9).1]
   have hdy2:ys.drop (i+1)=yv (val*x.2) (us.drop (i+1)):=by
    rw[List.drop_eq_getElem_cons hiy2]at p9;exact(List.cons.inj p9).2
   have hp:=B.pass i s2 H3 hiy2 hj3;rw[Tl hey]at hp;refine qG (zDj ai t0 t5 A0 gx n3 qR c3 dW) λK hK=>?_;refine WE.YT hp λv H4 hf4⟨b,s3,hv,Z5,m6,z6⟩=>?_;subst hv;have hf34:Fr (B.fp s) H1 H4:=l_.then hf4 λk hk=>(Y5 k hk).symm;have hfp4:∀k,B.fp s3 k->B.fp s k∨H1.nx≤k:=λk hk=>by
    rcases z6 k hk with h|h
    ·exact Y5 k h
    exact .inr (zA2 l_.nx h)
   cases b with
   |false=>
    refine qS (qA ai A0) ?_;refine hK _ _ ?_;clear hK K;refine qY ?_;refine qW A0 ?_;refine q4 _ _ (k4 _ _ (fin .ret (.inr rfl) s3 H4 _ (.inr (m6 rfl)) hf34 hfp4 (qd B0)))
   |true=>
    refine qS (qA ai A0) ?_;refine hK _ _ ?_;clear hK K;refine qY ?_;refine qW A0 ?_;refine q1 _ _ ?_;refine qW (zDd A0 t9 B3) ?_;refine⟨us.length-(i+1),by omega,i+1,s3,val*x.2,rfl,C0,hiy2,hdy2,a_,by omega,Z5 rfl,hf34,hfp4,?_,?_,?_,?_,?_,?_,?_⟩
    ·simp only[ae,Nat.reduceEqDiff,reduceIte,t0]
    ·simp only[ae,Nat.reduceEqDiff,reduceIte]
    ·simp only[ae,Nat.reduceEqDiff,reduceIte,t7]
    ·simp only[ae,Nat.reduceEqDiff,reduceIte,t8]
    ·simp only[ae,Nat.reduceEqDiff,reduceIte]
    ·simp only[az,A0]
    simp only[al,B0]
  clear hx hy Kx Ky;have S1:i=us.length:=by omega
  rw[S1,List.drop_length,yv]at p9;refine qW A0 ?_;refine k2 _ _ ?_;refine fin .normal (.inl rfl) s2 H2 _ (.inl (jend _ _ _ (stop (by rw[S1];exact p9)) hj2)) P' Y5 (qd B0)
 all_goals simp only[ae,Nat.reduceEqDiff,reduceIte,h0,h1,az,al,and_self,true_and]
 all_goals first|rfl|exact⟨rfl,trivial⟩
def za(H:Hp)(n u:AC)(hu:ltV (.one u) H.nx):
  Con E2 64 [.agg [n,u]] H (λ_=>False) λr H'=>r=.one (.o (.clo 115 [(H.nx,0,0,2)]))∧H'.get H.nx=some (.arr [n,u] 51 0 0)∧H.nx<H'.nx:=by
 refine Con.of rfl λlg=>?_;have e0:H.nx=(⟨H.t,H.nx,lg⟩:Hp).nx:=rfl;rw[e0];clear e0;generalize(⟨H.t,H.nx,lg⟩:Hp)=H at hu ⊢
 refine C1.body (E:=E2) (nt:=4) (res:=[.tmp 2]) Tryz.func64 rfl rfl rfl rfl rfl λtm z0=>?_;have h0:=z0 0 _ rfl;clear z0;refine qW (qA ai h0) ?_;refine⟨_,_,aj (.o (.clo 115 [(H.nx,0,0,2)])) (.inr rfl) rfl qp,(Fr.refl _).new _,λ_=>⟨rfl,?_,?_⟩⟩
 ·exact aB (H:=H) (o:=.arr [n,u] 51 0 0) rfl
 exact zA6 _
def okU(us:List Pr)(i:Nat)(x:Pr):Bool:=nmB x.1&&!((us.take i).any λy=>y.1==x.1)&&((x.2==1)==((i:Int)==0))
def eL(n:List UInt8)(us:List Pr):Bool:=
 nmB n&&!((us.length:Int)==0)&&decide ((us.length:Int)≤12)&&decide ((yv 1 us).length=us.length)&&(List.range us.length).all λi=>okU us i (us.getD i ([],0))
def aH(n:List UInt8)(us:List Pr):Int:=if eL n us=true then 0 else 10
def Rz{n:List UInt8}{us:List Pr}{i:Nat}{x:Pr}(hx:us[i]?=some x)(h:okU us i x=false):eL n us=false:=by
 have C0:i<us.length:=by
  rcases Nat.lt_or_ge i us.length with h|h
  ·exact h
  rw[List.getElem?_eq_none h]at hx;cases hx
 have:((List.range us.length).all λi=>okU us i (us.getD i ([],0)))=false:=List.all_eq_false.2 ⟨i,List.mem_range.2 C0,by rw[List.getD_eq_getElem?_getD,hx];show¬okU us i x=true;rw[h];decide⟩;unfold eL;rw[this,Bool.and_false]
def hU(us:List Pr)(i:Nat):List (List UInt8×AC):=(us.take i).map λx=>(x.1,.b true)
def zf{us:List Pr}{i:Nat}(h:i≤us.length):(hU us i).length=i:=by
 unfold hU;rw[List.length_map,List.length_take];omega
def FH(us:List Pr)(i:Nat)(s:List UInt8):atK (hU us i) s=if(us.take i).any (λy=>y.1==s)=true then some (.b true)else none:=by
 unfold hU;induction us.take i with
 |nil=>rfl
 |cons x l ih=>
  show(if x.1=s then some (AC.b true)else atK (l.map λx=>(x.1,AC.b true)) s)=_
  rw[ih,List.any_cons];by_cases h:x.1=s
  ·rw[zB0 h,h,beq_self_eq_true,Bool.true_or,zB0 rfl]
  rw[zB1 h,zB5 h,Bool.false_or]
def Io{us:List Pr}{i:Nat}{x:Pr}(hx:us[i]?=some x):hU us (i+1)=hU us i++[(x.1,.b true)]:=by
 obtain⟨C0,rfl⟩:=List.getElem?_eq_some_iff.1 hx
 unfold hU;rw[List.take_succ_eq_append_getElem C0,List.map_append];rfl
def Rk{H:Hp}{m:Nat}{us:List Pr}{i:Nat}{x:Pr}(hg:H.get m=some (gW (hU us i)))(hx:us[i]?=some x)(hs:((us.take i).any λy=>y.1==x.1)=false):
  aU Tryz.prog H 9 (.one (.o (.mp m))) (.one (.o (.str x.1))) (.one (.b true))=.val aD (H.mod m (gW (hU us (i+1)))):=by
 rw[Io hx];exact wX Ci hg (by rw[FH,hs];rfl)
def bR(t:PT AV)(d i:Nat)(v:AV):slot (t.set d v) i=if i=d then v else slot t i:=by
 unfold slot;rw[PT.dv];by_cases h:i=d
 ·rw[zB0 h,zB0 h];rfl
 rw[zB1 h,zB1 h]
def ze{H:Hp}{m:Nat}{us:List Pr}{i:Nat}{s:List UInt8}(hg:H.get m=some (gW (hU us i))):
  aX Tryz.prog H 9 (.one (.b false)) (.one (.o (.mp m))) (.one (.o (.str s))) false=.val (.one (.b ((us.take i).any λy=>y.1==s))) H:=by
 rw[vP Ci hg,FH];cases(us.take i).any (λy=>y.1==s)<;>rfl
def mZ(H:Hp)(b:Bool)(e:Int):Con E2 62 [.one (.b b),.one (.i .i64 e)] H (λ_=>False) λr _=>r=.one (.i .i64 (if b=true then 0 else e)):=by
 refine Con.of rfl λlg=>?_;generalize(⟨H.t,H.nx,lg⟩:Hp)=H
 refine C1.body (E:=E2) (nt:=7) (res:=[.tmp 4]) Tryz.func62 rfl rfl rfl rfl rfl λtm z0=>?_;have h0:=z0 0 _ rfl;have h1:=z0 1 _ rfl;clear z0;cases b with
 |true=>
  refine qW (zDd ai h0 h1) ?_;refine qY ?_;refine qV ?_;exact⟨_,_,aj (.i .i64 0) (.inr rfl) rfl qp,Fr.refl _,λ_=>rfl⟩
 |false=>
  refine qW (zDd ai h0 h1) ?_;refine qY ?_;refine qW h1 ?_;exact⟨_,_,aj (.i .i64 e) (.inr rfl) rfl qp,Fr.refl _,λ_=>rfl⟩
def rS(H:Hp)(n:List UInt8)(u:AC)(us:List Pr)(hu:SlP H u us):
  Con E2 39 [.agg [.o (.str n),u]] H (λ_=>False) λr _=>r=.one (.i .i64 (aH n us)):=by
 refine Con.of rfl λlg=>?_;have hu:SlP ⟨H.t,H.nx,lg⟩ u us:=hu;generalize(⟨H.t,H.nx,lg⟩:Hp)=H at hu ⊢
 refine C1.body (E:=E2) (nt:=55) (res:=[.cell 2 35]) Tryz.func39 rfl rfl rfl rfl rfl λtm z0=>?_;have h0:=z0 0 _ rfl;clear z0;refine qG (zDd ai h0 rD) λK hK=>?_;refine hK _ _ ?_;clear hK K;have U2:∀id∈(AV.one u).ids,id<H.nx:=hu.lt;refine R1.gen (λA1 H1=>Gr H H1∧H.nx+1<H1.nx∧H1.get H.nx=some (.arr [.o (.str n),u] 51 0 0)∧H1.get (H.nx+1)=some (.arr [.i .i64 0] 35 0 0)∧slot A1.tm 1=.one (.o (.ptr H.nx 0 0 2))∧slot A1.tm 2=.one (.o (.ptr (H.nx+1) 0 0 1))∧A1.nt=55∧A1.dfr=[])
  ⟨((Fr.refl _).new _).new _,?_⟩ ?_
 ·exact qU
 rintro A1 H1 ⟨g1,n1,r1,r2,t1,t2,A0,B0⟩;clear h0 tm;have X1:SlP H1 u us:=hu.gr g1;obtain⟨c1,E8⟩:∃c,c=H.nx:=⟨_,rfl⟩
 obtain⟨c2,N7⟩:∃c,c=H.nx+1:=⟨_,rfl⟩
 have h12:c1<c2:=by omega
 have X3:H.nx≤c1:=by omega
 rw[<-E8]at r1 t1 U2;rw[<-N7]at r2 t2 n1;have l1:c1<H1.nx:=by omega
 have fin:∀(e:ak)(A:aa)(H2 H3:Hp)(v:Int),(e=.normal∨e=.ret)->closeAll H2 A.dfr=some H3->Gr H H3->slot A.tm 2=.one (.o (.ptr c2 0 0 1))->H3.get c2=some (.arr [.i .i64 v] 35 0 0)->v=aH n us ->
   ∃w H4,aC E2 [.cell 2 35] (e,A,H2)=.ok [(w,H4)]∧Gr H H4∧∀_:List Nat,w=.one (.i .i64 (aH n us)):=λe A H2 H3 v he hd hg hs hr hv=>
  ⟨_,H3,pF (c:=.i .i64 v) qz he hd hs (by rw[hr];exact cG (zA1 _) (zA1 _)) (zA1 _) (zA1 _) rfl,hg,λ_=>by rw[hv]⟩
 repeat refine R1.aF ?_
 refine qG (zDi ai t1 A0 r1 l1 eS bC kE) λK hK=>?_;refine WE.dQ (mq n) λH2 g2 n2 e2=>?_;have r1:H2.get c1=some (.arr [.o (.str n),u] 51 0 0):=(e2 c1).trans r1;have r2:H2.get c2=some (.arr [.i .i64 0] 35 0 0):=(e2 c2).trans r2;rw[<-n2]at l1 n1;have j6:SlP H2 u us:=X1.gr g2;have g2:Gr H H2:=g1.gr g2;clear g1 e2 n2 X1;have bad:∀(A:aa),slot A.tm 2=.one (.o (.ptr c2 0 0 1))->A.nt=55->A.dfr=[]->aH n us=10->∃w H4,aC E2 [.cell 2 35] (.ret,A,H2.mod c2 (.arr [.i .i64 10] 35 0 0))=.ok [(w,H4)]∧Gr H H4∧∀_:List Nat,w=.one (.i .i64 (aH n us)):=λA hs hn hd hv=>
  fin .ret A _ _ 10 (.inr rfl) (by rw[hd];rfl) (g2.mod _ (.inl (by omega))) hs (an rfl) hv.symm
 cases h_:nmB n with
 |false=>
  refine qS (zDd ai t1 A0) ?_;refine hK _ _ ?_;clear hK K;refine qY ?_;refine qW (zDg ai t2 A0 dJ r2 n1) ?_;exact bad _ (by simp only[ae,Nat.reduceEqDiff,reduceIte,t2]) (by simp only[az,A0]) (qd B0) (by unfold aH eL;rw[h_];rfl)
 |true=>
  cases hz:((us.length:Int)==0)with
  |true=>
   refine qS (zDl ai t1 A0 r1 l1 bY bZ dq j6.len j6.lt hz) ?_;refine hK _ _ ?_;clear hK K;refine qY ?_;refine qW (zDg ai t2 A0 dJ r2 n1) ?_;exact bad _ (by simp only[ae,Nat.reduceEqDiff,reduceIte,t2]) (by simp only[az,A0]) (qd B0) (by unfold aH eL;rw[hz];simp only[Bool.not_true,Bool.and_false,Bool.false_and,Bool.false_eq_true,if_false])
  |false=>
   by_cases h12':(12:Int)<us.length
   ·have c12:((12:Int)<us.length)=True:=eq_true h12';refine qS (zDm ai t1 A0 r1 l1 bY bZ dq j6.len j6.lt hz c12) ?_;refine hK _ _ ?_;clear hK K;refine qY ?_;refine qW (zDg ai t2 A0 dJ r2 n1) ?_;exact bad _ (by simp only[ae,Nat.reduceEqDiff,reduceIte,t2]) (by simp only[az,A0]) (qd B0) (by unfold aH eL;rw[decide_eq_false (by omega:¬(us.length:Int)≤12)];simp only[Bool.and_false,Bool.false_and,Bool.false_eq_true,if_false])
   have c12:((12:Int)<us.length)=False:=eq_false h12';refine qS (zDm ai t1 A0 r1 l1 bY bZ dq j6.len j6.lt hz c12) ?_;refine hK _ _ ?_;clear hK K;refine qE λKx Ky hx hy=>?_;refine hy ?_;clear hx hy Kx Ky bad;refine R1.bA ?_;repeat refine R1.aF ?_
   refine qG (zDe ai A0 IP IQ) λK hK=>?_;refine hK _ _ ?_;clear hK K;refine R1.gen (λA3 H3=>Gr H H3∧H3.nx=H2.nx+2∧H3.get c1=some (.arr [.o (.str n),u] 51 0 0)∧H3.get c2=some (.arr [.i .i64 0] 35 0 0)∧H3.get H2.nx=some (gW (hU us 0))∧H3.get (H2.nx+1)=some (.arr [.o (.mp H2.nx)] 150 0 0) ∧
    slot A3.tm 1=.one (.o (.ptr c1 0 0 2))∧slot A3.tm 2=.one (.o (.ptr c2 0 0 1))∧slot A3.tm 3=.one (.o (.ptr (H2.nx+1) 0 0 1))∧A3.nt=55∧A3.dfr=[])
    ⟨((g2.new _).new _).mod _ (.inl (by have:=g2.nx;omega)),rfl,?_,?_,?_,?_,?_⟩ ?_
   ·rw[au (by omega),aS (by rw[ti];omega),aS l1];exact r1
   ·rw[au (by omega),aS (by rw[ti];omega),aS n1];exact r2
   ·rw[au (by omega),aS (by rw[ti];omega),aB rfl];rfl
   ·exact an rfl
   ·simp only[qB,aK,Nat.reduceLT,Nat.reduceEqDiff,Nat.reduceLeDiff,reduceIte,Nat.reduceAdd,Nat.reduceSub,Nat.reduceMul,Int.reduceLT,Int.reduceLE,Int.reduceBEq,t1,t2,A0,B0,and_self]
   rintro A H3 ⟨g3,n3,q1,q2,qm,q3,t1,t2,t3,A0,B0⟩;have g_:SlP H3 u us:=hu.gr g3;obtain⟨m,hm⟩:∃m,m=H2.nx:=⟨_,rfl⟩
   obtain⟨c3,N6⟩:∃c,c=H2.nx+1:=⟨_,rfl⟩
   rw[<-N6]at q3 t3;rw[<-hm]at qm q3;have o1:c2<m:=by omega
   have o2:m<c3:=by omega
   have o3:c3<H3.nx:=by omega
   clear hm N6 n3 r1 r2 j6 l1 n1;have l1:c1<H3.nx:=by omega
   repeat refine R1.aF ?_
   refine qG (zDh ai t1 A0 q1 l1 eP GF) λK hK=>?_;refine WE.con (za H3 (.o (.str n)) u g_.lt) λv H5 g5⟨hv,C4,J8⟩=>?_;subst hv;refine qS (qA ai A0) ?_;refine hK _ _ ?_;clear hK K;refine R1.jw (λA4=>slot A4.tm 1=.one (.o (.ptr c1 0 0 2))∧slot A4.tm 2=.one (.o (.ptr c2 0 0 1))∧slot A4.tm 3=.one (.o (.ptr c3 0 0 1))∧slot A4.tm 23=.one (.o (.clo 115 [(H3.nx,0,0,2)]))∧A4.nt=55∧A4.dfr=[])
    ⟨by simp only[ae,Nat.reduceEqDiff,reduceIte,t1],by simp only[ae,Nat.reduceEqDiff,reduceIte,t2],by simp only[ae,Nat.reduceEqDiff,reduceIte,t3],by simp only[ae,Nat.reduceEqDiff,reduceIte],by simp only[az,A0],by simp only[al,B0]⟩ ?_
   clear t1 t2 t3 A0 B0 A;rintro A ⟨t1,t2,t3,t23,A0,B0⟩;have gg:Gr H H5:=g3.gr g5;have q1:H5.get c1=some (.arr [.o (.str n),u] 51 0 0):=by rw[g5.get _ l1 zB2];exact q1
   have q2:H5.get c2=some (.arr [.i .i64 0] 35 0 0):=by rw[g5.get _ (by omega) zB2];exact q2
   have q3:H5.get c3=some (.arr [.o (.mp m)] 150 0 0):=by rw[g5.get _ o3 zB2];exact q3
   have qm:H5.get m=some (gW (hU us 0)):=by rw[g5.get _ (by omega) zB2];exact qm
   have W4:SlP H5 u us:=g_.gr g5;have o4:c3<H5.nx:=zA0 o3 g5.nx;have l3:c1<H3.nx:=l1;obtain⟨il,Q8⟩:∃i,i=H3.nx:=⟨_,rfl⟩
   rw[<-Q8]at C4 J8 t23 o3 l3;clear Q8 l1;generalize x9:yv 1 us=ys;have Z9:ys.length≤us.length:=by rw[<-x9];exact BH 1 us
   have husL:us.length≤12:=by omega
   refine R1.ba λK k1 k2 k3 k4=>?_;refine R1.range (σ:=Unit) (g:=115) (caps:=[(il,0,0,2)]) (n:=ys.length) (ar:=yA ys) (D:=DL il u) (by simp only[zY,t23]) AS (λ_=>rfl)
    (AU H5 il (.o (.str n)) u us J8 C4 W4 (by omega) ys x9) (λk hk=>by
     rcases hk with h|h
     ·omega
     exact Nat.lt_trans (U2 k h) (by omega)) (by rw[A0];rfl) (λi _=>RK ys i)
    (λi _ H6=>H6.get m=some (gW (hU us i))∧H6.get c3=some (.arr [.o (.mp m)] 150 0 0)∧H6.get c2=some (.arr [.i .i64 0] 35 0 0)∧(∀j,j<i->okU us j (us.getD j ([],0))=true)∧H5.nx≤H6.nx)
    (λe _ H6=>e=.ret∧H6.get c2=some (.arr [.i .i64 10] 35 0 0)∧eL n us=false∧H5.nx≤H6.nx)
    (λ_ k=>k=m∨k=c2) ?_ ?_ ?_ () ?_ ?_ ?_ ?_
   ·rintro i s H6 H7 ⟨a1,a2,a3,a4,a5⟩ hs;exact⟨by rw[hs.get _ (by omega) (by omega)];exact a1,by rw[hs.get _ (by omega) (by omega)];exact a2,by rw[hs.get _ (by omega) (by omega)];exact a3,a4,zA2 a5 hs.nx⟩
   ·rintro e s H6 H7 ⟨a1,a2,a3,a5⟩ hs;exact⟨a1,by rw[hs.get _ (by omega) (by omega)];exact a2,a3,zA2 a5 hs.nx⟩
   ·rintro i s H6 k ⟨a1,a2,a3,a4,a5⟩ hk;have:k<H5.nx∧c1<k∧k<il:=by rcases hk with rfl|rfl<;>omega
    refine⟨by omega,by omega,by omega,λh=>?_⟩
    rcases h with h|h
    ·omega
    have:=U2 k h;omega
   ·intro H6 g6 n6;exact⟨by rw[g6.get _ (by omega) zB2];exact qm,by rw[g6.get _ o4 zB2];exact q3,by rw[g6.get _ (by omega) zB2];exact q2,λj hj=>absurd hj (Nat.not_lt_zero j),g6.nx⟩
   ·rintro i _ H6 hi ⟨a1,a2,a3,a4,a5⟩ n6;have hy:ys[i]?=some ys[i]:=zB4 hi;generalize ys[i]=y at hy;have X2:us[i]?=some y.1:=Rv 1 us i y (by rw[x9];exact hy);rw[Tl hy];obtain⟨x,yval⟩:=y
    have X2:us[i]?=some x:=X2;refine R1.jw (λA7=>slot A7.tm 1=.one (.o (.ptr c1 0 0 2))∧slot A7.tm 2=.one (.o (.ptr c2 0 0 1))∧slot A7.tm 3=.one (.o (.ptr c3 0 0 1))∧slot A7.tm 24=.agg (prC x)∧A7.nt=55∧A7.dfr=[]) ⟨?_,?_,?_,?_,A0,rfl⟩ ?_
    ·show slot ((A.tm.set 24 _).set 25 _) 1=_;simp only[bR,Nat.reduceEqDiff,reduceIte,t1]
    ·show slot ((A.tm.set 24 _).set 25 _) 2=_;simp only[bR,Nat.reduceEqDiff,reduceIte,t2]
    ·show slot ((A.tm.set 24 _).set 25 _) 3=_;simp only[bR,Nat.reduceEqDiff,reduceIte,t3]
    ·show slot ((A.tm.set 24 _).set 25 _) 24=_;simp only[bR,Nat.reduceEqDiff,reduceIte]
    rintro A7 ⟨u1,u2,u3,u24,unt,udf⟩;refine qG (zDg ai u24 unt kN nX dW) λK hK=>?_;refine hK _ _ ?_;clear hK K;refine⟨rfl,((Fr.refl _).new _).mod _ (.inl (zA1 _)),λH8 n8 s8=>?_⟩
    have gu:H8.get H6.nx=some (.arr (prC x) 133 0 0):=by
     rw[s8.get _ (by show H6.nx<H6.nx+1;omega) (by omega)];exact an rfl
    have keep:∀k,k<H5.nx->H8.get k=H6.get k:=λk hk=>by
     rw[s8.get _ (by show k<H6.nx+1;omega) (by omega),au (by omega),aS (by omega)]
    have n8':H8.nx=H6.nx+1:=n8;have b1:H8.get m=some (gW (hU us i)):=(keep m (by omega)).trans a1;have b3:H8.get c3=some (.arr [.o (.mp m)] 150 0 0):=(keep c3 o4).trans a2;have b2:H8.get c2=some (.arr [.i .i64 0] 35 0 0):=(keep c2 (by omega)).trans a3;have lu:H6.nx<H8.nx:=by omega
    clear keep n8 n8' s8 a1 a2 a3;refine R1.kX λK2 p1 p2 p3 p4=>?_;repeat refine R1.aF ?_
    refine qG (zDi ai unt gu lu bJ bC dW kE) λK hK=>?_;refine WE.dQ (mq x.1) λH9 g9 n9 e9=>?_;have gu:H9.get H6.nx=some (.arr (prC x) 133 0 0):=(e9 _).trans gu;have b1:H9.get m=some (gW (hU us i)):=(e9 m).trans b1;have b3:H9.get c3=some (.arr [.o (.mp m)] 150 0 0):=(e9 c3).trans b3;have b2:H9.get c2=some (.arr [.i .i64 0] 35 0 0):=(e9 c2).trans b2;rw[<-n9]at lu;have n59:H5.nx≤H9.nx:=by omega
    have lc2:c2<H9.nx:=by omega
    have lc3:c3<H9.nx:=by omega
    have lm:m<H9.nx:=by omega
    have bad:∀(e:ak)(A2:aa),e=.ret->A2.dfr=[]->okU us i x=false->A2.dfr=[]∧Fr (λk=>(k=m∨k=c2)∨H6.nx≤k) H8 (H9.mod c2 (.arr [.i .i64 10] 35 0 0))∧∃s':Unit,
      (e=ak.normal->(H9.mod c2 (.arr [.i .i64 10] 35 0 0)).get m=some (gW (hU us (i+1)))∧(H9.mod c2 (.arr [.i .i64 10] 35 0 0)).get c3=some (.arr [.o (.mp m)] 150 0 0)∧(H9.mod c2 (.arr [.i .i64 10] 35 0 0)).get c2=some (.arr [.i .i64 0] 35 0 0)∧(∀(j:Nat),j<i+1->okU us j (us.getD j ([],0))=true)∧H5.nx≤(H9.mod c2 (.arr [.i .i64 10] 35 0 0)).nx) ∧
      (e≠ak.normal->e=ak.ret∧(H9.mod c2 (.arr [.i .i64 10] 35 0 0)).get c2=some (.arr [.i .i64 10] 35 0 0)∧eL n us=false∧H5.nx≤(H9.mod c2 (.arr [.i .i64 10] 35 0 0)).nx) ∧
      ∀(k:Nat),k=m∨k=c2->(k=m∨k=c2)∨H6.nx≤k:=λe A2 he hd hb=>
     ⟨hd,(g9.none).mod _ (.inr (.inl (.inr rfl))),(),λh=>(by rw[he]at h;cases h),λ_=>⟨he,an rfl,Rz X2 hb,n59⟩,λk hk=>.inl hk⟩
    cases hq:nmB x.1 with
    |false=>
     refine qS (qA ai unt) ?_;refine hK _ _ ?_;clear hK K;refine qY ?_;refine qW (zDg ai u2 unt dJ b2 lc2) ?_;exact p4 _ _ (bad _ _ rfl (by simp only[al,udf]) (by unfold okU;rw[hq];rfl))
    |true=>
     cases S7:((us.take i).any λy=>y.1==x.1)with
     |true=>
      simp only[qB,aK,Nat.reduceLT,Nat.reduceEqDiff,Nat.reduceLeDiff,reduceIte,Nat.reduceAdd,Nat.reduceSub,Nat.reduceMul,Int.reduceLT,Int.reduceLE,Int.reduceBEq,ai,u3,unt,b3,lc3,gu,lu,rP,uU,fJ,ze b1,lm,bJ,bC,prC,S7];refine hK _ _ ?_;clear hK K;refine qY ?_;refine qW (zDg ai u2 unt dJ b2 lc2) ?_;exact p4 _ _ (bad _ _ rfl (by simp only[al,udf]) (by unfold okU;rw[S7,Bool.not_true,Bool.and_false,Bool.false_and]))
     |false=>
      have hlm:cW H9 2 (.one (.o (.mp m)))=.val (.one (.i .i64 (i:Int))) H9:=by
       rw[Tt b1,zf (by have:=BH 1 us;rw[x9]at this;omega)]
      simp only[qB,aK,Nat.reduceLT,Nat.reduceEqDiff,Nat.reduceLeDiff,reduceIte,Nat.reduceAdd,Nat.reduceSub,Nat.reduceMul,Int.reduceLT,Int.reduceLE,Int.reduceBEq,ai,u3,unt,b3,lc3,gu,lu,rP,uU,fJ,ze b1,lm,bJ,bU,bC,bE,prC,S7,Bt,hlm,II Wb];refine hK _ _ ?_;clear hK K;refine qE λKx Ky hx hy=>?_;refine iy (λhd=>hx ?_) (λhd=>hy ?_)
      ·clear hx hy Kx Ky;refine qW (zDg ai u2 unt dJ b2 lc2) ?_;exact p4 _ _ (bad _ _ rfl (by simp only[al,udf]) (by unfold okU;rw[hq,S7];simpa using hd))
      clear hx hy Kx Ky bad;have D0:okU us i x=true:=by unfold okU;rw[hq,S7];simpa using hd
      refine R1.bA ?_;refine R1.Ik λK hK=>?_;simp only[qB,aK,Nat.reduceLT,Nat.reduceEqDiff,Nat.reduceLeDiff,reduceIte,Nat.reduceAdd,Nat.reduceSub,Nat.reduceMul,Int.reduceLT,Int.reduceLE,Int.reduceBEq,ai,u3,unt,b3,lc3,gu,lu,rP,uU,bJ,bC,prC,lm,Rk b1 X2 S7];refine hK _ _ ?_;clear hK K;refine p1 _ _ ⟨by simp only[al,udf],(g9.none).mod _ (.inr (.inl (.inl rfl))),(),λ_=>⟨an rfl,?_,?_,λj hj=>?_,n59⟩,λh=>absurd rfl h,λk hk=>.inl hk⟩
      ·rw[au (by omega)];exact b3
      ·rw[au (by omega)];exact b2
      rcases Nat.lt_or_ge j i with h|h
      ·exact a4 j h
      have:j=i:=by omega
      subst this;rw[List.getD_eq_getElem?_getD,X2];exact D0
   ·rintro s' H6 ⟨a1,a2,a3,a4,a5⟩ n6 n_ D8 Y5;have g6:Gr H H6:=gg.then D8 λk hk=>.inl (by rcases hk with rfl|rfl<;>omega);have q1:H6.get c1=some (.arr [.o (.str n),u] 51 0 0):=by rw[D8.get _ (by omega) (λh=>by rcases h with h|h<;>omega)];exact q1
    have A6:SlP H6 u us:=hu.gr g6;have hlm:cW H6 2 (.one (.o (.mp m)))=.val (.one (.i .i64 (ys.length:Int))) H6:=by
     rw[Tt a1,zf Z9]
    have lc1:c1<H6.nx:=by omega
    have lc2:c2<H6.nx:=by omega
    have lc3:c3<H6.nx:=by omega
    have lm:m<H6.nx:=by omega
    refine k1 _ _ ?_;refine R1.jw (λA7=>slot A7.tm 1=.one (.o (.ptr c1 0 0 2))∧slot A7.tm 2=.one (.o (.ptr c2 0 0 1))∧slot A7.tm 3=.one (.o (.ptr c3 0 0 1))∧A7.nt=55∧A7.dfr=[H5.nx]) ⟨t1,t2,t3,A0,by show H5.nx::A.dfr=_;rw[B0]⟩ ?_;rintro A7 ⟨u1,u2,u3,unt,udf⟩;refine qG (zDm ai u1 u3 unt a2 lc3 lc1 lm q1 bY bZ (zDh dq rP Bt hlm A6.len A6.lt pv)) λK hK=>?_;refine WE.con (mZ H6 _ 10) λv H7 g7 hv=>?_;subst hv;have b2:H7.get c2=some (.arr [.i .i64 0] 35 0 0):=by rw[g7.get _ lc2 zB2];exact a3
    have lc2:c2<H7.nx:=zA0 lc2 g7.nx;have hd7:H7.get H5.nx=some (.oth (.dfr true)):=by rw[g7.get _ (by omega) zB2];exact n_
    have g67:Gr H H7:=g6.gr g7;refine qS (zDg ai u2 unt dJ b2 lc2) ?_;refine hK _ _ ?_;clear hK K;refine qV ?_;refine fin .ret _ _ _ _ (.inr rfl) (by simp only[al,udf];exact eG (by rw[au (by omega)];exact hd7)) ((g67.mod _ (.inl (by omega))).mod _ (.inl (by have:=gg.nx;omega))) (by simp only[ae,Nat.reduceEqDiff,reduceIte,u2]) (by rw[au (by omega)];exact an rfl) ?_;unfold aH;by_cases hlen:(ys.length:Int)=us.length
    ·have Z1:eL n us=true:=by
      unfold eL;rw[h_,hz,x9,decide_eq_true (by omega:(us.length:Int)≤12),decide_eq_true (by omega:ys.length=us.length)];simp only[Bool.not_false,Bool.true_and,List.all_eq_true];intro j hj;exact a4 j (by have:=List.mem_range.1 hj;omega)
     rw[Z1,hlen,beq_self_eq_true]
    have Z1:eL n us=false:=by
     unfold eL;rw[x9,decide_eq_false (by omega:¬ys.length=us.length),Bool.and_false,Bool.false_and]
    rw[Z1,zB5 hlen]
   rintro e s' H6 Z0 ⟨rfl,a2,a3,a5⟩ n6 n_ D8 Y5;have g6:Gr H H6:=gg.then D8 λk hk=>.inl (by rcases hk with rfl|rfl<;>omega);refine k4 _ _ (fin .ret _ _ _ 10 (.inr rfl) (by show closeAll H6 (H5.nx::A.dfr)=_;rw[B0];exact eG n_) (g6.mod _ (.inl (by have:=gg.nx;omega))) t2 (by rw[au (by omega)];exact a2) ?_);unfold aH;rw[a3];rfl
def Bb:ao Tryz.prog 38=true:=by kernel_rfl
def ot{E:Env}{s:Tmp}{t:TypeId}{n:Nat}{A:aa}{H H2:Hp}{e:ak}{id g lim:Nat}{cells:List AC}(ht:loadT E.P t=some (true,n))(he:e=.normal∨e=.ret)(hd:closeAll H A.dfr=some H2)(hs:slot A.tm s=.one (.o (.ptr id g 0 lim)))
  (hg:rowOf (H2.get id) g=some cells) (hl:n≤lim) (ho:cells.length=n):aC E [.cell s t] (e,A,H)=.ok [(.agg cells,H2)]:=by
 have key:(aw (closeAll H A.dfr) (R.bad "marks") λh2=>aw (bQ E.P [.cell s t] A.tm h2) (.bad "results") λl=>.ok [(dU l,h2)])=.ok [(.agg cells,H2)]:=by
  rw[hd];have e1:jM E.P (.cell s t) A.tm H2=some (true,cells):=by
   have e0:jM E.P (.cell s t)=match loadT E.P t with
     |some p=>λtm h=>aw (tm.get s) none λv=>ab.rec (motive:=λ_=>Option (Bool×List AC)) (λv _=>iZ v) (λ_=>none) (λ_ _=>none) (λ_ _=>none) (λ_=>none) (cH h p.1 p.2 v)
     |none=>λ_ _=>none:=rfl
   rw[e0,ht];show aw (A.tm.get s) none (λv=>ab.rec (motive:=λ_=>Option (Bool×List AC)) (λv _=>iZ v) (λ_=>none) (λ_ _=>none) (λ_ _=>none) (λ_=>none) (cH H2 true n v))=_;rw[IN hs];show ab.rec (motive:=λ_=>Option (Bool×List AC)) (λv _=>iZ v) (λ_=>none) (λ_ _=>none) (λ_ _=>none) (λ_=>none) (cH H2 true n (.one (.o (.ptr id g 0 lim))))=_;rw[gy,hg,tZ hl (by omega),List.drop_zero,List.take_of_length_le (by omega)];rfl
  have hr:bQ E.P [.cell s t] A.tm H2=some [(true,cells)]:=by
   show aw (jM E.P (.cell s t) A.tm H2) none (λx=>aw (some []) none λl=>some (x::l))=_;rw[e1];rfl
  show aw (bQ E.P [.cell s t] A.tm H2) (R.bad "results") (λl=>R.ok [(dU l,H2)])=_
  rw[hr];rfl
 rcases he with rfl|rfl
 ·exact key
 exact key
def vw(H:Hp)(n:List UInt8)(u:AC)(us:List Pr)(hu:SlP H u us)(hL:us.length≤1000000):
  Con E2 38 [.agg [.o (.str n),u]] H (λ_=>False) λr H'=>∃u',r=.agg [.o (.str n),u']∧SlP H' u' us∧∀id∈(AV.one u').ids,H.nx≤id:=by
 refine Con.of rfl λlg=>?_;have hu:SlP ⟨H.t,H.nx,lg⟩ u us:=hu;have e0:H.nx=(⟨H.t,H.nx,lg⟩:Hp).nx:=rfl;rw[e0];clear e0;generalize(⟨H.t,H.nx,lg⟩:Hp)=H at hu ⊢
 refine C1.body (E:=E2) (nt:=9) (res:=[.cell 2 51]) Tryz.func38 rfl rfl rfl rfl rfl λtm z0=>?_;have h0:=z0 0 _ rfl;clear z0;refine qG (zDd ai h0 fh) λK hK=>?_;refine hK _ _ ?_;clear hK K;refine R1.gen (λA1 H1=>Gr H H1∧H.nx+1<H1.nx∧H1.get H.nx=some (.arr [.o (.str n),u] 51 0 0)∧H1.get (H.nx+1)=some (.arr [.o (.str []),.o .nilS] 51 0 0)∧slot A1.tm 1=.one (.o (.ptr H.nx 0 0 2))∧slot A1.tm 2=.one (.o (.ptr (H.nx+1) 0 0 2))∧A1.nt=9∧A1.dfr=[])
  ⟨((Fr.refl _).new _).new _,?_⟩ ?_
 ·exact qU
 rintro A1 H1 ⟨g1,n1,r1,r2,t1,t2,A0,B0⟩;clear h0 tm;have X1:SlP H1 u us:=hu.gr g1;have l1:H.nx<H1.nx:=by omega
 have hlu:ltV (.one u) H1.nx:=X1.lt;obtain⟨z,hz,B2⟩:=Ma
 obtain⟨v,H2,Q2,hv,hvn,g2⟩:=MD gT LO hz B2 (by decide) X1 (by omega)
 clear hz B2 z;have r2:H2.get (H.nx+1)=some (.arr [.o (.str []),.o .nilS] 51 0 0):=by rw[g2.get _ n1 zB2];exact r2
 have n2:H.nx+1<H2.nx:=zA0 n1 g2.nx;have m9:FrL H1.nx H1 H2:=FrL.of g2 λ_ h=>h.elim;have hv3:SlP (H2.mod (H.nx+1) (.arr [.o (.str n),v] 51 0 0)) v us:=SlC.fr hv (X:=λk=>k=H.nx+1) ((Fr.refl _).mod _ (.inr rfl)) λid h hh=>by have:=hvn id h;omega
 have hv4:∀id∈(AV.one v).ids,H.nx≤id:=λid h=>by have:=hvn id h;omega
 clear hvn;replace hv3:Hd _:=hv3;replace hv4:Hd _:=hv4;refine R1.s_q 6 (by kernel_rfl) λK hK=>?_;refine zQ (zDk ai eS bY bC bZ fh sE qK qf jC) ?_;refine hK.out _ _ ?_;refine qV ?_;exact⟨_,_,ot (id:=H.nx+1) (g:=0) eP (.inr rfl) (by simp only[al,B0];rfl) (by simp only[ae,Nat.reduceEqDiff,reduceIte,t2]) (by rw[an rfl];exact cG (zA1 _) (zA1 _)) (zA1 _) rfl,(g1.gr g2).mod _ (.inl (Nat.le_succ _)),λ_=>⟨v,rfl,hv3.out,hv4.out⟩⟩
abbrev Lad:=List UInt8×List Pr
def qh(H:Hp)(c:List AC)(x:Lad):Prop:=∃u,c=[.o (.str x.1),u]∧SlP H u x.2
def qh.gr{H H':Hp}{c:List AC}{x:Lad}(h:qh H c x)(hg:Gr H H'):qh H' c x:=let ⟨u,h1,h2⟩:=h;⟨u,h1,h2.gr hg⟩
def eM(H:Hp)(v:AC)(ls:List Lad):Prop:=SlR qh 2 H v ls
def eM.gr{H H':Hp}{v:AC}{ls:List Lad}(h:eM H v ls)(hg:Gr H H'):eM H' v ls:=SlR.dG h hg.nx (λi hi=>hg.get i hi zB2) λ_ _ h=>h.gr hg
def eM.len{H:Hp}{v:AC}{l:List Lad}(h:eM H v l):cW H 1 (.one v)=.val (.one (.i .i64 (l.length:Int))) H:=SlR.len h
def eM.lt{H:Hp}{v:AC}{l:List Lad}(h:eM H v l):ltV (.one v) H.nx:=SlR.lt h
def eM.open{H:Hp}{v:AC}{l:List Lad}(h:eM H v l)(hn:0<l.length):∃id g off cells,v=.o (.sl id g off l.length 2)∧id<H.nx∧rowOf (H.get id) g=some cells ∧
  ∀(i:Nat)(x:Lad),l[i]?=some x->∃u,SlP H u x.2∧(cells.drop (off+i*2)).take 2=[.o (.str x.1),u]∧off+i*2+2≤cells.length∧off+i*2+1≤cells.length∧off+i*2+1+1≤cells.length ∧
   (cells.drop (off+i*2)).headD (.b false)=.o (.str x.1)∧(cells.drop (off+i*2+1)).headD (.b false)=u:=by
 obtain⟨id,g,off,cells,e1,hid,hg,K0⟩:=SlR.open h hn
 refine⟨id,g,off,cells,e1,hid,hg,λi x hx=>?_⟩
 obtain⟨hle,c,hc,J1,u,rfl,hu⟩:=K0 i x hx
 refine⟨u,hu,hc,hle,by omega,by omega,?_,?_⟩
 ·cases hd:cells.drop (off+i*2)with
  |nil=>rw[hd]at hc;cases hc
  |cons a r=>
   rw[hd]at hc;cases r with
   |nil=>cases hc
   |cons b r=>cases hc;rfl
 rw[<-List.drop_drop];cases hd:cells.drop (off+i*2)with
 |nil=>rw[hd]at hc;cases hc
 |cons a r=>
  rw[hd]at hc;cases r with
  |nil=>cases hc
  |cons b r=>cases hc;rfl
def plN:Nat->List Lad->List (List UInt8×AC)
 |_,[]=>[]
 |n,x::ls=>(x.1,.i .i64 (n:Int))::plN (n+1) ls
def gN:Nat->List Lad->List UInt8->Option Nat
 |_,[],_=>none
 |n,x::ls,s=>if x.1=s then some n else gN (n+1) ls s
def Im:∀(n:Nat)(ls:List Lad)(s:List UInt8),atK (plN n ls) s=(gN n ls s).map λi=>.i .i64 (i:Int)
 |_,[],_=>rfl
 |n,x::ls,s=>by
  show(if x.1=s then some (AC.i .i64 (n:Int))else atK (plN (n+1) ls) s)=Option.map _ (if x.1=s then some n else gN (n+1) ls s)
  by_cases h:x.1=s
  ·rw[zB0 h,zB0 h];rfl
  rw[zB1 h,zB1 h];exact Im (n+1) ls s
def MR:∀(n:Nat)(ls:List Lad)(x:Lad),plN n (ls++[x])=plN n ls++[(x.1,.i .i64 ((n+ls.length:Nat):Int))]
 |n,[],x=>rfl
 |n,y::ls,x=>by
  show _::plN (n+1) (ls++[x])=_::(plN (n+1) ls++_);rw[MR (n+1) ls x];have:n+1+ls.length=n+(y::ls).length:=by rw[List.length_cons];omega
  rw[this]
def Ki{H:Hp}{m:Nat}{ls:List Lad}{s:List UInt8}(hg:H.get m=some (gW (plN 0 ls))):
  aX Tryz.prog H 9 (.one (.i .i64 0)) (.one (.o (.mp m))) (.one (.o (.str s))) true=.val (.tup [(false,[.i .i64 (((gN 0 ls s).getD 0:Nat):Int)]),(false,[.b (gN 0 ls s).isSome])]) H:=by
 rw[vP Cj hg,Im];cases gN 0 ls s<;>rfl
def ML:∀(n:Nat)(ls:List Lad)(s:List UInt8)(i:Nat),gN n ls s=some i->n≤i∧i<n+ls.length∧∃x,ls[i-n]?=some x∧x.1=s
 |_,[],_,_,h=>by cases h
 |n,x::ls,s,i,h=>by
  unfold gN at h;by_cases hx:x.1=s
  ·rw[zB0 hx]at h;cases h
   refine⟨zA1 _,by rw[List.length_cons];omega,x,by rw[Nat.sub_self];rfl,hx⟩
  rw[zB1 hx]at h;obtain⟨h1,h2,y,h3,h4⟩:=ML (n+1) ls s i h
  refine⟨by omega,by rw[List.length_cons];omega,y,?_,h4⟩
  have:i-n=(i-(n+1))+1:=by omega
  rw[this,List.getElem?_cons_succ];exact h3
def rG:List Lad->List Lad->Int
 |_,[]=>0
 |acc,x::ls=>if aH x.1 x.2≠0 then aH x.1 x.2 else if(gN 0 acc x.1).isSome=true then 2 else rG (acc++[x]) ls
def kR(ls:List Lad):Int:=if(32:Int)<ls.length then 3 else rG [] ls
def ox(H:Hp)(p:AC)(ls:List Lad):Prop:=
 ∃kb m lad gr fc,p=.o (.ptr kb 0 0 4)∧kb<H.nx∧m<H.nx∧H.get kb=some (.arr [lad,.o (.mp m),gr,fc] 106 0 0)∧H.get m=some (gW (plN 0 ls))∧eM H lad ls
def ox.gr{H H':Hp}{p:AC}{ls:List Lad}(h:ox H p ls)(hg:Gr H H'):ox H' p ls:=by
 obtain⟨kb,m,lad,gr,fc,h1,h2,h3,h4,h5,h6⟩:=h
 exact⟨kb,m,lad,gr,fc,h1,zA0 h2 hg.nx,zA0 h3 hg.nx,by rw[hg.get _ h2 zB2];exact h4,by rw[hg.get _ h3 zB2];exact h5,h6.gr hg⟩
def Ix:ao Tryz.prog 21=true:=by kernel_rfl
structure NB(n0 kb m:Nat)(lm ll:List Lad)(k2 k3:Nat)(H1:Hp)(lad gr fc:AC)(r1 r2 r3:Option Nat):Prop where
 kbg:H1.get kb=some (.arr [lad,.o (.mp m),gr,fc] 106 0 0)
 mg:H1.get m=some (gW (plN 0 lm))
 o1:∃css:List (List AC),dg H1 lad 51 2 ll.length (css.flatMap id) r1∧Al (λc x=>c.length=2∧∃u,c=[.o (.str x.1),u]∧SlP H1 u x.2∧∀id∈(AV.one u).ids,id≠kb∧id≠m∧some id≠r1∧some id≠r2∧some id≠r3) css ll
 o2:∃cg,dg H1 gr 3 1 k2 cg r2
 o3:∃cf,dg H1 fc 116 2 k3 cf r3
 kn:n0≤kb∧kb<H1.nx
 mn:n0≤m∧m<H1.nx
 km:kb≠m
 n1:∀q,r1=some q->n0≤q∧q<H1.nx∧q≠kb∧q≠m∧r2≠some q∧r3≠some q
 n2:∀q,r2=some q->n0≤q∧q<H1.nx∧q≠kb∧q≠m∧r3≠some q
 n3:∀q,r3=some q->n0≤q∧q<H1.nx∧q≠kb∧q≠m
section
variable{n0 kb m k2 k3:Nat}{lm ll:List Lad}{H1 H2:Hp}{lad gr fc:AC}{r1 r2 r3:Option Nat}
theorem NB.JF(h:NB n0 kb m lm ll k2 k3 H1 lad gr fc r1 r2 r3)(hg:Gr H1 H2):NB n0 kb m lm ll k2 k3 H2 lad gr fc r1 r2 r3 where
 kbg:=by rw[hg.get _ h.kn.2 zB2];exact h.kbg
 mg:=by rw[hg.get _ h.mn.2 zB2];exact h.mg
 o1:=let ⟨css,a,b⟩:=h.o1;⟨css,a.fr hg λ_ _ h=>h,b.mono λc x⟨hc,u,e,hu,hi⟩=>⟨hc,u,e,hu.gr hg,hi⟩⟩
 o2:=let ⟨c,a⟩:=h.o2;⟨c,a.fr hg λ_ _ h=>h⟩
 o3:=let ⟨c,a⟩:=h.o3;⟨c,a.fr hg λ_ _ h=>h⟩
 kn:=⟨h.kn.1,zA0 h.kn.2 hg.nx⟩
 mn:=⟨h.mn.1,zA0 h.mn.2 hg.nx⟩
 km:=h.km
 n1:=λq hq=>let ⟨a,b,c⟩:=h.n1 q hq;⟨a,zA0 b hg.nx,c⟩
 n2:=λq hq=>let ⟨a,b,c⟩:=h.n2 q hq;⟨a,zA0 b hg.nx,c⟩
 n3:=λq hq=>let ⟨a,b,c⟩:=h.n3 q hq;⟨a,zA0 b hg.nx,c⟩
theorem dn{H:Hp}{k:Nat}{o:aJ}:Fr (λi=>i=k) H (H.mod k o):=(Fr.refl _).mod _ (.inr rfl)
theorem NB.addM(h:NB n0 kb m lm ll k2 k3 H1 lad gr fc r1 r2 r3)(lm':List Lad):NB n0 kb m lm' ll k2 k3 (H1.mod m (gW (plN 0 lm'))) lad gr fc r1 r2 r3 where
 kbg:=by rw[au h.km];exact h.kbg
 mg:=an rfl
 o1:=let ⟨css,a,b⟩:=h.o1;⟨css,a.fr dn λi hi e=>(h.n1 i hi).2.2.2.1 e,b.mono λc x⟨hc,u,e,hu,hi⟩=>⟨hc,u,e,SlC.fr hu dn λi hi' e=>(hi i hi').2.1 e,hi⟩⟩
 o2:=let ⟨c,a⟩:=h.o2;⟨c,a.fr dn λi hi e=>(h.n2 i hi).2.2.2.1 e⟩
 o3:=let ⟨c,a⟩:=h.o3;⟨c,a.fr dn λi hi e=>(h.n3 i hi).2.2.2 e⟩
 kn:=h.kn
 mn:=h.mn
 km:=h.km
 n1:=h.n1
 n2:=h.n2
 n3:=h.n3
theorem NB.YA(h:NB n0 kb m lm ll k2 k3 H1 lad gr fc r1 r2 r3){x:Lad}{u v5:AC}{r5:Nat}{H5:Hp}(hu:SlP H1 u x.2)(hi:∀id∈(AV.one u).ids,id≠kb∧id≠m∧some id≠r1∧some id≠r2∧some id≠r3)
  {css:List (List AC)} (M8:Al (λc x=>c.length=2∧∃u,c=[.o (.str x.1),u]∧SlP H1 u x.2∧∀id∈(AV.one u).ids,id≠kb∧id≠m∧some id≠r1∧some id≠r2∧some id≠r3) css ll)
  (ho:dg H5 v5 51 2 (ll.length+1) (css.flatMap id++[.o (.str x.1),u]) (some r5)) (hf:Fr (λi=>r1=some i) H1 H5) (hr:r1=some r5∨H1.nx≤r5):
  NB n0 kb m lm (ll++[x]) k2 k3 (H5.mod kb (.arr [v5,.o (.mp m),gr,fc] 106 0 0)) v5 gr fc (some r5) r2 r3:=by
 have r5kb:r5≠kb:=by
  rcases hr with e|e
  ·exact(h.n1 _ e).2.2.1
  have:=h.kn.2;omega
 have r5m:r5≠m:=by
  rcases hr with e|e
  ·exact(h.n1 _ e).2.2.2.1
  have:=h.mn.2;omega
 have n0le:n0≤H1.nx:=zA2 h.kn.1 (Nat.le_of_lt h.kn.2);have lt5:r5<H5.nx:=by
  rcases ho with⟨_,_,_,e⟩|⟨id,lo,gen,e,_,_,_,_,hl⟩
  ·cases e
  cases e;exact hl
 have keep:∀{c:List AC}{x:Lad},(c.length=2∧∃u,c=[.o (.str x.1),u]∧SlP H1 u x.2∧∀id∈(AV.one u).ids,id≠kb∧id≠m∧some id≠r1∧some id≠r2∧some id≠r3) ->
   c.length=2∧∃u,c=[.o (.str x.1),u]∧SlP (H5.mod kb (.arr [v5,.o (.mp m),gr,fc] 106 0 0)) u x.2∧∀id∈(AV.one u).ids,id≠kb∧id≠m∧some id≠some r5∧some id≠r2∧some id≠r3:=by
  rintro c x ⟨hc,u,e,hu,hi⟩;refine⟨hc,u,e,SlC.fr (SlC.fr hu hf λi h' e=>(hi i h').2.2.1 e.symm) dn λi h' e=>(hi i h').1 e,λi h'=>⟨(hi i h').1,(hi i h').2.1,λe=>?_,(hi i h').2.2.2.1,(hi i h').2.2.2.2⟩⟩
  cases e
  rcases hr with e|e
  ·exact(hi _ h').2.2.1 e.symm
  have:=hu.lt _ h';omega
 refine⟨an rfl,?_,⟨css++[[.o (.str x.1),u]],?_,?_⟩,?_,?_,⟨h.kn.1,zA0 h.kn.2 hf.nx⟩,⟨h.mn.1,zA0 h.mn.2 hf.nx⟩,h.km,?_,?_,?_⟩
 ·rw[au (λe=>h.km e.symm),hf.get _ h.mn.2 λe=>(h.n1 _ e).2.2.2.1 rfl];exact h.mg
 ·rw[List.length_append,List.length_singleton,List.flatMap_append];exact ho.fr dn λi hi e=>by cases hi;exact r5kb e
 ·exact Al.app (M8.mono λc x hc=>keep hc) (keep ⟨rfl,u,rfl,hu,hi⟩)
 ·obtain⟨c,a⟩:=h.o2
  exact⟨c,(a.fr hf λi hi e=>(h.n1 i e).2.2.2.2.1 hi).fr dn λi hi e=>(h.n2 i hi).2.2.1 e⟩
 ·obtain⟨c,a⟩:=h.o3
  exact⟨c,(a.fr hf λi hi e=>(h.n1 i e).2.2.2.2.2 hi).fr dn λi hi e=>(h.n3 i hi).2.2.1 e⟩
 ·intro q hq;cases hq
  refine⟨?_,lt5,r5kb,r5m,λe=>?_,λe=>?_⟩
  ·rcases hr with e|e
   ·exact(h.n1 _ e).1
   omega
  ·rcases hr with e'|e'
   ·exact(h.n1 _ e').2.2.2.2.1 e
   have:=(h.n2 _ e).2.1;omega
  rcases hr with e'|e'
  ·exact(h.n1 _ e').2.2.2.2.2 e
  have:=(h.n3 _ e).2.1;omega
 ·intro q hq;obtain⟨a,b,c⟩:=h.n2 q hq
  exact⟨a,zA0 b hf.nx,c⟩
 intro q hq;obtain⟨a,b,c⟩:=h.n3 q hq
 exact⟨a,zA0 b hf.nx,c⟩
theorem NB.grp(h:NB n0 kb m lm ll k2 k3 H1 lad gr fc r1 r2 r3){v5:AC}{r5:Nat}{H5:Hp}{c5:List AC}(ho:dg H5 v5 3 1 (k2+1) c5 (some r5))(hf:Fr (λi=>r2=some i) H1 H5)(hr:r2=some r5∨H1.nx≤r5):
  NB n0 kb m lm ll (k2+1) k3 (H5.mod kb (.arr [lad,.o (.mp m),v5,fc] 106 0 0)) lad v5 fc r1 (some r5) r3:=by
 have r5kb:r5≠kb:=by
  rcases hr with e|e
  ·exact(h.n2 _ e).2.2.1
  have:=h.kn.2;omega
 have r5m:r5≠m:=by
  rcases hr with e|e
  ·exact(h.n2 _ e).2.2.2.1
  have:=h.mn.2;omega
 have n0le:n0≤H1.nx:=zA2 h.kn.1 (Nat.le_of_lt h.kn.2);have lt5:r5<H5.nx:=by
  rcases ho with⟨_,_,_,e⟩|⟨id,lo,gen,e,_,_,_,_,hl⟩
  ·cases e
  cases e;exact hl
 refine⟨an rfl,?_,?_,⟨c5,?_⟩,?_,⟨h.kn.1,zA0 h.kn.2 hf.nx⟩,⟨h.mn.1,zA0 h.mn.2 hf.nx⟩,h.km,?_,?_,?_⟩
 ·rw[au (λe=>h.km e.symm),hf.get _ h.mn.2 λe=>(h.n2 _ e).2.2.2.1 rfl];exact h.mg
 ·obtain⟨css,a,b⟩:=h.o1
  refine⟨css,(a.fr hf λi hi e=>(h.n1 i hi).2.2.2.2.1 e).fr dn λi hi e=>(h.n1 i hi).2.2.1 e,b.mono λc x⟨hc,u,e,hu,hi⟩=>⟨hc,u,e,SlC.fr (SlC.fr hu hf λi h' e=>(hi i h').2.2.2.1 e.symm) dn λi h' e=>(hi i h').1 e,λi h'=>⟨(hi i h').1,(hi i h').2.1,(hi i h').2.2.1,λe=>?_,(hi i h').2.2.2.2⟩⟩⟩
  cases e
  rcases hr with e|e
  ·exact(hi _ h').2.2.2.1 e.symm
  have:=hu.lt _ h';omega
 ·exact ho.fr dn λi hi e=>by cases hi;exact r5kb e
 ·obtain⟨c,a⟩:=h.o3
  exact⟨c,(a.fr hf λi hi e=>(h.n2 i e).2.2.2.2 hi).fr dn λi hi e=>(h.n3 i hi).2.2.1 e⟩
 ·intro q hq;obtain⟨a,b,c,d,e,f⟩:=h.n1 q hq
  refine⟨a,zA0 b hf.nx,c,d,λe'=>?_,f⟩
  cases e'
  rcases hr with e'|e'
  ·exact e e'
  omega
 ·intro q hq;cases hq
  refine⟨?_,lt5,r5kb,r5m,λe=>?_⟩
  ·rcases hr with e|e
   ·exact(h.n2 _ e).1
   omega
  rcases hr with e'|e'
  ·exact(h.n2 _ e').2.2.2.2 e
  have:=(h.n3 _ e).2.1;omega
 intro q hq;obtain⟨a,b,c⟩:=h.n3 q hq
 exact⟨a,zA0 b hf.nx,c⟩
theorem NB.fac(h:NB n0 kb m lm ll k2 k3 H1 lad gr fc r1 r2 r3){v5:AC}{r5:Nat}{H5:Hp}{c5:List AC}(ho:dg H5 v5 116 2 (k3+1) c5 (some r5))(hf:Fr (λi=>r3=some i) H1 H5)(hr:r3=some r5∨H1.nx≤r5):
  NB n0 kb m lm ll k2 (k3+1) (H5.mod kb (.arr [lad,.o (.mp m),gr,v5] 106 0 0)) lad gr v5 r1 r2 (some r5):=by
 have r5kb:r5≠kb:=by
  rcases hr with e|e
  ·exact(h.n3 _ e).2.2.1
  have:=h.kn.2;omega
 have r5m:r5≠m:=by
  rcases hr with e|e
  ·exact(h.n3 _ e).2.2.2
  have:=h.mn.2;omega
 have n0le:n0≤H1.nx:=zA2 h.kn.1 (Nat.le_of_lt h.kn.2);have lt5:r5<H5.nx:=by
  rcases ho with⟨_,_,_,e⟩|⟨id,lo,gen,e,_,_,_,_,hl⟩
  ·cases e
  cases e;exact hl
 refine⟨an rfl,?_,?_,?_,⟨c5,?_⟩,⟨h.kn.1,zA0 h.kn.2 hf.nx⟩,⟨h.mn.1,zA0 h.mn.2 hf.nx⟩,h.km,?_,?_,?_⟩
 ·rw[au (λe=>h.km e.symm),hf.get _ h.mn.2 λe=>(h.n3 _ e).2.2.2 rfl];exact h.mg
 ·obtain⟨css,a,b⟩:=h.o1
  refine⟨css,(a.fr hf λi hi e=>(h.n1 i hi).2.2.2.2.2 e).fr dn λi hi e=>(h.n1 i hi).2.2.1 e,b.mono λc x⟨hc,u,e,hu,hi⟩=>⟨hc,u,e,SlC.fr (SlC.fr hu hf λi h' e=>(hi i h').2.2.2.2 e.symm) dn λi h' e=>(hi i h').1 e,λi h'=>⟨(hi i h').1,(hi i h').2.1,(hi i h').2.2.1,(hi i h').2.2.2.1,λe=>?_⟩⟩⟩
  cases e
  rcases hr with e|e
  ·exact(hi _ h').2.2.2.2 e.symm
  have:=hu.lt _ h';omega
 ·obtain⟨c,a⟩:=h.o2
  exact⟨c,(a.fr hf λi hi e=>(h.n2 i hi).2.2.2.2 e).fr dn λi hi e=>(h.n2 i hi).2.2.1 e⟩
 ·exact ho.fr dn λi hi e=>by cases hi;exact r5kb e
 ·intro q hq;obtain⟨a,b,c,d,e,f⟩:=h.n1 q hq
  refine⟨a,zA0 b hf.nx,c,d,e,λe'=>?_⟩
  cases e'
  rcases hr with e'|e'
  ·exact f e'
  omega
 ·intro q hq;obtain⟨a,b,c,d,e⟩:=h.n2 q hq
  refine⟨a,zA0 b hf.nx,c,d,λe'=>?_⟩
  cases e'
  rcases hr with e'|e'
  ·exact e e'
  omega
 intro q hq;cases hq
 refine⟨?_,lt5,r5kb,r5m⟩
 rcases hr with e|e
 ·exact(h.n3 _ e).1
 omega
theorem NB.book(h:NB n0 kb m lm lm k2 k3 H1 lad gr fc r1 r2 r3):ox H1 (.o (.ptr kb 0 0 4)) lm:=by
 obtain⟨css,a,b⟩:=h.o1
 exact⟨kb,m,lad,gr,fc,rfl,h.kn.2,h.mn.2,h.kbg,h.mg,css,a.slc,b.mono λc x⟨hc,u,e,hu,_⟩=>⟨hc,u,e,hu⟩⟩
end
def iY{n:List UInt8}{us:List Pr}(h:aH n us=0):us.length≤12:=by
 unfold aH at h;by_cases hl:eL n us=true
 ·unfold eL at hl;simp only[Bool.and_eq_true,decide_eq_true_eq]at hl;omega
 rw[zB1 hl]at h;cases h
def YQ{H:Hp}{m:Nat}{ls:List Lad}{x:Lad}(hg:H.get m=some (gW (plN 0 ls)))(hn:(gN 0 ls x.1).isSome=false):
  aU Tryz.prog H 9 (.one (.o (.mp m))) (.one (.o (.str x.1))) (.one (.i .i64 (ls.length:Int)))=.val aD (H.mod m (gW (plN 0 (ls++[x])))):=by
 rw[MR,Nat.zero_add];refine wX Cj hg ?_;rw[Im];cases h:gN 0 ls x.1 with
 |none=>rfl
 |some i=>rw[h]at hn;cases hn
def HJ(H:Hp)(v:AC)(ls:List Lad)(hl:eM H v ls):
  Con E2 21 [.one v,.one (.o .nilS)] H (λ_=>False) λr H'=>∃p,r=.tup [(false,[p]),(false,[.i .i64 (kR ls)])]∧(kR ls=0->ox H' p ls)∧(kR ls≠0->p=.o .nilP):=by
 refine Con.of rfl λlg=>?_;have hl:eM ⟨H.t,H.nx,lg⟩ v ls:=hl;generalize(⟨H.t,H.nx,lg⟩:Hp)=H at hl ⊢
 refine C1.body (E:=E2) (nt:=102) (res:=[.tmp 4,.tmp 5]) Tryz.func21 rfl rfl rfl rfl rfl λtm z0=>?_;have h0:=z0 0 _ rfl;have h1:=z0 1 _ rfl;clear z0;have lnB:eR Tryz.prog 112=some 1:=by kernel_rfl
 by_cases h32:(32:Int)<ls.length
 ·have c32:((32:Int)<ls.length)=True:=eq_true h32;refine qW ai ?_;repeat refine R1.aF ?_
  refine qG (zDh ai h0 h1 ig hl.len hl.lt c32) λK hK=>?_;refine hK _ _ ?_;clear hK K;refine qY ?_;refine qV ?_;refine⟨_,_,aZ (.o .nilP) (.i .i64 3) (.inr rfl) rfl qp qp,Fr.refl _,λ_=>?_⟩
  have:kR ls=3:=zB0 h32;rw[this];exact⟨_,rfl,λh=>(by cases h),λ_=>rfl⟩
 have c32:((32:Int)<ls.length)=False:=eq_false h32;refine qW ai ?_;repeat refine R1.aF ?_
 refine qG (zDi ai h0 h1 ig hl.len hl.lt c32 lnB) λK hK=>?_;refine hK _ _ ?_;clear hK K;refine qY ?_;refine R1.bA ?_;repeat refine R1.aF ?_
 refine qG (zDe ai CP Bz sx) λK hK=>?_;refine hK _ _ ?_;clear hK K;refine R1.gen (λA1 H1=>Gr H H1∧NB H.nx (H.nx+1) H.nx [] [] 0 0 H1 (.o .nilS) (.o .nilS) (.o .nilS) none none none∧slot A1.tm 0=.one v∧slot A1.tm 1=.one (.o .nilS)∧slot A1.tm 6=.one (.o (.ptr (H.nx+1) 0 0 4))∧A1.nt=102∧A1.dfr=[])
  ⟨((Fr.refl _).new _).new _,⟨aB rfl,(aS (by rw[ti];omega)).trans (aB rfl),⟨[],.inl ⟨rfl,rfl,rfl,rfl⟩,trivial⟩,⟨[],.inl ⟨rfl,rfl,rfl,rfl⟩⟩,⟨[],.inl ⟨rfl,rfl,rfl,rfl⟩⟩,⟨Nat.le_succ _,zA6 _⟩,⟨zA1 _,Nat.lt_succ_of_lt (zA6 _)⟩,by omega,λq h=>(by cases h),λq h=>(by cases h),λq h=>(by cases h)⟩,?_⟩ ?_
 ·exact qZ (qA h0 h1)
 clear h0 h1 tm;rintro A1 H1 ⟨g1,nb,t0,t1,t6,A0,B0⟩;obtain⟨kb,L7⟩:∃k,k=H.nx+1:=⟨_,rfl⟩
 obtain⟨m,hm⟩:∃k,k=H.nx:=⟨_,rfl⟩
 rw[<-L7]at nb t6;have nb:NB H.nx kb m [] [] 0 0 H1 (.o .nilS) (.o .nilS) (.o .nilS) none none none:=by rw[hm];exact nb
 clear L7 hm;have k9:=hl.gr g1;have B4:kR ls=rG [] ls:=zB1 h32;rw[B4];generalize G0:rG [] ls=r0;refine qG (zDg ai t0 A0 ig k9.len k9.lt) λK hK=>?_;refine hK _ _ ?_;clear hK K;refine R1.ba λK k1 k2 k3 k4=>?_;refine R1.loop (λk A2 H2=>∃(i:Nat)(lad gr fc:AC)(r1 r2 r3:Option Nat),k=ls.length-i∧i≤ls.length∧NB H.nx kb m (ls.take i) (ls.take i) i i H2 lad gr fc r1 r2 r3∧Gr H H2∧rG (ls.take i) (ls.drop i)=r0 ∧
  slot A2.tm 1=.one (.o .nilS)∧slot A2.tm 6=.one (.o (.ptr kb 0 0 4))∧slot A2.tm 26=.one v∧slot A2.tm 27=.one (.i .i64 (ls.length:Int))∧slot A2.tm 28=.one (.i .i64 (i:Int))∧A2.nt=102∧A2.dfr=[]) ?_ ls.length
  ⟨0,_,_,_,_,_,_,rfl,Nat.zero_le _,nb,g1,G0,?_⟩
 ·clear t0 t1 t6 A0 B0 A1;rintro k A H1 ⟨i,lad,gr,fc,r1,r2,r3,rfl,hi,nb,g1,hr,t1,t6,t26,t27,t28,A0,B0⟩;have k9:=hl.gr g1;refine qW (zDe ai t27 t28 A0) ?_;refine qE λKx Ky hx hy=>?_;refine iy (λhc=>hx ?_) (λhc=>hy ?_)
  ·clear hx hy Kx Ky;have C0:i<ls.length:=by omega
   obtain⟨id,g,off,cells,rfl,U2,U6,K0⟩:=hl.open (by omega)
   have hid:id<H1.nx:=zA0 U2 g1.nx;have hg:rowOf (H1.get id) g=some cells:=by rw[g1.get _ U2 zB2];exact U6
   have ex:ls[i]?=some ls[i]:=zB4 C0;have N0:ls.drop i=ls[i]::ls.drop (i+1):=List.drop_eq_getElem_cons C0;have I2:ls.take (i+1)=ls.take i++[ls[i]]:=List.take_succ_eq_append_getElem C0;generalize ls[i]=x at ex N0 I2;obtain⟨u,C',X2,O0,M6,hx3,v8,hx5⟩:=K0 i x ex
   have hu:SlP H1 u x.2:=C'.gr g1;have hidu:∀k∈(AV.one u).ids,k<H.nx:=C'.lt;have P5:(ls.take i).length=i:=by rw[List.length_take];omega
   have hi32:ls.length≤32:=by omega
   have B3:=zC0 i (by omega);rw[N0,rG]at hr;refine qV ?_;refine R1.ba λK2 q1 q2 q3 q4=>?_;repeat refine R1.aF ?_
   refine qG (zDm ai t26 t28 A0 ez eP jC fh (ixC C0) hid hg (qA X2 O0)) λK hK=>?_;refine hK _ _ ?_;clear hK K;refine R1.gen (λA3 H3=>Gr H1 H3∧H1.nx<H3.nx∧H3.get H1.nx=some (.arr [.o (.str x.1),u] 51 0 0)∧slot A3.tm 1=.one (.o .nilS)∧slot A3.tm 6=.one (.o (.ptr kb 0 0 4))∧slot A3.tm 7=.one (.i .i64 (i:Int))∧slot A3.tm 8=.one (.o (.ptr H1.nx 0 0 2))∧slot A3.tm 26=.one (.o (.sl id g off ls.length 2))∧slot A3.tm 27=.one (.i .i64 (ls.length:Int))∧slot A3.tm 28=.one (.i .i64 (i:Int))∧A3.nt=102∧A3.dfr=[])
    ⟨((Fr.refl _).new _).mod _ (.inl (zA1 _)),?_⟩ ?_
   ·exact qZ (zDh t1 t6 t26 t27 t28 A0 B0)
   clear t1 t6 t26 t27 t28 A0 B0 A;rintro A H3 ⟨g3,n3,rx,t1,t6,t7,t8,t26,t27,t28,A0,B0⟩;have nb3:=nb.JF g3;have g3':=g1.gr g3;repeat refine R1.aF ?_
   refine qG (zDh ai t8 A0 rx n3 eP uE) λK hK=>?_;refine WE.con (rS H3 x.1 u x.2 (hu.gr g3)) λw H4 g4 hv=>?_;subst hv;have nb4:=nb3.JF g4;have rx:H4.get H1.nx=some (.arr [.o (.str x.1),u] 51 0 0):=by rw[g4.get _ n3 zB2];exact rx
   have n4:H1.nx<H4.nx:=zA0 n3 g4.nx;have y9:SlP H4 u x.2:=(hu.gr g3).gr g4;have g4':=g3'.gr g4;refine qS (qA ai A0) ?_;refine hK _ _ ?_;clear hK K;refine qW (qA ai A0) ?_;refine qE λKx Ky hx hy=>?_;refine iy (λhd=>hx ?_) (λhd=>hy ?_)
   ·clear hx hy Kx Ky;have Z0:aH x.1 x.2≠0:=by simpa using hd
    rw[zB0 Z0]at hr;subst hr;refine qW (qA ai A0) ?_;refine q4 _ _ (k4 _ _ ⟨_,_,aZ (.o .nilP) (.i .i64 (aH x.1 x.2)) (.inr rfl) (qd B0) qp qp,g4',λ_=>⟨_,rfl,λh=>absurd h Z0,λ_=>rfl⟩⟩)
   clear hx hy Kx Ky;have hz:aH x.1 x.2=0:=by simpa using hd
   rw[zB1 (λh=>h hz)]at hr;have hL12:=iY hz;refine R1.bA ?_;repeat refine R1.aF ?_
   have lkb:=nb4.kn.2;have lm:=nb4.mn.2;have rkb:=nb4.kbg;repeat refine R1.aF ?_
   refine R1.FJ (by kernel_rfl) λK hK=>?_;simp only[qB,aK,Nat.reduceLT,Nat.reduceEqDiff,Nat.reduceLeDiff,reduceIte,Nat.reduceAdd,Nat.reduceSub,Nat.reduceMul,Int.reduceLT,Int.reduceLE,Int.reduceBEq,ai,t6,t8,A0,rx,n4,rkb,lkb,lm,gh,eS,oP,bC,wa,BJ,Ki nb4.mg];refine hK _ _ ?_;clear hK K;cases M4:(gN 0 (ls.take i) x.1).isSome with
   |true=>
    rw[zB0 M4]at hr;subst hr;refine qW (qA ai A0) ?_;refine qY ?_;refine qW (qA ai A0) ?_;refine q4 _ _ (k4 _ _ ⟨_,_,aZ (.o .nilP) (.i .i64 2) (.inr rfl) (qd B0) qp qp,g4',λ_=>⟨_,rfl,λh=>(by cases h),λ_=>rfl⟩⟩)
   |false=>
    rw[zB1 (by rw[M4];decide)]at hr;have hup:=YQ nb4.mg M4;rw[P5]at hup;refine qW (qA ai A0) ?_;refine qY ?_;refine R1.bA ?_;refine qG (zDm ai t6 t7 t8 A0 rx n4 rkb lkb lm gh (zDf eS oP bC wa hup)) λK hK=>?_;refine hK _ _ ?_;clear hK K;have nb5:=nb4.addM (ls.take i++[x]);have W_:H.nx≤m:=nb4.mn.1;have o7:H.nx≤kb:=nb4.kn.1;have m1:m<H1.nx:=nb.mn.2;have W4:SlP (H4.mod m (gW (plN 0 (ls.take i++[x])))) u x.2:=SlC.fr y9 dn λk h e=>by have:=hidu k h;omega
    have rx:(H4.mod m (gW (plN 0 (ls.take i++[x])))).get H1.nx=some (.arr [.o (.str x.1),u] 51 0 0):=by rw[au (by omega)];exact rx
    have g5':Gr H (H4.mod m (gW (plN 0 (ls.take i++[x])))):=g4'.mod _ (.inl W_);have n5:H1.nx<(H4.mod m (gW (plN 0 (ls.take i++[x])))).nx:=n4;refine R1.gen (λA5 H5=>H5=H4.mod m (gW (plN 0 (ls.take i++[x])))∧slot A5.tm 1=.one (.o .nilS)∧slot A5.tm 6=.one (.o (.ptr kb 0 0 4))∧slot A5.tm 7=.one (.i .i64 (i:Int))∧slot A5.tm 8=.one (.o (.ptr H1.nx 0 0 2))∧slot A5.tm 26=.one (.o (.sl id g off ls.length 2))∧slot A5.tm 27=.one (.i .i64 (ls.length:Int))∧slot A5.tm 28=.one (.i .i64 (i:Int))∧A5.nt=102∧A5.dfr=[]) ⟨rfl,?_⟩ ?_
    ·exact qZ (zDj t1 t6 t7 t8 t26 t27 t28 A0 B0)
    clear t1 t6 t7 t8 t26 t27 t28 A0 B0 A;rintro A H5 ⟨hH5,t1,t6,t7,t8,t26,t27,t28,A0,B0⟩;rw[<-hH5]at nb5 W4 rx g5' n5;clear hH5 rkb lkb lm;have lkb:=nb5.kn.2;have rkb:=nb5.kbg;refine qH (zDm ai t6 t8 A0 rx n5 rkb lkb jZ kW eP Bb) λK hK=>?_;refine WE.xk (vw H5 x.1 u x.2 W4 (by omega)) λw H6 g6⟨u',hv,F_,G6⟩=>?_;subst hv;have nb6:=nb5.JF g6;obtain⟨css,ho1,M8⟩:=nb6.o1
    obtain⟨zl,B2,hzll⟩:=JM
    obtain⟨v_,v7,H7,r7,Q2,ho7,k_,I_⟩:=fI ez Jo B2 hzll (by decide) ho1 [.o (.str x.1),u'] rfl (by rw[P5];omega)
    have rk7:H7.get kb=some (.arr [lad,.o (.mp m),gr,fc] 106 0 0):=by rw[k_.get _ nb6.kn.2 (λe=>(nb6.n1 _ e).2.2.1 rfl)];exact nb6.kbg
    have lk7:kb<H7.nx:=zA0 nb6.kn.2 k_.nx;have b9:∀k∈(AV.one u').ids,k≠kb∧k≠m∧some k≠r1∧some k≠r2∧some k≠r3:=λk h=>by
     have h5:=G6 k h;refine⟨by omega,by have:=nb5.mn.2;omega,λe=>?_,λe=>?_,λe=>?_⟩
     ·have:=(nb5.n1 _ e.symm).2.1;omega
     ·have:=(nb5.n2 _ e.symm).2.1;omega
     have:=(nb5.n3 _ e.symm).2.1;omega
    have nb8:=nb6.YA F_ b9 M8 ho7 k_ I_;have g7:Gr H H7:=(g5'.gr g6).then k_ λk hk=>.inl (nb6.n1 _ hk).1;have g8:Gr H (H7.mod kb (.arr [v7,.o (.mp m),gr,fc] 106 0 0)):=g7.mod _ (.inl o7);refine qS (zDm ai t6 A0 ez fh oz v_ Q2 rk7 lk7 jZ tS) ?_;refine⟨v_,?_⟩
    refine hK _ _ ?_;clear hK K;refine R1.gen (λA5 H8=>H8=H7.mod kb (.arr [v7,.o (.mp m),gr,fc] 106 0 0)∧slot A5.tm 1=.one (.o .nilS)∧slot A5.tm 6=.one (.o (.ptr kb 0 0 4))∧slot A5.tm 7=.one (.i .i64 (i:Int))∧slot A5.tm 26=.one (.o (.sl id g off ls.length 2))∧slot A5.tm 27=.one (.i .i64 (ls.length:Int))∧slot A5.tm 28=.one (.i .i64 (i:Int))∧A5.nt=102∧A5.dfr=[]) ⟨rfl,?_⟩ ?_
    ·exact qZ (zDi t1 t6 t7 t26 t27 t28 A0 B0)
    clear t1 t6 t7 t8 t26 t27 t28 A0 B0 A;rintro A H8 ⟨hH8,t1,t6,t7,t26,t27,t28,A0,B0⟩;rw[<-hH8]at nb8 g8;clear hH8 rk7 lk7 Q2 v_ ho7 g7 M8 ho1 k_;obtain⟨cg,J_⟩:=nb8.o2
    obtain⟨zi,hzi,s_⟩:=Ct
    obtain⟨a8,v9,H9,r9,happ9,V_,o9,H_⟩:=fI er sB hzi s_ (by decide) J_ [.i .i64 (i:Int)] rfl (by omega)
    have rk9:H9.get kb=some (.arr [v7,.o (.mp m),gr,fc] 106 0 0):=by rw[o9.get _ nb8.kn.2 (λe=>(nb8.n2 _ e).2.2.1 rfl)];exact nb8.kbg
    have lk9:kb<H9.nx:=zA0 nb8.kn.2 o9.nx;have nb10:=nb8.grp V_ o9 H_;have g10:Gr H (H9.mod kb (.arr [v7,.o (.mp m),v9,fc] 106 0 0)):=(g8.then o9 λk hk=>.inl (nb8.n2 _ hk).1).mod _ (.inl o7);have rk8:=nb8.kbg;have lk8:=nb8.kn.2;refine qG (zDm ai t6 t7 A0 rk8 lk8 sG nC er rO oz (zDf happ9 a8 rk9 lk9 CV)) λK hK=>?_;refine⟨a8,?_⟩
    refine hK _ _ ?_;clear hK K;refine R1.gen (λA5 H10=>H10=H9.mod kb (.arr [v7,.o (.mp m),v9,fc] 106 0 0)∧slot A5.tm 1=.one (.o .nilS)∧slot A5.tm 6=.one (.o (.ptr kb 0 0 4))∧slot A5.tm 26=.one (.o (.sl id g off ls.length 2))∧slot A5.tm 27=.one (.i .i64 (ls.length:Int))∧slot A5.tm 28=.one (.i .i64 (i:Int))∧A5.nt=102∧A5.dfr=[]) ⟨rfl,?_⟩ ?_
    ·exact qZ (zDh t1 t6 t26 t27 t28 A0 B0)
    clear t1 t6 t7 t26 t27 t28 A0 B0 A;rintro A H10 ⟨hH10,t1,t6,t26,t27,t28,A0,B0⟩;rw[<-hH10]at nb10 g10;clear hH10 rk9 lk9 happ9 a8 V_ o9 rk8 lk8 J_;obtain⟨cf,ho3⟩:=nb10.o3
    obtain⟨zp,hzp,hzpl⟩:=VC
    obtain⟨hlt11,v11,H11,r11,happ11,ho11,hf11,hr11⟩:=fI pN WG hzp hzpl (by decide) ho3 [.o .nilS,.o .nilS] rfl (by omega)
    have rk11:H11.get kb=some (.arr [v7,.o (.mp m),v9,fc] 106 0 0):=by rw[hf11.get _ nb10.kn.2 (λe=>(nb10.n3 _ e).2.2.1 rfl)];exact nb10.kbg
    have lk11:kb<H11.nx:=zA0 nb10.kn.2 hf11.nx;have nb12:=nb10.fac ho11 hf11 hr11;have g12:Gr H (H11.mod kb (.arr [v7,.o (.mp m),v9,v11] 106 0 0)):=(g10.then hf11 λk hk=>.inl (nb10.n3 _ hk).1).mod _ (.inl o7);have rk10:=nb10.kbg;have lk10:=nb10.kn.2;refine qG (zDm ai t6 A0 rk10 lk10 rW we pN ua BL oz (zDf happ11 hlt11 rk11 lk11 xi)) λK hK=>?_;refine⟨hlt11,?_⟩
    refine hK _ _ ?_;clear hK K;refine q1 _ _ ?_;refine qW (zDd A0 t28 B3) ?_;rw[<-I2]at nb12 hr;refine⟨ls.length-(i+1),by omega,i+1,_,_,_,_,_,_,rfl,C0,nb12,g12,hr,?_,?_,?_,?_,?_,?_,?_⟩
    ·simp only[ae,Nat.reduceEqDiff,reduceIte,t1]
    ·simp only[ae,Nat.reduceEqDiff,reduceIte,t6]
    ·simp only[ae,Nat.reduceEqDiff,reduceIte,t26]
    ·simp only[ae,Nat.reduceEqDiff,reduceIte,t27]
    ·simp only[ae,Nat.reduceEqDiff,reduceIte]
    ·simp only[az,A0]
    simp only[al,B0]
  clear hx hy Kx Ky;have S1:i=ls.length:=by omega
  rw[S1,List.drop_length,rG]at hr;rw[S1,List.take_length]at nb;refine qW A0 ?_;refine k2 _ _ ?_;refine qW (zDe ai A0 t1 lnB) ?_;refine R1.ba λK2 q1 q2 q3 q4=>?_;refine R1.round ?_;refine qW (qA ai A0) ?_;refine qY ?_;refine qW A0 ?_;refine q2 _ _ ?_;refine qW (zDd ai A0 t6) ?_;refine⟨_,_,aZ (.o (.ptr kb 0 0 4)) (.i .i64 0) (.inr rfl) (qd B0) qp qp,g1,λ_=>⟨_,by rw[<-hr],λ_=>nb.book,λh=>absurd hr.symm h⟩⟩
 simp only[ae,Nat.reduceEqDiff,reduceIte,az,al,t1,t6,A0,B0,and_self,true_and];exact⟨rfl,trivial⟩
def WV:ao Tryz.prog 36=true:=by kernel_rfl
def QZ:ao Tryz.prog 37=true:=by kernel_rfl
def nM:ao Tryz.prog 14=true:=by kernel_rfl
def Ob:ao Tryz.prog 95=true:=by kernel_rfl
def Rj:Tryz.prog.underlying 31=some (.pointer 106):=by kernel_rfl
def XL:Tryz.prog.underlying 103=some (.map 9 3):=by kernel_rfl
def bF(H:Hp)(p:AC):Option (List Lad)->Prop
 |some ls=>ox H p ls
 |none=>p=.o .nilP∨∃kb,p=.o (.ptr kb 0 0 4)∧kb<H.nx∧H.get kb=some (.arr [.o .nilS,.o .nilM,.o .nilS,.o .nilS] 106 0 0)
def bF.gr{H H':Hp}{p:AC}{o:Option (List Lad)}(h:bF H p o)(hg:Gr H H'):bF H' p o:=by
 cases o with
 |some ls=>exact ox.gr h hg
 |none=>
  refine Or.imp id ?_ h;rintro⟨kb,h1,h2,h3⟩
  exact⟨kb,h1,zA0 h2 hg.nx,by rw[hg.get _ h2 zB2];exact h3⟩
def bF.same{H H':Hp}{p:AC}{o:Option (List Lad)}(ht:H'.t=H.t)(hn:H'.nx=H.nx)(h:bF H p o):bF H' p o:=
 by
  obtain⟨t,nx,l⟩:=H
  obtain⟨t',nx',l'⟩:=H'
  cases ht;cases hn
  exact h
def Uy(H:Hp)(p:AC)(o:Option (List Lad))(hp:bF H p o):Con E2 36 [.one p] H (λ_=>False) λr _=>r=.one (.b o.isNone):=by
 refine Con.of rfl λlg=>?_;have hp:bF ⟨H.t,H.nx,lg⟩ p o:=bF.same (H:=H) rfl rfl hp;generalize(⟨H.t,H.nx,lg⟩:Hp)=H at hp ⊢
 refine C1.body (E:=E2) (nt:=12) (res:=[.tmp 2]) Tryz.func36 rfl rfl rfl rfl rfl λtm z0=>?_;have h0:=z0 0 _ rfl;clear z0;have fin:∀(b:Bool)(A:aa),slot A.tm 2=.one (.b b)->A.dfr=[]->b=o.isNone->∃w H4,aC E2 [.tmp 2] (.ret,A,H)=.ok [(w,H4)]∧Gr H H4∧∀_:List Nat,w=.one (.b o.isNone):=λb A h1 h2 h3=>⟨_,_,aj (.b b) (.inr rfl) h2 h1,Fr.refl _,λ_=>by rw[h3]⟩;cases o with
 |some ls=>
  obtain⟨kb,m,lad,gr,fc,rfl,h2,h3,h4,h5,h6⟩:=hp
  refine qV ?_;repeat refine R1.aF ?_
  refine R1.rR λK hK=>?_;simp only[qB,aK,Nat.reduceLT,Nat.reduceEqDiff,Nat.reduceLeDiff,reduceIte,Nat.reduceAdd,Nat.reduceSub,Nat.reduceMul,Int.reduceLT,Int.reduceLE,Int.reduceBEq,ai,h0,lU,tg,h2,h4,gh,oP,Cz,Je];refine hK _ _ ?_;clear hK K;refine qV ?_;exact fin false _ qp rfl rfl
 |none=>
  rcases hp with rfl|⟨kb,rfl,h2,h4⟩
  ·refine qV ?_;repeat refine R1.aF ?_
   refine R1.rR λK hK=>?_;simp only[qB,aK,Nat.reduceLT,Nat.reduceEqDiff,Nat.reduceLeDiff,reduceIte,Nat.reduceAdd,Nat.reduceSub,Nat.reduceMul,Int.reduceLT,Int.reduceLE,Int.reduceBEq,ai,h0,lU,SI,Iv Rj,VL];refine hK _ _ ?_;clear hK K;refine qV ?_;exact fin true _ qp rfl rfl
  refine qV ?_;repeat refine R1.aF ?_
  refine R1.rR λK hK=>?_;simp only[qB,aK,Nat.reduceLT,Nat.reduceEqDiff,Nat.reduceLeDiff,reduceIte,Nat.reduceAdd,Nat.reduceSub,Nat.reduceMul,Int.reduceLT,Int.reduceLE,Int.reduceBEq,ai,h0,lU,tg,h2,h4,gh,oP,Cz,Uu,JP XL,Vx];refine hK _ _ ?_;clear hK K;refine qV ?_;exact fin true _ qp rfl rfl
def OK(H:Hp)(p:AC)(ls:List Lad)(s:List UInt8)(hp:ox H p ls):Con E2 37 [.one p,.one (.o (.str s))] H (λ_=>False) λr _=>
  r=.tup [(false,[.i .i64 (((gN 0 ls s).getD 0:Nat):Int)]),(false,[.i .i64 (if(gN 0 ls s).isSome=true then 0 else 4)])]:=by
 refine Con.of rfl λlg=>?_;have hp:ox ⟨H.t,H.nx,lg⟩ p ls:=hp;generalize(⟨H.t,H.nx,lg⟩:Hp)=H at hp ⊢
 refine C1.body (E:=E2) (nt:=20) (res:=[.tmp 4,.tmp 5]) Tryz.func37 rfl rfl rfl rfl rfl λtm z0=>?_;have h0:=z0 0 _ rfl;have h1:=z0 1 _ rfl;clear z0;obtain⟨kb,m,lad,gr,fc,rfl,h2,h3,h4,h5,h6⟩:=hp
 refine qV ?_;repeat refine R1.aF ?_
 refine R1.rR λK hK=>?_;simp only[qB,aK,Nat.reduceLT,Nat.reduceEqDiff,Nat.reduceLeDiff,reduceIte,Nat.reduceAdd,Nat.reduceSub,Nat.reduceMul,Int.reduceLT,Int.reduceLE,Int.reduceBEq,ai,h0,h1,h2,h3,h4,gh,oP,wa,BJ,Ki h5];refine hK _ _ ?_;clear hK K;refine qG (qA ai pv) λK hK=>?_;refine WE.con (mZ H _ 4) λv H7 g7 hv=>?_;subst hv;refine qS ai ?_;refine hK _ _ ?_;clear hK K;refine qV ?_;exact⟨_,_,aZ _ _ (.inr rfl) rfl qp qp,g7,λ_=>rfl⟩
def oe:Option (List Lad)->List UInt8->Int
 |none,_=>1
 |some ls,s=>if(gN 0 ls s).isSome=true then 0 else 4
def Qb(H:Hp)(c:List AC)(o:Option (List Lad))(s:List UInt8):Prop:=
 (oe o s≠0->c=[.o (.str []),.o .nilS])∧∀ls i x,o=some ls->gN 0 ls s=some i->ls[i]?=some x->qh H c x
def OB(s:List UInt8):oe none s=1:=rfl
def jU(ls:List Lad)(s:List UInt8):oe (some ls) s=if(gN 0 ls s).isSome=true then 0 else 4:=rfl
def IJ{ls:List Lad}{s:List UInt8}{i:Nat}(h:gN 0 ls s=some i):∃x,ls[i]?=some x∧x.1=s:=by
 obtain⟨_,_,x,h3,h4⟩:=ML 0 ls s i h
 exact⟨x,h3,h4⟩
def qI{E:Env}{s q:Tmp}{t:TypeId}{n:Nat}{A:aa}{H H2:Hp}{e:ak}{id g lim:Nat}{cells:List AC}{c:AC}(ht:loadT E.P t=some (true,n))(he:e=.normal∨e=.ret)(hd:closeAll H A.dfr=some H2)(hs:slot A.tm s=.one (.o (.ptr id g 0 lim)))
  (hg:rowOf (H2.get id) g=some cells) (hl:n≤lim) (ho:cells.length=n) (hq:slot A.tm q=.one c):aC E [.cell s t,.tmp q] (e,A,H)=.ok [(.tup [(true,cells),(false,[c])],H2)]:=by
 have key:(aw (closeAll H A.dfr) (R.bad "marks") λh2=>aw (bQ E.P [.cell s t,.tmp q] A.tm h2) (.bad "results") λl=>.ok [(dU l,h2)])=.ok [(.tup [(true,cells),(false,[c])],H2)]:=by
  rw[hd];have e1:jM E.P (.cell s t) A.tm H2=some (true,cells):=by
   have e0:jM E.P (.cell s t)=match loadT E.P t with
     |some p=>λtm h=>aw (tm.get s) none λv=>ab.rec (motive:=λ_=>Option (Bool×List AC)) (λv _=>iZ v) (λ_=>none) (λ_ _=>none) (λ_ _=>none) (λ_=>none) (cH h p.1 p.2 v)
     |none=>λ_ _=>none:=rfl
   rw[e0,ht];show aw (A.tm.get s) none (λv=>ab.rec (motive:=λ_=>Option (Bool×List AC)) (λv _=>iZ v) (λ_=>none) (λ_ _=>none) (λ_ _=>none) (λ_=>none) (cH H2 true n v))=_;rw[IN hs];show ab.rec (motive:=λ_=>Option (Bool×List AC)) (λv _=>iZ v) (λ_=>none) (λ_ _=>none) (λ_ _=>none) (λ_=>none) (cH H2 true n (.one (.o (.ptr id g 0 lim))))=_;rw[gy,hg,tZ hl (by omega),List.drop_zero,List.take_of_length_le (by omega)];rfl
  have hr:bQ E.P [.cell s t,.tmp q] A.tm H2=some [(true,cells),(false,[c])]:=by
   show aw (jM E.P (.cell s t) A.tm H2) none (λx=>aw (aw (aw (A.tm.get q) none iZ) none λx=>aw (some []) none λl=>some (x::l)) none λl=>some (x::l))=_;rw[e1,IN hq];rfl
  show aw (bQ E.P [.cell s t,.tmp q] A.tm H2) (R.bad "results") (λl=>R.ok [(dU l,H2)])=_
  rw[hr];rfl
 rcases he with rfl|rfl
 ·exact key
 exact key
def lh(H:Hp)(p:AC)(o:Option (List Lad))(s:List UInt8)(hp:bF H p o)(hL:∀ls,o=some ls->∀x∈ls,x.2.length≤1000000):Con E2 14 [.one p,.one (.o (.str s))] H (λ_=>False) λr H'=>
  ∃c,r=.tup [(true,c),(false,[.i .i64 (oe o s)])]∧Qb H' c o s∧c.length=2:=by
 refine Con.of rfl λlg=>?_;have hp:bF ⟨H.t,H.nx,lg⟩ p o:=bF.same (H:=H) rfl rfl hp;generalize(⟨H.t,H.nx,lg⟩:Hp)=H at hp ⊢
 refine C1.body (E:=E2) (nt:=29) (res:=[.cell 4 51,.tmp 5]) Tryz.func14 rfl rfl rfl rfl rfl λtm z0=>?_;have h0:=z0 0 _ rfl;have h1:=z0 1 _ rfl;clear z0;refine qG (qA ai fh) λK hK=>?_;refine hK _ _ ?_;clear hK K;refine R1.gen (λA1 H1=>Gr H H1∧H.nx<H1.nx∧H1.get H.nx=some (.arr [.o (.str []),.o .nilS] 51 0 0)∧slot A1.tm 0=.one p∧slot A1.tm 1=.one (.o (.str s))∧slot A1.tm 4=.one (.o (.ptr H.nx 0 0 2))∧A1.nt=29∧A1.dfr=[])
  ⟨(Fr.refl _).new _,?_⟩ ?_
 ·exact qZ (qA h0 h1)
 rintro A1 H1 ⟨g1,n1,r4,t0,t1,t4,A0,B0⟩;clear h0 h1 tm;have hp1:=hp.gr g1;refine qG (zDe ai t0 A0 WV) λK hK=>?_;refine WE.con (Uy H1 p o hp1) λv H2 g2 hv=>?_;subst hv;refine qS (qA ai A0) ?_;refine hK _ _ ?_;clear hK K;have Q5:=hp1.gr g2;have g2':=g1.gr g2;have r4:H2.get H.nx=some (.arr [.o (.str []),.o .nilS] 51 0 0):=by rw[g2.get _ n1 zB2];exact r4
 have n2:H.nx<H2.nx:=zA0 n1 g2.nx;have fin:∀(A:aa)(H3:Hp)(c:List AC)(e:Int),slot A.tm 4=.one (.o (.ptr H.nx 0 0 2))->slot A.tm 5=.one (.i .i64 e)->A.dfr=[]->Gr H H3->H3.get H.nx=some (.arr c 51 0 0)->c.length=2->e=oe o s->Qb H3 c o s ->
   ∃w H4,aC E2 [.cell 4 51,.tmp 5] (.ret,A,H3)=.ok [(w,H4)]∧Gr H H4∧∀lg':List Nat,∃c,w=.tup [(true,c),(false,[.i .i64 (oe o s)])]∧Qb ⟨H4.t,H4.nx,lg'⟩ c o s∧c.length=2:=λA H3 c e h4 h5 hd hg hr hc he ha=>
  ⟨_,H3,qI (id:=H.nx) (g:=0) eP (.inr rfl) (by rw[hd];rfl) h4 (by rw[hr];exact cG (zA1 _) (zA1 _)) (zA1 _) hc h5,hg,λ_=>⟨c,by rw[he],ha,hc⟩⟩
 cases o with
 |none=>
  refine qY ?_;refine qW (zDi ai A0 fh sE t4 jC r4 n2) ?_;exact fin _ _ _ 1 (by simp only[ae,Nat.reduceEqDiff,reduceIte,t4]) qp (qd B0) (g2'.mod _ (.inl (zA1 _))) (an rfl) rfl rfl ⟨λ_=>rfl,λls i x h=>by cases h⟩
 |some ls=>
  refine qY ?_;refine R1.bA ?_;have Q5:ox H2 p ls:=Q5;refine qG (zDf ai t0 t1 A0 QZ) λK hK=>?_;refine WE.con (OK H2 p ls s Q5) λv H3 g3 hv=>?_;subst hv;refine qS (qA ai A0) ?_;refine hK _ _ ?_;clear hK K;have hp3:=Q5.gr g3;have r4:H3.get H.nx=some (.arr [.o (.str []),.o .nilS] 51 0 0):=by rw[g3.get _ n2 zB2];exact r4
  have n3:H.nx<H3.nx:=zA0 n2 g3.nx;have g3':=g2'.gr g3;cases hfi:gN 0 ls s with
  |none=>
   have hle:oe (some ls) s=4:=by rw[jU,hfi];rfl
   simp only[Option.isSome_none,Bool.false_eq_true,if_false];refine qW (qA ai A0) ?_;refine qY ?_;refine qW (zDi ai A0 fh sE t4 jC r4 n3) ?_;exact fin _ _ _ 4 (by simp only[ae,Nat.reduceEqDiff,reduceIte,t4]) qp (qd B0) (g3'.mod _ (.inl (zA1 _))) (an rfl) rfl hle.symm ⟨λ_=>rfl,λls' i x h h2=>by cases h;rw[hfi]at h2;cases h2⟩
  |some i=>
   have hle:oe (some ls) s=0:=by rw[jU,hfi];rfl
   obtain⟨x,hx,T4⟩:=IJ hfi
   simp only[Option.isSome_some,if_true,Option.getD_some];refine qW (qA ai A0) ?_;refine qY ?_;refine R1.bA ?_;obtain⟨kb,m,lad,gr,fc,rfl,k1,k2,k3,k4,k5⟩:=hp3
   have C0:i<ls.length:=(List.getElem?_eq_some_iff.1 hx).1;obtain⟨id,g,off,cells,rfl,hid,hg,K0⟩:=k5.open (by omega)
   obtain⟨u,hu,X2,O0,_⟩:=K0 i x hx
   refine qG (zDm ai t0 A0 k1 k3 jZ kW ez eP (ixC C0) hid (zDe hg X2 O0 Bb)) λK hK=>?_;refine WE.con (vw H3 x.1 u x.2 hu (hL ls rfl x (List.mem_of_getElem? hx))) λw H6 g6⟨u',hv,F_,G6⟩=>?_;subst hv;have r4:H6.get H.nx=some (.arr [.o (.str []),.o .nilS] 51 0 0):=by rw[g6.get _ n3 zB2];exact r4
   have n6:H.nx<H6.nx:=zA0 n3 g6.nx;have A6:SlP (H6.mod H.nx (.arr [.o (.str x.1),u'] 51 0 0)) u' x.2:=SlC.fr F_ dn λk h e=>by have:=G6 k h;omega
   refine qS (zDg ai A0 t4 jC r4 n6) ?_;refine hK _ _ ?_;clear hK K;refine qV ?_;exact fin _ _ _ 0 (by simp only[ae,Nat.reduceEqDiff,reduceIte,t4]) qp (qd B0) ((g3'.gr g6).mod _ (.inl (zA1 _))) (an rfl) rfl hle.symm ⟨λh=>absurd hle h,λls' j y h h2 h3=>by
    cases h
    rw[hfi]at h2;cases h2
    rw[hx]at h3;cases h3
    exact⟨u',rfl,A6⟩⟩
def Jn(H:Hp)(p:AC)(o:Option (List Lad))(hp:bF H p o)(hL:∀ls,o=some ls->∀x∈ls,x.2.length≤1000000):Con E2 95 [.one p] H (λ_=>False) λr _=>r=.one (.b o.isNone):=by
 refine Con.of rfl λlg=>?_;have hp:bF ⟨H.t,H.nx,lg⟩ p o:=bF.same (H:=H) rfl rfl hp;generalize(⟨H.t,H.nx,lg⟩:Hp)=H at hp ⊢
 refine C1.body (E:=E2) (nt:=12) (res:=[.tmp 2]) Tryz.func95 rfl rfl rfl rfl rfl λtm z0=>?_;have h0:=z0 0 _ rfl;clear z0;refine qV ?_;refine qG (zDd ai h0 nM) λK hK=>?_;refine WE.con (lh H p o [] hp hL) λv H2 g2⟨c,hv,ha,hc⟩=>?_;subst hv;refine qS (zDe ai fh jC hc) ?_;refine hK _ _ ?_;clear hK K;refine qV ?_;refine⟨_,_,aj (.b o.isNone) (.inr rfl) rfl ?_,(g2.new _).mod _ (.inl g2.nx),λ_=>rfl⟩
 simp only[ae,Nat.reduceEqDiff,reduceIte];have:(oe o []==1)=o.isNone:=by
  cases o with
  |none=>rfl
  |some ls=>rw[jU];split<;>rfl
 rw[this]
def Nb:loadT Tryz.prog 136=some (false,1):=by kernel_rfl
def LR:aT Tryz.prog 136=some 1:=by kernel_rfl
def MW:(ay Tryz.prog 136).map (λz=>(ofValue z).cells)=some [.o .nilS]:=by kernel_rfl
def KN:bt Tryz.prog 136=some (9,1):=by kernel_rfl
def Nr:eR Tryz.prog 136=some 1:=by kernel_rfl
def Lx:aR Tryz.prog 136=1:=by kernel_rfl
def KW:loadT Tryz.prog 138=some (true,3):=by kernel_rfl
def Ld:aT Tryz.prog 138=some 3:=by kernel_rfl
def KE:(ay Tryz.prog 138).map (λz=>(ofValue z).cells)=some [.o (.str []),.o (.str []),.o .nilS]:=by kernel_rfl
def Mq:aR Tryz.prog 138=4:=by kernel_rfl
def xJ:aE Tryz.prog 138 0=some (0,9,1):=by kernel_rfl
def As:aE Tryz.prog 138 1=some (1,9,1):=by kernel_rfl
def AJ:aE Tryz.prog 138 2=some (2,136,1):=by kernel_rfl
def tX:Nat->Option (Nat×Nat):=λi=>(#[(0,1),(1,1),(2,1)]:Array (Nat×Nat))[i]?
def JV:cB Tryz.prog 138=some tX:=by kernel_rfl
def Bl:tX 0=some (0,1):=rfl
def yL:tX 1=some (1,1):=rfl
def yB:tX 2=some (2,1):=rfl
def GB:loadT Tryz.prog 87=some (false,1):=by kernel_rfl
def FA:aT Tryz.prog 87=some 1:=by kernel_rfl
def FP:(ay Tryz.prog 87).map (λz=>(ofValue z).cells)=some [.o .nilS]:=by kernel_rfl
def Ed:bt Tryz.prog 87=some (138,3):=by kernel_rfl
def Dz:eR Tryz.prog 87=some 1:=by kernel_rfl
def Ej:aR Tryz.prog 87=1:=by kernel_rfl
def ZJ(s:List UInt8):List AC:=[.o (.str s)]
def ZK(s:List UInt8):(ZJ s).length=1:=rfl
def SlS(H:Hp)(v:AC)(l:List (List UInt8)):Prop:=SlC H v 1 l.length (l.flatMap ZJ)
abbrev Gd:=List UInt8×List UInt8×List (List UInt8)
def GdR(H:Hp)(c:List AC)(x:Gd):Prop:=∃u,c=[.o (.str x.1),.o (.str x.2.1),u]∧SlS H u x.2.2
def SlG(H:Hp)(v:AC)(gs:List Gd):Prop:=SlR GdR 3 H v gs
def ZO{cells:List AC}{o:Nat}{a b c:AC}(h:(cells.drop o).take 3=[a,b,c]):(cells.drop o).headD (.b false)=a∧(cells.drop (o+1)).headD (.b false)=b∧(cells.drop (o+2)).headD (.b false)=c:=by
 rw[<-List.drop_drop,<-List.drop_drop];cases hd:cells.drop o with
 |nil=>rw[hd]at h;cases h
 |cons x r=>
  rw[hd]at h;cases r with
  |nil=>cases h
  |cons y r=>
   cases r with
   |nil=>cases h
   |cons z r=>cases h;exact⟨rfl,rfl,rfl⟩
section
variable{st:Bool}{E:Env}{A:aa}{H:Hp}{next:aa->Hp->Prop}{d:Option Tmp}{ty:TypeId}{pos:String}{af:Array Edge}{gd:Option (Nat×Bool)}
theorem ma{t:TypeId}{x i:Operand}:SK st E ⟨d,.index t x i,ty,pos,af,gd⟩ A H next=vN next A d (ir H (lO E.P t) (ev A.tm x) (ev A.tm i) (aq E.P A.tm H ⟨d,.index t x i,ty,pos,af,gd⟩)):=kG
theorem SX{s:List UInt8}{n:Nat}{b:UInt8}{k:IntKind}{alt:ab}(h:s[n]?=some b):ir H true (.one (.o (.str s))) (.one (.i k (n:Int))) alt=.val (.one (.i .u8 (b.toNat:Int))) H:=by
 show nd (Wt n s) _ _=_;rw[KK,h];rfl
theorem XE{c:UInt8}{s:List UInt8}{k:IntKind}{alt:ab}:ir H true (.one (.o (.str (c::s)))) (.one (.i k 0)) alt=.val (.one (.i .u8 (c.toNat:Int))) H:=rfl
end
def wc:ao Tryz.prog 87=true:=by kernel_rfl
def Me(c:UInt8):okB c=(decide ((c.toNat:Int)=95)||(decide (97≤(c.toNat:Int))&&decide ((c.toNat:Int)≤122))||(decide (48≤(c.toNat:Int))&&decide ((c.toNat:Int)≤57))):=by
 rw[Bool.eq_iff_iff,By];simp only[Bool.or_eq_true,Bool.and_eq_true,decide_eq_true_eq,or_assoc]
def Dx(c:UInt8)(l:List UInt8):nmB (c::l)=(decide (l.length+1≤16)&&(decide (97≤(c.toNat:Int))&&decide ((c.toNat:Int)≤122))&&(c::l).all okB):=by
 unfold nmB;have e1:decide (97≤(c.toNat:Int))=decide ((97:UInt8)≤c):=by
  rw[decide_eq_decide,UInt8.le_iff_toNat_le];show(97:Int)≤c.toNat↔97≤c.toNat
  omega
 have e2:decide ((c.toNat:Int)≤122)=decide (c≤(122:UInt8)):=by
  rw[decide_eq_decide,UInt8.le_iff_toNat_le];show(c.toNat:Int)≤122↔c.toNat≤122
  omega
 rw[e1,e2];simp only[List.isEmpty_cons,Bool.not_false,Bool.true_and,List.length_cons,Bool.and_assoc]
def sN(H:Hp)(s:List UInt8):Con E2 87 [.one (.o (.str s))] H (λ_=>False) λv _=>v=.one (.b (nmB s)):=by
 refine Con.of rfl λlg=>?_;generalize(⟨H.t,H.nx,lg⟩:Hp)=H
 refine C1.body (E:=E2) (nt:=52) (res:=[.tmp 2]) Tryz.func87 rfl rfl rfl rfl rfl λtm z0=>?_;have h0:=z0 0 _ rfl;clear z0;cases s with
 |nil=>
  refine qW ai ?_;repeat refine R1.aF ?_
  refine R1.rR λK hK=>?_;simp only[qB,aK,Nat.reduceLT,Nat.reduceEqDiff,Nat.reduceLeDiff,reduceIte,Nat.reduceAdd,Nat.reduceSub,Nat.reduceMul,Int.reduceLT,Int.reduceLE,Int.reduceBEq,ai,h0,sf,ma,wG];refine hK _ _ ?_;clear hK K;refine qY ?_;refine qV ?_;exact⟨_,_,aj (.b false) (.inr rfl) rfl qp,Fr.refl _,λ_=>rfl⟩
 |cons c l=>
  have k9:(((l.length+1:Nat):Int)<1)=False:=eq_false (by omega);refine qW ai ?_;repeat refine R1.aF ?_
  refine R1.rR λK hK=>?_;simp only[qB,aK,Nat.reduceLT,Nat.reduceEqDiff,Nat.reduceLeDiff,reduceIte,Nat.reduceAdd,Nat.reduceSub,Nat.reduceMul,Int.reduceLT,Int.reduceLE,Int.reduceBEq,ai,h0,sf,ma,wG,XE,k9];repeat' (refine Kg (λhc=>?_) (λhc=>?_)<;>(try simp only[Bool.not_eq_true,Bool.not_eq_false,Classical.not_not]at hc)<;>simp only[hc,qB,aK,Nat.reduceLT,Nat.reduceEqDiff,Nat.reduceLeDiff,reduceIte,Nat.reduceAdd,Nat.reduceSub,Nat.reduceMul,Int.reduceLT,Int.reduceLE,Int.reduceBEq,ai,h0,sf,ma,wG,XE,k9])
  all_goals refine hK _ _ ?_
  all_goals clear hK K
  all_goals refine qE λKx Ky hx hy=>?_
  all_goals first|refine hx ?_|refine hy ?_|refine iy (λhd=>hx ?_) (λhd=>hy ?_)
  all_goals clear hx hy Kx Ky
  all_goals refine qV ?_
  all_goals first
   |(refine⟨_,_,aj (.b false) (.inr rfl) rfl qp,Fr.refl _,λ_=>?_⟩
     have:nmB (c::l)=false:=Bool.eq_false_iff.2 λh=>by
      rw[Dx]at h;simp only[Bool.and_eq_true,decide_eq_true_eq]at h;omega
     rw[this];done)
   |skip
  rename_i hl16
  have h_:nmB (c::l)=(c::l).all okB:=by
   rw[Dx,decide_eq_true (by omega:l.length+1≤16),decide_eq_true (by omega:97≤(c.toNat:Int)),decide_eq_true (by omega:(c.toNat:Int)≤122)];rfl
  rw[h_];clear h_ k9 hc hd;generalize hs:c::l=s at h0 ⊢;have hlen:s.length≤16:=by rw[<-hs,List.length_cons];omega
  clear hl16 hs;refine R1.ba λK k1 k2 k3 k4=>?_;refine R1.loop (λm A1 H1=>∃i:Nat,m=s.length-i∧i≤s.length∧H1=H∧(s.take i).all okB=true∧slot A1.tm 0=.one (.o (.str s))∧slot A1.tm 3=.one (.i .i64 (i:Int))∧A1.nt=52∧A1.dfr=[]) ?_ s.length
   ⟨0,rfl,Nat.zero_le _,rfl,rfl,?_,?_,rfl,rfl⟩
  ·clear h0 tm;rintro m A1 H1 ⟨i,rfl,hi,rfl,Z1,t0,t3,A0,B0⟩;refine qW (zDf ai t0 t3 A0 sf) ?_;refine qE λKx Ky hx hy=>?_;refine iy (λhc=>hx ?_) (λhc=>hy ?_)
   ·clear hx hy Kx Ky;have C0:i<s.length:=by omega
    have hb:s[i]?=some s[i]:=zB4 C0;have I2:s.take (i+1)=s.take i++[s[i]]:=List.take_succ_eq_append_getElem C0;have E0:s[i]∈s:=List.getElem_mem C0;generalize s[i]=b at hb I2 E0;refine R1.bA (R1.ba λK2 q1 q2 q3 q4=>?_);repeat refine R1.aF ?_
    refine R1.rR λK hK=>?_;simp only[qB,aK,Nat.reduceLT,Nat.reduceEqDiff,Nat.reduceLeDiff,reduceIte,Nat.reduceAdd,Nat.reduceSub,Nat.reduceMul,Int.reduceLT,Int.reduceLE,Int.reduceBEq,ai,t0,t3,A0,ma,wG,SX hb];refine hK _ _ ?_;clear hK K;refine qG (qA ai A0) λK hK=>?_;repeat' (refine Kg (λhc=>?_) (λhc=>?_)<;>(try simp only[Bool.not_eq_true,Bool.not_eq_false,Classical.not_not]at hc)<;>simp only[hc,qB,aK,Nat.reduceLT,Nat.reduceEqDiff,Nat.reduceLeDiff,reduceIte,Nat.reduceAdd,Nat.reduceSub,Nat.reduceMul,Int.reduceLT,Int.reduceLE,Int.reduceBEq,ai,A0])
    all_goals refine hK _ _ ?_
    all_goals clear hK K
    all_goals refine qE λKx Ky hx hy=>?_
    all_goals first|refine hx ?_|refine hy ?_|refine iy (λhd=>hx ?_) (λhd=>hy ?_)
    all_goals clear hx hy Kx Ky
    all_goals (try simp only[beq_eq_false_iff_ne,ne_eq,Classical.not_not]at hd)
    all_goals refine qW (qA t3 A0) ?_
    all_goals first
     |(refine q4 _ _ (k4 _ _ ⟨_,_,aj (.b false) (.inr rfl) (qd B0) qp,Fr.refl _,λ_=>?_⟩)
       have L5:okB b=false:=Bool.eq_false_iff.2 λh=>by
        rw[Me]at h;simp only[Bool.or_eq_true,Bool.and_eq_true,decide_eq_true_eq]at h;omega
       have:s.all okB=false:=List.all_eq_false.2 ⟨b,E0,by rw[L5];decide⟩;rw[this];done)
     |(refine q1 _ _ ?_
       have D0:okB b=true:=by
        rw[Me];simp only[Bool.or_eq_true,Bool.and_eq_true,decide_eq_true_eq];omega
       have B3:=zC0 i (by omega);refine qW (zDd t3 A0 B3) ?_;refine⟨s.length-(i+1),by omega,i+1,rfl,C0,rfl,by rw[I2,List.all_append,Z1,List.all_cons,D0];rfl,?_,?_,?_,?_⟩
       ·simp only[ae,Nat.reduceEqDiff,reduceIte,t0]
       ·simp only[ae,Nat.reduceEqDiff,reduceIte]
       ·simp only[az,A0]
       simp only[al,B0])
   clear hx hy Kx Ky;have S1:i=s.length:=by omega
   refine qW A0 ?_;refine k2 _ _ ?_;refine qW A0 ?_;refine⟨_,_,aj (.b true) (.inr rfl) (qd B0) qp,Fr.refl _,λ_=>?_⟩
   rw[S1,List.take_length]at Z1;rw[Z1]
  all_goals simp only[ae,Nat.reduceEqDiff,reduceIte,h0]
  all_goals rfl
def NK:ao Tryz.prog 88=true:=by kernel_rfl
def Ph:ao Tryz.prog 89=true:=by kernel_rfl
def HV:ao Tryz.prog 45=true:=by kernel_rfl
def mh:Nat->List Pr->List UInt8->Int
 |_,[],_=>-1
 |n,x::l,s=>if x.1=s then(n:Int)else mh (n+1) l s
def Iy(H:Hp)(n:List UInt8)(u:AC)(us:List Pr)(s:List UInt8)(hu:SlP H u us)(hL:us.length≤1000000):
  Con E2 88 [.agg [.o (.str n),u],.one (.o (.str s))] H (λ_=>False) λr _=>r=.one (.i .i64 (mh 0 us s)):=by
 refine Con.of rfl λlg=>?_;have hu:SlP ⟨H.t,H.nx,lg⟩ u us:=hu;generalize(⟨H.t,H.nx,lg⟩:Hp)=H at hu ⊢
 refine C1.body (E:=E2) (nt:=22) (res:=[.tmp 4]) Tryz.func88 rfl rfl rfl rfl rfl λtm z0=>?_;have h0:=z0 0 _ rfl;have h1:=z0 1 _ rfl;clear z0;generalize G0:mh 0 us s=r0;refine qG (qA ai h0) λK hK=>?_;refine hK _ _ ?_;clear hK K;refine R1.gen (λA1 H1=>Gr H H1∧H.nx<H1.nx∧H1.get H.nx=some (.arr [.o (.str n),u] 51 0 0)∧slot A1.tm 1=.one (.o (.str s))∧slot A1.tm 2=.one (.o (.ptr H.nx 0 0 2))∧A1.nt=22∧A1.dfr=[])
  ⟨(Fr.refl _).new _,?_⟩ ?_
 ·exact qZ h1
 rintro A1 H1 ⟨g1,lb,rb,t1,t2,A0,B0⟩;clear h0 h1 tm;have X1:=hu.gr g1;refine qW A0 ?_;refine R1.ba λK k1 k2 k3 k4=>?_;refine R1.loop (λk A H2=>∃i:Nat,k=us.length-i∧i≤us.length∧H2=H1∧mh i (us.drop i) s=r0∧slot A.tm 1=.one (.o (.str s))∧slot A.tm 2=.one (.o (.ptr H.nx 0 0 2))∧slot A.tm 5=.one (.i .i64 (i:Int))∧A.nt=22∧A.dfr=[]) ?_ us.length
  ⟨0,rfl,Nat.zero_le _,rfl,G0,?_⟩
 ·clear t1 t2 A0 B0 A1;rintro k A H2 ⟨i,rfl,hi,rfl,hr,t1,t2,t5,A0,B0⟩;refine qW (zDl ai t2 t5 A0 rb lb bY bZ dq X1.len X1.lt) ?_;refine qE λKx Ky hx hy=>?_;refine iy (λhc=>hx ?_) (λhc=>hy ?_)
  ·clear hx hy Kx Ky;have C0:i<us.length:=by omega
   obtain⟨id,g,off,cells,rfl,hid,B1,K0⟩:=X1.open (by omega)
   have ex:us[i]?=some us[i]:=zB4 C0;have N0:us.drop i=us[i]::us.drop (i+1):=List.drop_eq_getElem_cons C0;generalize us[i]=x at ex N0;have O0:=K0 i x ex;have B3:=zC0 i (by omega);rw[N0,mh]at hr;refine qV ?_;refine R1.ba λK2 q1 q2 q3 q4=>?_;refine qG (zDm ai t1 t2 t5 A0 rb lb bY bZ gT bJ (zDg bC (ixC C0) hid B1 O0.fst O0.le1)) λK hK=>?_;refine hK _ _ ?_;clear hK K;by_cases T4:x.1=s
   ·rw[zB0 T4]at hr;have ce:lEq x.1 s=true:=by rw[fF,T4,beq_self_eq_true]
    refine qX ce ?_;refine qW (qA A0 t5) ?_;exact q4 _ _ (k4 _ _ ⟨_,_,aj (.i .i64 (i:Int)) (.inr rfl) (qd B0) qp,g1,λ_=>by rw[<-hr]⟩)
   rw[zB1 T4]at hr;have ce:lEq x.1 s=false:=by rw[fF];exact zB5 T4
   refine qX ce ?_;refine qW A0 ?_;refine q1 _ _ ?_;refine qW (zDd A0 t5 B3) ?_;refine⟨us.length-(i+1),by omega,i+1,rfl,C0,rfl,hr,?_,?_,?_,?_,?_⟩
   ·simp only[ae,Nat.reduceEqDiff,reduceIte,t1]
   ·simp only[ae,Nat.reduceEqDiff,reduceIte,t2]
   ·simp only[ae,Nat.reduceEqDiff,reduceIte]
   ·simp only[az,A0]
   simp only[al,B0]
  clear hx hy Kx Ky;have S1:i=us.length:=by omega
  rw[S1,List.drop_length,mh]at hr;refine qW A0 ?_;refine k2 _ _ ?_;refine qW A0 ?_;exact⟨_,_,aj (.i .i64 (-1)) (.inr rfl) (qd B0) qp,g1,λ_=>by rw[<-hr]⟩
 simp only[ae,Nat.reduceEqDiff,reduceIte,az,al,t1,t2,A0,B0,and_self,true_and];exact⟨rfl,trivial⟩
def mP:Int->List Pr->Option (List Int)
 |_,[]=>some []
 |v,x::l=>if 1099511627776<v*x.2 then none else(mP (v*x.2) l).map (v*x.2::·)
def Df(n:Int):List AC:=[.i .i64 n]
def PZ(n:Int):(Df n).length=1:=rfl
def SlI(H:Hp)(v:AC)(l:List Int):Prop:=SlC H v 1 l.length (l.flatMap Df)
def Jh(H:Hp)(n:List UInt8)(u:AC)(us:List Pr)(hu:SlP H u us)(hL:us.length≤1000000)(hf:∀x∈us,1≤x.2∧x.2≤60):
  Con E2 89 [.agg [.o (.str n),u]] H (λ_=>False) λr H'=>∃c,r=.tup [(false,[c]),(false,[.b (mP 1 us).isSome])]∧SlI H' c ((mP 1 us).getD []):=by
 refine Con.of rfl λlg=>?_;have hu:SlP ⟨H.t,H.nx,lg⟩ u us:=hu;generalize(⟨H.t,H.nx,lg⟩:Hp)=H at hu ⊢
 refine C1.body (E:=E2) (nt:=29) (res:=[.tmp 2,.tmp 3]) Tryz.func89 rfl rfl rfl rfl rfl λtm z0=>?_;have h0:=z0 0 _ rfl;clear z0;generalize G0:mP 1 us=r0;refine qG (qA ai h0) λK hK=>?_;refine hK _ _ ?_;clear hK K;refine R1.gen (λA1 H1=>Gr H H1∧H.nx<H1.nx∧H1.get H.nx=some (.arr [.o (.str n),u] 51 0 0)∧slot A1.tm 1=.one (.o (.ptr H.nx 0 0 2))∧A1.nt=29∧A1.dfr=[])
  ⟨(Fr.refl _).new _,?_⟩ ?_
 ·exact qU
 rintro A1 H1 ⟨g1,lb,rb,t1,A0,B0⟩;clear h0 tm;obtain⟨zi,hzi,s_⟩:=Ct
 refine qW A0 ?_;refine R1.ba λK k1 k2 k3 k4=>?_;refine R1.loop (λk A H2=>∃(i:Nat)(out:List Int)(v:Int)(v4:AC)(r:Option Nat),k=us.length-i∧i≤us.length∧out.length=i∧Gr H1 H2∧1≤v∧v≤1099511627776∧(mP v (us.drop i)).map (out++·)=r0∧dg H2 v4 3 1 out.length (out.flatMap Df) r∧(∀q,r=some q->H1.nx≤q) ∧
  slot A.tm 1=.one (.o (.ptr H.nx 0 0 2))∧slot A.tm 4=.one v4∧slot A.tm 5=.one (.i .i64 v)∧slot A.tm 6=.one (.i .i64 (i:Int))∧A.nt=29∧A.dfr=[]) ?_ us.length
  ⟨0,[],1,.o .nilS,none,rfl,Nat.zero_le _,rfl,Fr.refl _,by omega,by omega,?_,.inl ⟨rfl,rfl,rfl,rfl⟩,λq hq=>(by cases hq),?_⟩
 ·clear t1 A0 B0 A1;rintro k A H2 ⟨i,out,v,v4,r,rfl,hi,L2,g2,G8,R6,hr,u_,P0,t1,t4,t5,t6,A0,B0⟩;have rb2:H2.get H.nx=some (.arr [.o (.str n),u] 51 0 0):=by rw[g2.get _ lb zB2];exact rb
  have lb2:H.nx<H2.nx:=zA0 lb g2.nx;have j6:=(hu.gr g1).gr g2;refine qW (zDl ai t1 t6 A0 rb2 lb2 bY bZ dq j6.len j6.lt) ?_;refine qE λKx Ky hx hy=>?_;refine iy (λhc=>hx ?_) (λhc=>hy ?_)
  ·clear hx hy Kx Ky;have C0:i<us.length:=by omega
   obtain⟨id,g,off,cells,rfl,hid,B1,K0⟩:=j6.open (by omega)
   have ex:us[i]?=some us[i]:=zB4 C0;have N0:us.drop i=us[i]::us.drop (i+1):=List.drop_eq_getElem_cons C0;have hff:=hf us[i] (List.getElem_mem C0);generalize us[i]=x at ex N0 hff;have O0:=K0 i x ex;have B3:=zC0 i (by omega);have a_:1≤v*x.2:=by
    have:=Int.mul_le_mul G8 hff.1 (by omega) (by omega);omega
   have hmul2:v*x.2≤1099511627776*60:=Int.mul_le_mul R6 hff.2 (by omega) (by omega);have hwm:IntKind.i64.wrap (v*x.2)=v*x.2:=aP (by omega) (by omega);rw[N0,mP]at hr;refine qV ?_;refine R1.ba λK2 q1 q2 q3 q4=>?_;refine qG (zDm ai t1 t5 t6 A0 rb2 lb2 bY bZ gT bU (zDh bE (ixC C0) hid B1 O0.snd O0.le2 hwm)) λK hK=>?_;refine hK _ _ ?_;clear hK K;refine qW A0 ?_;by_cases M0:1099511627776<v*x.2
   ·have cb:(1099511627776<v*x.2)=True:=eq_true M0;rw[zB0 M0]at hr;refine qX cb ?_;refine qW A0 ?_;refine q4 _ _ (k4 _ _ ⟨_,_,aZ (.o .nilS) (.b false) (.inr rfl) (qd B0) qp qp,g1.gr g2,λ_=>?_⟩);rw[<-hr];exact⟨_,rfl,by simp[SlI],.inl ⟨rfl,rfl⟩⟩
   have cb:(1099511627776<v*x.2)=False:=eq_false M0;rw[zB1 M0]at hr;obtain⟨hlt5,v6,H6,r6,Q2,ho6,D8,hr6⟩:=fI er sB hzi s_ (by decide) u_ [.i .i64 (v*x.2)] rfl (by omega)
   refine qX cb ?_;refine R1.bA ?_;refine qG (zDi ai t4 A0 er rO oz Q2 hlt5) λK hK=>?_;refine⟨hlt5,?_⟩
   refine hK _ _ ?_;clear hK K;refine q1 _ _ ?_;refine qW (zDd A0 t6 B3) ?_;refine⟨us.length-(i+1),by omega,i+1,out++[v*x.2],v*x.2,v6,some r6,rfl,C0,by rw[List.length_append,L2];rfl,g2.then D8 λq hq=>.inl (P0 q hq),a_,by omega,?_,?_,λq hq=>?_,?_,?_,?_,?_,?_,?_⟩
   ·rw[<-hr,Option.map_map];congr 1
    funext l
    simp
   ·have e2:(out++[v*x.2]).flatMap Df=out.flatMap Df++[.i .i64 (v*x.2)]:=by rw[List.flatMap_append];rfl
    rw[List.length_append,e2];exact ho6
   ·cases hq
    rcases hr6 with h|h
    ·exact P0 _ h
    exact zA2 g2.nx h
   ·simp only[ae,Nat.reduceEqDiff,reduceIte,t1]
   ·simp only[ae,Nat.reduceEqDiff,reduceIte]
   ·simp only[ae,Nat.reduceEqDiff,reduceIte]
   ·simp only[ae,Nat.reduceEqDiff,reduceIte]
   ·simp only[az,A0]
   simp only[al,B0]
  clear hx hy Kx Ky;have S1:i=us.length:=by omega
  rw[S1,List.drop_length,mP]at hr;refine qW A0 ?_;refine k2 _ _ ?_;refine qW (qA A0 t4) ?_;refine⟨_,_,aZ v4 (.b true) (.inr rfl) (qd B0) qp qp,g1.gr g2,λ_=>?_⟩
  rw[<-hr];refine⟨_,rfl,?_⟩
  have e:((Option.map (λx=>out++x) (some [])).getD [])=out:=by simp
  rw[e];exact u_.slc
 ·rw[List.drop_zero,G0];cases r0<;>simp
 simp only[ae,Nat.reduceEqDiff,reduceIte,az,al,t1,A0,B0,and_self,true_and];exact⟨rfl,trivial⟩
def kr(us:List Pr)(i:Nat)(x:Pr):Bool:=nmB x.1&&(decide (mh 0 us x.1=(i:Int))&&(if i=0 then x.2==1 else decide (2≤x.2)&&decide (x.2≤60)))
def fE(n:List UInt8)(us:List Pr):Bool:=nmB n&&decide (1≤us.length)&&decide (us.length≤12)&&((List.range us.length).all λi=>kr us i (us.getD i ([],0)))&&(mP 1 us).isSome
def kC{n:List UInt8}{us:List Pr}{i:Nat}{x:Pr}(hx:us[i]?=some x)(h:kr us i x=false):(if fE n us=true then 0 else 10)=(10:Int):=by
 have C0:i<us.length:=(List.getElem?_eq_some_iff.1 hx).1;have:((List.range us.length).all λi=>kr us i (us.getD i ([],0)))=false:=List.all_eq_false.2 ⟨i,List.mem_range.2 C0,by rw[List.getD_eq_getElem?_getD,hx];show¬kr us i x=true;rw[h];decide⟩;unfold fE;rw[this,Bool.and_false,Bool.false_and];rfl
def uk:∀(v:Int)(us:List Pr),(yv v us).length=us.length↔(∀x∈us,1≤x.2∧x.2≤60)∧(mP v us).isSome=true
 |_,[]=>⟨λ_=>⟨λx hx=>(by cases hx),rfl⟩,λ_=>rfl⟩
 |v,u::us=>by
  unfold yv mP;have ih:=uk (v*u.2) us;by_cases h:u.2<1∨60<u.2∨1099511627776<v*u.2
  ·rw[zB0 h];refine⟨λh'=>(by simp at h'),λ⟨h1,h2⟩=>?_⟩
   have h3:=h1 u (List.mem_cons_self ..);have h4:1099511627776<v*u.2:=by omega
   rw[zB0 h4]at h2;cases h2
  rw[zB1 h,zB1 (by omega),List.length_cons,List.length_cons,List.forall_mem_cons,Option.isSome_map];constructor
  ·intro h';obtain⟨a,b⟩:=ih.1 (by omega)
   exact⟨⟨by omega,a⟩,b⟩
  rintro⟨⟨_,a⟩,b⟩
  have:=ih.2 ⟨a,b⟩;omega
def Cf:∀(n:Nat)(us:List Pr)(i:Nat)(x:Pr),us[i]?=some x->(mh n us x.1=((n+i:Nat):Int)↔((us.take i).any λy=>y.1==x.1)=false)
 |_,[],_,_,h=>by simp at h
 |n,u::us,0,x,h=>by
  simp only[List.getElem?_cons_zero,Option.some.injEq]at h;subst h;unfold mh;rw[zB0 rfl];exact⟨λ_=>rfl,λ_=>rfl⟩
 |n,u::us,i+1,x,h=>by
  rw[List.getElem?_cons_succ]at h;unfold mh;rw[List.take_succ_cons,List.any_cons];by_cases hu:u.1=x.1
  ·rw[zB0 hu,hu,beq_self_eq_true,Bool.true_or];exact⟨λh=>by omega,λh=>by cases h⟩
  rw[zB1 hu,zB5 hu,Bool.false_or];have:=Cf (n+1) us i x h;have e:n+1+i=n+(i+1):=by omega
  rw[e]at this;exact this
def yq(n:List UInt8)(us:List Pr):fE n us=eL n us:=by
 rw[Bool.eq_iff_iff];unfold fE eL;simp only[Bool.and_eq_true,decide_eq_true_eq,List.all_eq_true,List.mem_range,Bool.not_eq_true',beq_eq_false_iff_ne];have K0:∀i,i<us.length->∃x,us[i]?=some x∧us.getD i ([],0)=x:=λi hi=>⟨us[i],zB4 hi,by rw[List.getD_eq_getElem?_getD,zB4 hi];rfl⟩;constructor
 ·rintro⟨⟨⟨⟨h1,h2⟩,h3⟩,h4⟩,h5⟩
  have fac:∀x∈us,1≤x.2∧x.2≤60:=λx hx=>by
   obtain⟨i,hi,rfl⟩:=List.getElem_of_mem hx
   have:=h4 i hi;rw[List.getD_eq_getElem?_getD,zB4 hi]at this;unfold kr at this;simp only[Option.getD_some,Bool.and_eq_true]at this;have h6:=this.2.2;split at h6
   ·have:=eq_of_beq h6;omega
   simp only[Bool.and_eq_true,decide_eq_true_eq]at h6;omega
  refine⟨⟨⟨⟨h1,by omega⟩,by omega⟩,(uk 1 us).2 ⟨fac,h5⟩⟩,λi hi=>?_⟩
  obtain⟨x,hx,hxd⟩:=K0 i hi
  have h6:=h4 i hi;rw[hxd]at h6 ⊢;unfold kr at h6;unfold okU;simp only[Bool.and_eq_true,decide_eq_true_eq]at h6;have h7:=(Cf 0 us i x hx).1 (by rw[Nat.zero_add];exact h6.2.1);rw[h6.1,h7];have h8:=h6.2.2;by_cases l5:i=0
  ·rw[zB0 l5]at h8;rw[h8,l5];rfl
  rw[zB1 l5]at h8;simp only[Bool.and_eq_true,decide_eq_true_eq]at h8;rw[zB5 (by omega:x.2≠1),zB5 (by omega:(i:Int)≠0)];rfl
 rintro⟨⟨⟨⟨h1,h2⟩,h3⟩,h4⟩,h5⟩
 obtain⟨fac,hv⟩:=(uk 1 us).1 h4
 refine⟨⟨⟨⟨h1,by omega⟩,by omega⟩,λi hi=>?_⟩,hv⟩
 obtain⟨x,hx,hxd⟩:=K0 i hi
 have h6:=h5 i hi;rw[hxd]at h6 ⊢;unfold okU at h6;unfold kr;simp only[Bool.and_eq_true,Bool.not_eq_true']at h6;have h7:=(Cf 0 us i x hx).2 h6.1.2;rw[Nat.zero_add]at h7;have hfx:=fac x (List.mem_of_getElem? hx);rw[h6.1.1,h7,decide_eq_true rfl];have h8:=eq_of_beq h6.2;by_cases l5:i=0
 ·rw[zB0 l5,h8,l5];rfl
 rw[zB1 l5];rw[zB5 (by omega:(i:Int)≠0)]at h8;have:x.2≠1:=λh=>by rw[h]at h8;cases h8
 rw[decide_eq_true (by omega:2≤x.2),decide_eq_true (by omega:x.2≤60)];rfl
def CZ(H:Hp)(n:List UInt8)(u:AC)(us:List Pr)(hu:SlP H u us):
  Con E2 45 [.agg [.o (.str n),u]] H (λ_=>False) λr _=>r=.one (.i .i64 (aH n us)):=by
 refine Con.of rfl λlg=>?_;have hu:SlP ⟨H.t,H.nx,lg⟩ u us:=hu;generalize(⟨H.t,H.nx,lg⟩:Hp)=H at hu ⊢
 unfold aH;rw[<-yq];refine C1.body (E:=E2) (nt:=77) (res:=[.tmp 2]) Tryz.func45 rfl rfl rfl rfl rfl λtm z0=>?_;have h0:=z0 0 _ rfl;clear z0;have fin:∀(e:Int)(A:aa)(H3:Hp),slot A.tm 2=.one (.i .i64 e)->A.dfr=[]->Gr H H3->e=(if fE n us=true then 0 else 10)->∃w H4,aC E2 [.tmp 2] (.ret,A,H3)=.ok [(w,H4)]∧Gr H H4∧∀_:List Nat,w=.one (.i .i64 (if fE n us=true then 0 else 10)):=λe A H3 h1 h2 h3 h4=>⟨_,H3,aj (.i .i64 e) (.inr rfl) h2 h1,h3,λ_=>by rw[h4]⟩;refine qG (qA ai h0) λK hK=>?_;refine hK _ _ ?_;clear hK K;refine R1.gen (λA1 H1=>Gr H H1∧H.nx<H1.nx∧H1.get H.nx=some (.arr [.o (.str n),u] 51 0 0)∧slot A1.tm 1=.one (.o (.ptr H.nx 0 0 2))∧A1.nt=77∧A1.dfr=[])
  ⟨(Fr.refl _).new _,?_⟩ ?_
 ·exact qU
 rintro A1 H1 ⟨g1,lb,rb,t1,A0,B0⟩;clear h0 tm;refine qG (zDi ai t1 A0 rb lb eS bC wc) λK hK=>?_;refine WE.con (sN H1 n) λw H2 g2 hw=>?_;subst hw;have g2':=g1.gr g2;have j6:=hu.gr g2';have rb:H2.get H.nx=some (.arr [.o (.str n),u] 51 0 0):=by rw[g2.get _ lb zB2];exact rb
 have lb:H.nx<H2.nx:=zA0 lb g2.nx;cases h_:nmB n with
 |false=>
  refine qS (qA ai A0) ?_;refine hK _ _ ?_;clear hK K;refine qY ?_;refine qW A0 ?_;exact fin 10 _ _ qp (qd B0) g2' (by unfold fE;rw[h_];rfl)
 |true=>
  by_cases h1:(us.length:Int)<1
  ·have c1:((us.length:Int)<1)=True:=eq_true h1;refine qS (zDl ai t1 A0 rb lb bY bZ dq j6.len j6.lt c1) ?_;refine hK _ _ ?_;clear hK K;refine qY ?_;refine qW A0 ?_;exact fin 10 _ _ qp (qd B0) g2' (by unfold fE;rw[decide_eq_false (by omega:¬1≤us.length)];simp)
  have c1:((us.length:Int)<1)=False:=eq_false h1;by_cases h12:(12:Int)<us.length
  ·have c12:((12:Int)<us.length)=True:=eq_true h12;refine qS (zDm ai t1 A0 rb lb bY bZ dq j6.len j6.lt c1 c12) ?_;refine hK _ _ ?_;clear hK K;refine qY ?_;refine qW A0 ?_;exact fin 10 _ _ qp (qd B0) g2' (by unfold fE;rw[decide_eq_false (by omega:¬us.length≤12)];simp)
  have c12:((12:Int)<us.length)=False:=eq_false h12;refine qS (zDm ai t1 A0 rb lb bY bZ dq j6.len j6.lt c1 c12) ?_;refine hK _ _ ?_;clear hK K;refine qY ?_;refine qW A0 ?_;refine R1.ba λK k1 k2 k3 k4=>?_;refine R1.loop (λk A H3=>∃i:Nat,k=us.length-i∧i≤us.length∧Gr H2 H3∧(∀j,j<i->kr us j (us.getD j ([],0))=true)∧slot A.tm 1=.one (.o (.ptr H.nx 0 0 2))∧slot A.tm 3=.one (.i .i64 (i:Int))∧A.nt=77∧A.dfr=[]) ?_ us.length
   ⟨0,rfl,Nat.zero_le _,Fr.refl _,λj hj=>absurd hj (Nat.not_lt_zero j),?_⟩
  ·clear t1 A0 B0 A1;rintro k A H3 ⟨i,rfl,hi,g3,Z1,t1,t3,A0,B0⟩;have g_:=j6.gr g3;have rb:H3.get H.nx=some (.arr [.o (.str n),u] 51 0 0):=by rw[g3.get _ lb zB2];exact rb
   have lb:H.nx<H3.nx:=zA0 lb g3.nx;refine qW (zDl ai t1 t3 A0 rb lb bY bZ dq g_.len g_.lt) ?_;refine qE λKx Ky hx hy=>?_;refine iy (λhc=>hx ?_) (λhc=>hy ?_)
   ·clear hx hy Kx Ky;have C0:i<us.length:=by omega
    have B3:=zC0 i (by omega);obtain⟨id,g,off,cells,rfl,hid,B1,K0⟩:=g_.open (by omega)
    have ex:us[i]?=some us[i]:=zB4 C0;generalize us[i]=x at ex;have O0:=K0 i x ex;refine qV ?_;refine R1.ba λK2 q1 q2 q3 q4=>?_;refine qG (zDm ai t1 t3 A0 rb lb bY bZ gT qR nX (zDh kN (ixC C0) hid B1 O0.all O0.le dW)) λK hK=>?_;refine hK _ _ ?_;clear hK K;refine R1.gen (λA4 H4=>Gr H3 H4∧H3.nx<H4.nx∧H4.get H3.nx=some (.arr (prC x) 133 0 0)∧slot A4.tm 1=.one (.o (.ptr H.nx 0 0 2))∧slot A4.tm 3=.one (.i .i64 (i:Int))∧slot A4.tm 4=.one (.o (.ptr H3.nx 0 0 2))∧A4.nt=77∧A4.dfr=[])
     ⟨((Fr.refl _).new _).mod _ (.inl (zA1 _)),?_⟩ ?_
    ·exact qZ (zDf t1 t3 A0 B0 dW)
    clear t1 t3 A0 B0 A;rintro A H4 ⟨g4,lx,rx,t1,t3,t4,A0,B0⟩;have rb:H4.get H.nx=some (.arr [.o (.str n),.o (.sl id g off us.length 2)] 51 0 0):=by rw[g4.get _ lb zB2];exact rb
    have lb:H.nx<H4.nx:=zA0 lb g4.nx;refine qG (zDj ai t4 A0 rx lx bJ bC dW wc) λK hK=>?_;refine WE.con (sN H4 x.1) λw H5 g5 hw=>?_;subst hw;have rb:H5.get H.nx=some (.arr [.o (.str n),.o (.sl id g off us.length 2)] 51 0 0):=by rw[g5.get _ lb zB2];exact rb
    have lb:H.nx<H5.nx:=zA0 lb g5.nx;have rx:H5.get H3.nx=some (.arr (prC x) 133 0 0):=by rw[g5.get _ lx zB2];exact rx
    have lx:H3.nx<H5.nx:=zA0 lx g5.nx;have g25:Gr H2 H5:=(g3.gr g4).gr g5;cases V0:nmB x.1 with
    |false=>
     refine qS (zDm ai t1 t3 t4 A0 rx lx rb lb bJ bU (zDe bC bE dW V0)) ?_;refine hK _ _ ?_;clear hK K;refine qY ?_;refine qW A0 ?_;exact q4 _ _ (k4 _ _ (fin 10 _ _ qp (qd B0) (g2'.gr g25) (by rw[kC ex (by unfold kr;rw[V0];rfl)])))
    |true=>
     have W4:=j6.gr g25;refine qS (zDm ai t1 t3 t4 A0 rx lx rb lb bJ bU (zDf bC bE dW eP NK)) ?_;refine WE.con (Iy H5 n _ us x.1 W4 (by omega)) λw H6 g6 hw=>?_;subst hw;have rx:H6.get H3.nx=some (.arr (prC x) 133 0 0):=by rw[g6.get _ lx zB2];exact rx
     have lx:H3.nx<H6.nx:=zA0 lx g6.nx;have g26:=g25.gr g6;by_cases hix:mh 0 us x.1=(i:Int)
     ·have cix:(mh 0 us x.1==(i:Int))=true:=by rw[beq_iff_eq];exact hix
      by_cases l5:i=0
      ·have ci0:((i:Int)==0)=true:=by rw[beq_iff_eq];omega
       have ci1:(0<(i:Int))=False:=eq_false (by omega);cases l6:(x.2==1)with
       |false=>
        refine qS (zDm ai t1 t3 t4 A0 rx lx rb lb bJ bU (zDg bC bE dW cix ci0 l6)) ?_;refine hK _ _ ?_;clear hK K;refine qY ?_;refine qW A0 ?_;exact q4 _ _ (k4 _ _ (fin 10 _ _ qp (qd B0) (g2'.gr g26) (by rw[kC ex (by unfold kr;rw[zB0 l5,l6,Bool.and_false,Bool.and_false])])))
       |true=>
        have D0:kr us i x=true:=by unfold kr;rw[V0,decide_eq_true hix,zB0 l5,l6];rfl
        refine qS (zDm ai t1 t3 t4 A0 rx lx rb lb bJ bU (zDh bC bE dW cix ci0 l6 ci1)) ?_;refine hK _ _ ?_;clear hK K;refine qY ?_;refine qW A0 ?_;refine q1 _ _ ?_;refine qW (zDd A0 t3 B3) ?_;refine⟨us.length-(i+1),by omega,i+1,rfl,C0,g26,λj hj=>?_,?_,?_,?_,?_⟩
        ·rcases Nat.lt_or_ge j i with h|h
         ·exact Z1 j h
         have:j=i:=by omega
         subst this;rw[List.getD_eq_getElem?_getD,ex];exact D0
        ·simp only[ae,Nat.reduceEqDiff,reduceIte,t1]
        ·simp only[ae,Nat.reduceEqDiff,reduceIte]
        ·simp only[az,A0]
        simp only[al,B0]
      have ci0:((i:Int)==0)=false:=zB5 (by omega);have ci1:(0<(i:Int))=True:=eq_true (by omega);by_cases P':x.2<2
      ·have cf2:(x.2<2)=True:=eq_true P';refine qS (zDm ai t1 t3 t4 A0 rx lx rb lb bJ bU (zDh bC bE dW cix ci0 ci1 cf2)) ?_;refine hK _ _ ?_;clear hK K;refine qY ?_;refine qW A0 ?_;exact q4 _ _ (k4 _ _ (fin 10 _ _ qp (qd B0) (g2'.gr g26) (by rw[kC ex (by unfold kr;rw[zB1 l5,decide_eq_false (by omega:¬2≤x.2),Bool.false_and,Bool.and_false,Bool.and_false])])))
      have cf2:(x.2<2)=False:=eq_false P';by_cases hf60:60<x.2
      ·have cf60:(60<x.2)=True:=eq_true hf60;refine qS (zDm ai t1 t3 t4 A0 rx lx rb lb bJ bU (zDi bC bE dW cix ci0 ci1 cf2 cf60)) ?_;refine hK _ _ ?_;clear hK K;refine qY ?_;refine qW A0 ?_;exact q4 _ _ (k4 _ _ (fin 10 _ _ qp (qd B0) (g2'.gr g26) (by rw[kC ex (by unfold kr;rw[zB1 l5,decide_eq_false (by omega:¬x.2≤60),Bool.and_false,Bool.and_false,Bool.and_false])])))
      have cf60:(60<x.2)=False:=eq_false hf60;have D0:kr us i x=true:=by unfold kr;rw[V0,decide_eq_true hix,zB1 l5,decide_eq_true (by omega:2≤x.2),decide_eq_true (by omega:x.2≤60)];rfl
      refine qS (zDm ai t1 t3 t4 A0 rx lx rb lb bJ bU (zDi bC bE dW cix ci0 ci1 cf2 cf60)) ?_;refine hK _ _ ?_;clear hK K;refine qY ?_;refine qW A0 ?_;refine q1 _ _ ?_;refine qW (zDd A0 t3 B3) ?_;refine⟨us.length-(i+1),by omega,i+1,rfl,C0,g26,λj hj=>?_,?_,?_,?_,?_⟩
      ·rcases Nat.lt_or_ge j i with h|h
       ·exact Z1 j h
       have:j=i:=by omega
       subst this;rw[List.getD_eq_getElem?_getD,ex];exact D0
      ·simp only[ae,Nat.reduceEqDiff,reduceIte,t1]
      ·simp only[ae,Nat.reduceEqDiff,reduceIte]
      ·simp only[az,A0]
      simp only[al,B0]
     have cix:(mh 0 us x.1==(i:Int))=false:=zB5 hix;refine qS (zDm ai t1 t3 t4 A0 rx lx rb lb bJ bU (zDe bC bE dW cix)) ?_;refine hK _ _ ?_;clear hK K;refine qY ?_;refine qW A0 ?_;exact q4 _ _ (k4 _ _ (fin 10 _ _ qp (qd B0) (g2'.gr g26) (by rw[kC ex (by unfold kr;rw[decide_eq_false hix,Bool.false_and,Bool.and_false])])))
   clear hx hy Kx Ky;have S1:i=us.length:=by omega
   have hall':((List.range us.length).all λi=>kr us i (us.getD i ([],0)))=true:=List.all_eq_true.2 λj hj=>Z1 j (by have:=List.mem_range.1 hj;omega);have fac:∀x∈us,1≤x.2∧x.2≤60:=λx hx=>by
    obtain⟨j,hj,rfl⟩:=List.getElem_of_mem hx
    have:=Z1 j (by omega);rw[List.getD_eq_getElem?_getD,zB4 hj]at this;unfold kr at this;simp only[Option.getD_some,Bool.and_eq_true]at this;have h6:=this.2.2;split at h6
    ·have:=eq_of_beq h6;omega
    simp only[Bool.and_eq_true,decide_eq_true_eq]at h6;omega
   refine qW A0 ?_;refine k2 _ _ ?_;refine qG (zDh ai t1 A0 rb lb eP Ph) λK hK=>?_;refine WE.con (Jh H3 n u us g_ (by omega) fac) λw H5 g5⟨c,hw,_⟩=>?_;subst hw;refine qS (qA ai A0) ?_;refine hK _ _ ?_;clear hK K;have g5':=(g2'.gr g3).gr g5;cases V3:(mP 1 us).isSome with
   |true=>
    refine qW A0 ?_;refine qY ?_;refine qW A0 ?_;refine fin 0 _ _ qp (qd B0) g5' ?_;have:fE n us=true:=by
     unfold fE;rw[h_,hall',V3,decide_eq_true (by omega:1≤us.length),decide_eq_true (by omega:us.length≤12)];rfl
    rw[this];rfl
   |false=>
    refine qW A0 ?_;refine qY ?_;refine qW A0 ?_;refine fin 10 _ _ qp (qd B0) g5' ?_;have:fE n us=false:=by
     unfold fE;rw[V3,Bool.and_false]
    rw[this];rfl
  simp only[ae,Nat.reduceEqDiff,reduceIte,az,al,t1,A0,B0,and_self,true_and];exact⟨rfl,trivial⟩
def HU:loadT Tryz.prog 123=some (true,2):=by kernel_rfl
def EK:aT Tryz.prog 123=some 2:=by kernel_rfl
def uP:(ay Tryz.prog 123).map (λz=>(ofValue z).cells)=some [.o .nilS,.o .nilS]:=by kernel_rfl
def FT:aR Tryz.prog 123=4:=by kernel_rfl
def gq:aE Tryz.prog 123 0=some (0,22,1):=by kernel_rfl
def vm:aE Tryz.prog 123 1=some (1,112,1):=by kernel_rfl
def wK:Nat->Option (Nat×Nat):=λi=>(#[(0,1),(1,1)]:Array (Nat×Nat))[i]?
def wO:cB Tryz.prog 123=some wK:=by kernel_rfl
def wb:wK 0=some (0,1):=rfl
def vS:wK 1=some (1,1):=rfl
def ya:loadT Tryz.prog 32=some (false,1):=by kernel_rfl
def yJ:aT Tryz.prog 32=some 1:=by kernel_rfl
def yZ:(ay Tryz.prog 32).map (λz=>(ofValue z).cells)=some [.o .nilP]:=by kernel_rfl
def xD:aR Tryz.prog 32=0:=by kernel_rfl
def Il:ao Tryz.prog 47=true:=by kernel_rfl
def YN:ao Tryz.prog 46=true:=by kernel_rfl
def WC:ao Tryz.prog 22=true:=by kernel_rfl
def FV(H:Hp)(n:List UInt8)(u:AC)(us:List Pr)(hu:SlP H u us)(hL:us.length≤1000000):
  Con E2 47 [.agg [.o (.str n),u]] H (λ_=>False) λr H'=>∃u',r=.agg [.o (.str n),u']∧SlP H' u' us∧∀id∈(AV.one u').ids,H.nx≤id:=by
 refine Con.of rfl λlg=>?_;have hu:SlP ⟨H.t,H.nx,lg⟩ u us:=hu;have e0:H.nx=(⟨H.t,H.nx,lg⟩:Hp).nx:=rfl;rw[e0];clear e0;generalize(⟨H.t,H.nx,lg⟩:Hp)=H at hu ⊢
 refine C1.body (E:=E2) (nt:=11) (res:=[.cell 2 51]) Tryz.func47 rfl rfl rfl rfl rfl λtm z0=>?_;have h0:=z0 0 _ rfl;clear z0;refine qG (zDd ai h0 fh) λK hK=>?_;refine hK _ _ ?_;clear hK K;refine R1.gen (λA1 H1=>Gr H H1∧H.nx+1<H1.nx∧H1.get H.nx=some (.arr [.o (.str n),u] 51 0 0)∧H1.get (H.nx+1)=some (.arr [.o (.str []),.o .nilS] 51 0 0)∧slot A1.tm 1=.one (.o (.ptr H.nx 0 0 2))∧slot A1.tm 2=.one (.o (.ptr (H.nx+1) 0 0 2))∧A1.nt=11∧A1.dfr=[])
  ⟨((Fr.refl _).new _).new _,?_⟩ ?_
 ·exact qU
 rintro A1 H1 ⟨g1,n1,r1,r2,t1,t2,A0,B0⟩;clear h0 tm;have X1:SlP H1 u us:=hu.gr g1;have l1:H.nx<H1.nx:=by omega
 have hlu:ltV (.one u) H1.nx:=X1.lt;obtain⟨z,hz,B2⟩:=Ma
 refine qG (qA ai A0) λK hK=>?_;refine hK _ _ ?_;clear hK K;obtain⟨v,H2,Q2,hv,hvn,g2⟩:=MD gT LO hz B2 (by decide) X1 (by omega)
 clear hz B2 z;have r2:H2.get (H.nx+1)=some (.arr [.o (.str []),.o .nilS] 51 0 0):=by rw[g2.get _ n1 zB2];exact r2
 have n2:H.nx+1<H2.nx:=zA0 n1 g2.nx;have m9:FrL H1.nx H1 H2:=FrL.of g2 λ_ h=>h.elim;have hv3:SlP (H2.mod (H.nx+1) (.arr [.o (.str n),v] 51 0 0)) v us:=SlC.fr hv (X:=λk=>k=H.nx+1) ((Fr.refl _).mod _ (.inr rfl)) λid h hh=>by have:=hvn id h;omega
 have hv4:∀id∈(AV.one v).ids,H.nx≤id:=λid h=>by have:=hvn id h;omega
 clear hvn;replace hv3:Hd _:=hv3;replace hv4:Hd _:=hv4;refine R1.s_q 7 (by kernel_rfl) λK hK=>?_;refine zQ (zDk ai eS bY bC bZ fh sE qK qf jC) ?_;refine hK.out _ _ ?_;refine qV ?_;exact⟨_,_,ot (id:=H.nx+1) (g:=0) eP (.inr rfl) (by simp only[al,B0];rfl) (by simp only[ae,Nat.reduceEqDiff,reduceIte,t2]) (by rw[an rfl];exact cG (zA1 _) (zA1 _)) (zA1 _) rfl,(g1.gr g2).mod _ (.inl (Nat.le_succ _)),λ_=>⟨v,rfl,hv3.out,hv4.out⟩⟩
def RBk(H:Hp)(p:AC)(ls:List Lad):Prop:=∃kb lad,p=.o (.ptr kb 0 0 2)∧kb<H.nx∧H.get kb=some (.arr [lad,.o .nilS] 123 0 0)∧eM H lad ls
def atN:Nat->List Lad->List UInt8->Int
 |_,[],_=>-1
 |n,x::l,s=>if x.1=s then(n:Int)else atN (n+1) l s
def CG:∀(n:Nat)(ls:List Lad)(s:List UInt8),atN n ls s=(gN n ls s).elim (-1) λi=>(i:Int)
 |_,[],_=>rfl
 |n,x::l,s=>by
  unfold atN gN;by_cases h:x.1=s
  ·rw[zB0 h,zB0 h];rfl
  rw[zB1 h,zB1 h];exact CG (n+1) l s
def Vm(H:Hp)(p:AC)(ls:List Lad)(s:List UInt8)(hp:RBk H p ls)(hL:ls.length≤1000000):
  Con E2 46 [.one p,.one (.o (.str s))] H (λ_=>False) λr _=>r=.one (.i .i64 (atN 0 ls s)):=by
 refine Con.of rfl λlg=>?_;have hp:RBk ⟨H.t,H.nx,lg⟩ p ls:=hp;generalize(⟨H.t,H.nx,lg⟩:Hp)=H at hp ⊢
 refine C1.body (E:=E2) (nt:=26) (res:=[.tmp 4]) Tryz.func46 rfl rfl rfl rfl rfl λtm z0=>?_;have h0:=z0 0 _ rfl;have h1:=z0 1 _ rfl;clear z0;obtain⟨kb,lad,rfl,k1,k2,hl⟩:=hp
 generalize G0:atN 0 ls s=r0;refine qV ?_;refine R1.ba λK k1' k2' k3 k4=>?_;refine R1.loop (λk A H2=>∃i:Nat,k=ls.length-i∧i≤ls.length∧H2=H∧atN i (ls.drop i) s=r0∧slot A.tm 0=.one (.o (.ptr kb 0 0 2))∧slot A.tm 1=.one (.o (.str s))∧slot A.tm 5=.one (.i .i64 (i:Int))∧A.nt=26∧A.dfr=[]) ?_ ls.length
  ⟨0,rfl,Nat.zero_le _,rfl,G0,?_⟩
 ·clear h0 h1 tm;rintro k A H2 ⟨i,rfl,hi,rfl,hr,t0,t1,t5,A0,B0⟩;refine qW (zDl ai t0 t5 A0 k1 k2 gq kW ig hl.len hl.lt) ?_;refine qE λKx Ky hx hy=>?_;refine iy (λhc=>hx ?_) (λhc=>hy ?_)
  ·clear hx hy Kx Ky;have C0:i<ls.length:=by omega
   obtain⟨id,g,off,cells,rfl,hid,B1,K0⟩:=hl.open (by omega)
   have ex:ls[i]?=some ls[i]:=zB4 C0;have N0:ls.drop i=ls[i]::ls.drop (i+1):=List.drop_eq_getElem_cons C0;generalize ls[i]=x at ex N0;obtain⟨u,hu,X2,O0,M6,hx3,v8,hx5⟩:=K0 i x ex
   have B3:=zC0 i (by omega);rw[N0,atN]at hr;refine qV ?_;refine R1.ba λK2 q1 q2 q3 q4=>?_;refine qG (zDm ai t0 t1 t5 A0 k1 k2 gq kW ez eS (zDg bC (ixC C0) hid B1 M6 v8)) λK hK=>?_;refine hK _ _ ?_;clear hK K;by_cases T4:x.1=s
   ·rw[zB0 T4]at hr;have ce:lEq x.1 s=true:=by rw[fF,T4,beq_self_eq_true]
    refine qX ce ?_;refine qW (qA A0 t5) ?_;exact q4 _ _ (k4 _ _ ⟨_,_,aj (.i .i64 (i:Int)) (.inr rfl) (qd B0) qp,Fr.refl _,λ_=>by rw[<-hr]⟩)
   rw[zB1 T4]at hr;have ce:lEq x.1 s=false:=by rw[fF];exact zB5 T4
   refine qX ce ?_;refine qW A0 ?_;refine q1 _ _ ?_;refine qW (zDd A0 t5 B3) ?_;refine⟨ls.length-(i+1),by omega,i+1,rfl,C0,rfl,hr,?_,?_,?_,?_,?_⟩
   ·simp only[ae,Nat.reduceEqDiff,reduceIte,t0]
   ·simp only[ae,Nat.reduceEqDiff,reduceIte,t1]
   ·simp only[ae,Nat.reduceEqDiff,reduceIte]
   ·simp only[az,A0]
   simp only[al,B0]
  clear hx hy Kx Ky;have S1:i=ls.length:=by omega
  rw[S1,List.drop_length,atN]at hr;refine qW A0 ?_;refine k2' _ _ ?_;refine qW A0 ?_;exact⟨_,_,aj (.i .i64 (-1)) (.inr rfl) (qd B0) qp,Fr.refl _,λ_=>by rw[<-hr]⟩
 simp only[ae,Nat.reduceEqDiff,reduceIte,az,al,h0,h1,and_self,true_and];exact⟨rfl,trivial⟩
structure RB(n0 kb:Nat)(ll:List Lad)(H1:Hp)(lad:AC)(r1:Option Nat):Prop where
 kbg:H1.get kb=some (.arr [lad,.o .nilS] 123 0 0)
 o1:∃css:List (List AC),dg H1 lad 51 2 ll.length (css.flatMap id) r1∧Al (λc x=>c.length=2∧∃u,c=[.o (.str x.1),u]∧SlP H1 u x.2∧∀id∈(AV.one u).ids,id≠kb∧some id≠r1) css ll
 kn:n0≤kb∧kb<H1.nx
 n1:∀q,r1=some q->n0≤q∧q<H1.nx∧q≠kb
section
variable{n0 kb:Nat}{ll:List Lad}{H1 H2:Hp}{lad:AC}{r1:Option Nat}
theorem RB.JF(h:RB n0 kb ll H1 lad r1)(hg:Gr H1 H2):RB n0 kb ll H2 lad r1 where
 kbg:=by rw[hg.get _ h.kn.2 zB2];exact h.kbg
 o1:=let ⟨css,a,b⟩:=h.o1;⟨css,a.fr hg λ_ _ h=>h,b.mono λc x⟨hc,u,e,hu,hi⟩=>⟨hc,u,e,hu.gr hg,hi⟩⟩
 kn:=⟨h.kn.1,zA0 h.kn.2 hg.nx⟩
 n1:=λq hq=>let ⟨a,b,c⟩:=h.n1 q hq;⟨a,zA0 b hg.nx,c⟩
theorem RB.YA(h:RB n0 kb ll H1 lad r1){x:Lad}{u v5:AC}{r5:Nat}{H5:Hp}(hu:SlP H1 u x.2)(hi:∀id∈(AV.one u).ids,id≠kb∧some id≠r1)
  {css:List (List AC)} (M8:Al (λc x=>c.length=2∧∃u,c=[.o (.str x.1),u]∧SlP H1 u x.2∧∀id∈(AV.one u).ids,id≠kb∧some id≠r1) css ll)
  (ho:dg H5 v5 51 2 (ll.length+1) (css.flatMap id++[.o (.str x.1),u]) (some r5)) (hf:Fr (λi=>r1=some i) H1 H5) (hr:r1=some r5∨H1.nx≤r5):
  RB n0 kb (ll++[x]) (H5.mod kb (.arr [v5,.o .nilS] 123 0 0)) v5 (some r5):=by
 have r5kb:r5≠kb:=by
  rcases hr with e|e
  ·exact(h.n1 _ e).2.2
  have:=h.kn.2;omega
 have n0le:n0≤H1.nx:=zA2 h.kn.1 (Nat.le_of_lt h.kn.2);have lt5:r5<H5.nx:=by
  rcases ho with⟨_,_,_,e⟩|⟨id,lo,gen,e,_,_,_,_,hl⟩
  ·cases e
  cases e;exact hl
 have keep:∀{c:List AC}{x:Lad},(c.length=2∧∃u,c=[.o (.str x.1),u]∧SlP H1 u x.2∧∀id∈(AV.one u).ids,id≠kb∧some id≠r1) ->
   c.length=2∧∃u,c=[.o (.str x.1),u]∧SlP (H5.mod kb (.arr [v5,.o .nilS] 123 0 0)) u x.2∧∀id∈(AV.one u).ids,id≠kb∧some id≠some r5:=by
  rintro c x ⟨hc,u,e,hu,hi⟩;refine⟨hc,u,e,SlC.fr (SlC.fr hu hf λi h' e=>(hi i h').2 e.symm) dn λi h' e=>(hi i h').1 e,λi h'=>⟨(hi i h').1,λe=>?_⟩⟩
  cases e
  rcases hr with e|e
  ·exact(hi _ h').2 e.symm
  have:=hu.lt _ h';omega
 refine⟨an rfl,⟨css++[[.o (.str x.1),u]],?_,?_⟩,⟨h.kn.1,zA0 h.kn.2 hf.nx⟩,?_⟩
 ·rw[List.length_append,List.length_singleton,List.flatMap_append];exact ho.fr dn λi hi e=>by cases hi;exact r5kb e
 ·exact Al.app (M8.mono λc x hc=>keep hc) (keep ⟨rfl,u,rfl,hu,hi⟩)
 intro q hq;cases hq
 refine⟨?_,lt5,r5kb⟩
 rcases hr with e|e
 ·exact(h.n1 _ e).1
 omega
theorem RB.book(h:RB n0 kb ll H1 lad r1):RBk H1 (.o (.ptr kb 0 0 2)) ll:=by
 obtain⟨css,a,b⟩:=h.o1
 exact⟨kb,lad,rfl,h.kn.2,h.kbg,css,a.slc,b.mono λc x⟨hc,u,e,hu,_⟩=>⟨hc,u,e,hu⟩⟩
end
def TI(H:Hp)(v:AC)(ls:List Lad)(hl:eM H v ls):
  Con E2 22 [.one v,.one (.o .nilS)] H (λ_=>False) λr H'=>∃p,r=.tup [(false,[p]),(false,[.i .i64 (kR ls)])]∧(kR ls=0->RBk H' p ls)∧(kR ls≠0->p=.o .nilP):=by
 refine Con.of rfl λlg=>?_;have hl:eM ⟨H.t,H.nx,lg⟩ v ls:=hl;generalize(⟨H.t,H.nx,lg⟩:Hp)=H at hl ⊢
 refine C1.body (E:=E2) (nt:=86) (res:=[.tmp 4,.tmp 5]) Tryz.func22 rfl rfl rfl rfl rfl λtm z0=>?_;have h0:=z0 0 _ rfl;have h1:=z0 1 _ rfl;clear z0;have lnB:eR Tryz.prog 112=some 1:=by kernel_rfl
 by_cases h32:(32:Int)<ls.length
 ·have c32:((32:Int)<ls.length)=True:=eq_true h32;refine qW ai ?_;refine qG (zDh ai h0 h1 ig hl.len hl.lt c32) λK hK=>?_;refine hK _ _ ?_;clear hK K;refine qY ?_;refine qV ?_;refine⟨_,_,aZ (.o .nilP) (.i .i64 3) (.inr rfl) rfl (by simp only[ae,Nat.reduceEqDiff,reduceIte,ri]) qp,Fr.refl _,λ_=>?_⟩
  have:kR ls=3:=zB0 h32;rw[this];exact⟨_,rfl,λh=>(by cases h),λ_=>rfl⟩
 have c32:((32:Int)<ls.length)=False:=eq_false h32;refine qW ai ?_;refine qG (zDi ai h0 h1 ig hl.len hl.lt c32 lnB) λK hK=>?_;refine hK _ _ ?_;clear hK K;refine qY ?_;refine R1.bA ?_;refine qG (zDd ai uP wO) λK hK=>?_;refine hK _ _ ?_;clear hK K;refine R1.gen (λA1 H1=>Gr H H1∧RB H.nx H.nx [] H1 (.o .nilS) none∧slot A1.tm 0=.one v∧slot A1.tm 1=.one (.o .nilS)∧slot A1.tm 6=.one (.o (.ptr H.nx 0 0 2))∧A1.nt=86∧A1.dfr=[])
  ⟨(Fr.refl _).new _,⟨aB rfl,⟨[],.inl ⟨rfl,rfl,rfl,rfl⟩,trivial⟩,⟨zA1 _,zA6 _⟩,λq h=>(by cases h)⟩,?_⟩ ?_
 ·exact qZ (qA h0 h1)
 clear h0 h1 tm;rintro A1 H1 ⟨g1,nb,t0,t1,t6,A0,B0⟩;obtain⟨kb,L7⟩:∃k,k=H.nx:=⟨_,rfl⟩
 rw[<-L7]at t6;have nb:RB H.nx kb [] H1 (.o .nilS) none:=by rw[L7];exact nb
 clear L7;have B4:kR ls=rG [] ls:=zB1 h32;rw[B4];generalize G0:rG [] ls=r0;refine qW A0 ?_;refine R1.ba λK k1 k2 k3 k4=>?_;refine R1.loop (λk A2 H2=>∃(i:Nat)(lad:AC)(r1:Option Nat),k=ls.length-i∧i≤ls.length∧RB H.nx kb (ls.take i) H2 lad r1∧Gr H H2∧rG (ls.take i) (ls.drop i)=r0 ∧
  slot A2.tm 0=.one v∧slot A2.tm 1=.one (.o .nilS)∧slot A2.tm 6=.one (.o (.ptr kb 0 0 2))∧slot A2.tm 7=.one (.i .i64 (i:Int))∧A2.nt=86∧A2.dfr=[]) ?_ ls.length
  ⟨0,_,_,rfl,Nat.zero_le _,nb,g1,G0,?_⟩
 ·clear t0 t1 t6 A0 B0 A1;rintro k A H1 ⟨i,lad,r1,rfl,hi,nb,g1,hr,t0,t1,t6,t7,A0,B0⟩;have k9:=hl.gr g1;refine qW (zDh ai t0 t7 A0 ig k9.len k9.lt) ?_;refine qE λKx Ky hx hy=>?_;refine iy (λhc=>hx ?_) (λhc=>hy ?_)
  ·clear hx hy Kx Ky;have C0:i<ls.length:=by omega
   obtain⟨id,g,off,cells,rfl,U2,U6,K0⟩:=hl.open (by omega)
   have hid:id<H1.nx:=zA0 U2 g1.nx;have hg:rowOf (H1.get id) g=some cells:=by rw[g1.get _ U2 zB2];exact U6
   have ex:ls[i]?=some ls[i]:=zB4 C0;have N0:ls.drop i=ls[i]::ls.drop (i+1):=List.drop_eq_getElem_cons C0;have I2:ls.take (i+1)=ls.take i++[ls[i]]:=List.take_succ_eq_append_getElem C0;generalize ls[i]=x at ex N0 I2;obtain⟨u,C',X2,O0,M6,hx3,v8,hx5⟩:=K0 i x ex
   have hu:SlP H1 u x.2:=C'.gr g1;have P5:(ls.take i).length=i:=by rw[List.length_take];omega
   have hi32:ls.length≤32:=by omega
   have B3:=zC0 i (by omega);rw[N0,rG]at hr;refine qV ?_;refine R1.ba λK2 q1 q2 q3 q4=>?_;refine qG (zDm ai t0 t7 A0 ez eP (ixC C0) hid hg X2 O0 HV) λK hK=>?_;refine WE.con (CZ H1 x.1 u x.2 hu) λw H4 g4 hv=>?_;subst hv;have nb4:=nb.JF g4;have g4':=g1.gr g4;have Y6:id<H4.nx:=zA0 hid g4.nx;have hg4:rowOf (H4.get id) g=some cells:=by rw[g4.get _ hid zB2];exact hg
   refine qS (qA ai A0) ?_;refine hK _ _ ?_;clear hK K;refine qW (qA ai A0) ?_;refine qE λKx Ky hx hy=>?_;refine iy (λhd=>hx ?_) (λhd=>hy ?_)
   ·clear hx hy Kx Ky;have Z0:aH x.1 x.2≠0:=by simpa using hd
    rw[zB0 Z0]at hr;subst hr;refine qW (qA ai A0) ?_;refine q4 _ _ (k4 _ _ ⟨_,_,aZ (.o .nilP) (.i .i64 (aH x.1 x.2)) (.inr rfl) (qd B0) (by simp only[ae,Nat.reduceEqDiff,reduceIte,ri]) qp,g4',λ_=>⟨_,rfl,λh=>absurd h Z0,λ_=>rfl⟩⟩)
   clear hx hy Kx Ky;have hz:aH x.1 x.2=0:=by simpa using hd
   rw[zB1 (λh=>h hz)]at hr;have hL12:=iY hz;refine R1.bA ?_;refine qG (zDm ai t0 t6 t7 A0 ez eS bC (ixC C0) Y6 hg4 (zDd M6 v8 YN)) λK hK=>?_;refine WE.con (Vm H4 _ (ls.take i) x.1 nb4.book (by omega)) λw H5 g5 hw=>?_;subst hw;have nb5:=nb4.JF g5;have g5':=g4'.gr g5;have hid5:id<H5.nx:=zA0 Y6 g5.nx;have hg5:rowOf (H5.get id) g=some cells:=by rw[g5.get _ Y6 zB2];exact hg4
   cases M4:gN 0 (ls.take i) x.1 with
   |some j=>
    have cge:(0≤atN 0 (ls.take i) x.1)=True:=eq_true (by rw[CG,M4,Option.elim_some];omega);rw[zB0 (by rw[M4];rfl)]at hr;subst hr;refine qS (zDd ai A0 cge) ?_;refine hK _ _ ?_;clear hK K;refine qY ?_;refine qW (qA ai A0) ?_;refine q4 _ _ (k4 _ _ ⟨_,_,aZ (.o .nilP) (.i .i64 2) (.inr rfl) (qd B0) (by simp only[ae,Nat.reduceEqDiff,reduceIte,ri]) qp,g5',λ_=>⟨_,rfl,λh=>(by cases h),λ_=>rfl⟩⟩)
   |none=>
    have cge:(0≤atN 0 (ls.take i) x.1)=False:=eq_false (by rw[CG,M4,Option.elim_none];omega);rw[zB1 (by rw[M4];decide)]at hr;refine qS (zDd ai A0 cge) ?_;refine hK _ _ ?_;clear hK K;refine qY ?_;refine R1.bA ?_;have o7:H.nx≤kb:=nb5.kn.1;have lkb:=nb5.kn.2;have rkb:=nb5.kbg;have W4:SlP H5 u x.2:=C'.gr g5';refine qH (zDm ai t0 t6 t7 A0 rkb lkb gq kW eP ez (zDg (ixC C0) hid5 hg5 X2 O0 Il)) λK hK=>?_;refine WE.xk (FV H5 x.1 u x.2 W4 (by omega)) λw H6 g6⟨u',hv,F_,G6⟩=>?_;subst hv;have nb6:=nb5.JF g6;obtain⟨css,ho1,M8⟩:=nb6.o1
    obtain⟨zl,B2,hzll⟩:=JM
    obtain⟨v_,v7,H7,r7,Q2,ho7,k_,I_⟩:=fI ez Jo B2 hzll (by decide) ho1 [.o (.str x.1),u'] rfl (by rw[P5];omega)
    have rk7:H7.get kb=some (.arr [lad,.o .nilS] 123 0 0):=by rw[k_.get _ nb6.kn.2 (λe=>(nb6.n1 _ e).2.2 rfl)];exact nb6.kbg
    have lk7:kb<H7.nx:=zA0 nb6.kn.2 k_.nx;have b9:∀k∈(AV.one u').ids,k≠kb∧some k≠r1:=λk h=>by
     have h5:=G6 k h;refine⟨by omega,λe=>?_⟩
     have:=(nb5.n1 _ e.symm).2.1;omega
    have nb8:=nb6.YA F_ b9 M8 ho7 k_ I_;have g8:Gr H (H7.mod kb (.arr [v7,.o .nilS] 123 0 0)):=((g5'.gr g6).then k_ λk hk=>.inl (nb6.n1 _ hk).1).mod _ (.inl o7);refine qS (zDm ai t6 A0 ez fh oz v_ Q2 rk7 lk7 gq tS) ?_;refine⟨v_,?_⟩
    refine hK _ _ ?_;clear hK K;refine q1 _ _ ?_;refine qW (zDd A0 t7 B3) ?_;rw[<-I2]at nb8 hr;refine⟨ls.length-(i+1),by omega,i+1,_,_,rfl,C0,nb8,g8,hr,?_,?_,?_,?_,?_,?_⟩
    ·simp only[ae,Nat.reduceEqDiff,reduceIte,t0]
    ·simp only[ae,Nat.reduceEqDiff,reduceIte,t1]
    ·simp only[ae,Nat.reduceEqDiff,reduceIte,t6]
    ·simp only[ae,Nat.reduceEqDiff,reduceIte]
    ·simp only[az,A0]
    simp only[al,B0]
  clear hx hy Kx Ky;have S1:i=ls.length:=by omega
  rw[S1,List.drop_length,rG]at hr;rw[S1,List.take_length]at nb;refine qW A0 ?_;refine k2 _ _ ?_;refine qW (qA ai A0) ?_;refine R1.ba λK2 q1 q2 q3 q4=>?_;refine R1.round ?_;refine qW (zDe ai A0 t1 lnB) ?_;refine qY ?_;refine qW A0 ?_;refine q2 _ _ ?_;refine qW (zDd ai A0 t6) ?_;refine⟨_,_,aZ (.o (.ptr kb 0 0 2)) (.i .i64 0) (.inr rfl) (qd B0) qp qp,g1,λ_=>⟨_,by rw[<-hr],λ_=>nb.book,λh=>absurd hr.symm h⟩⟩
 simp only[ae,Nat.reduceEqDiff,reduceIte,az,al,t0,t1,t6,A0,B0,and_self,true_and];exact⟨rfl,trivial⟩
def Tx(H:Hp)(p:AC):Option (List Lad)->Prop
 |some ls=>RBk H p ls
 |none=>p=.o .nilP
def SY:ao Tryz.prog 6=true:=by kernel_rfl
def CH:∀(acc ls:List Lad),rG acc ls=0->∀x∈ls,aH x.1 x.2=0
 |_,[],_=>λ_ h=>absurd h (List.not_mem_nil)
 |acc,y::ls,h=>by
  rw[rG]at h;by_cases hc:aH y.1 y.2≠0
  ·rw[zB0 hc]at h;exact absurd h hc
  rw[zB1 hc]at h;by_cases hi:(gN 0 acc y.1).isSome=true
  ·rw[zB0 hi]at h;cases h
  rw[zB1 hi]at h;intro x hx;rcases List.mem_cons.1 hx with rfl|hx
  ·exact Classical.not_not.1 hc
  exact CH _ ls h x hx
def Wo{ls:List Lad}(h:kR ls=0):ls.length≤32∧∀x∈ls,x.2.length≤12:=by
 unfold kR at h;by_cases hc:(32:Int)<ls.length
 ·rw[zB0 hc]at h;cases h
 rw[zB1 hc]at h;exact⟨by omega,λx hx=>iY (CH [] ls h x hx)⟩
def bkO(ls:List Lad):Option (List Lad):=if kR ls=0 then some ls else none
def Yk{ls l:List Lad}(h:bkO ls=some l):l.length≤32∧∀x∈l,x.2.length≤12:=by
 unfold bkO at h;by_cases hc:kR ls=0
 ·rw[zB0 hc]at h;cases h;exact Wo hc
 rw[zB1 hc]at h;cases h
def Tx.same{H H':Hp}{p:AC}{o:Option (List Lad)}(ht:H'.t=H.t)(hn:H'.nx=H.nx)(h:Tx H p o):Tx H' p o:=by
 obtain⟨t,nx,l⟩:=H
 obtain⟨t',nx',l'⟩:=H'
 cases ht;cases hn
 cases o<;>exact h
def Om(H:Hp)(v:AC)(ls:List Lad)(hl:eM H v ls):
  Con E2 6 [.one v] H (λ_=>False) λr H'=>∃p q,r=.tup [(false,[p]),(false,[q])]∧bF H' p (bkO ls)∧Tx H' q (bkO ls)∧(bkO ls=none->p=.o .nilP):=by
 refine Con.of rfl λlg=>?_;have hl:eM ⟨H.t,H.nx,lg⟩ v ls:=hl;generalize(⟨H.t,H.nx,lg⟩:Hp)=H at hl ⊢
 refine C1.body (E:=E2) (nt:=20) (res:=[.tmp 2,.tmp 3]) Tryz.func6 rfl rfl rfl rfl rfl λtm z0=>?_;have h0:=z0 0 _ rfl;clear z0;refine qW ai ?_;refine qG (zDd ai h0 Ix) λK hK=>?_;refine WE.con (HJ H v ls hl) λw H1 g1⟨p,hw,hp1,Q5⟩=>?_;subst hw;refine qT ?_;refine hK _ _ ?_;clear hK K;refine qG (zDd ai h0 WC) λK hK=>?_;refine WE.con (TI H1 v ls (hl.gr g1)) λw H2 g2⟨q,hw,hq1,hq2⟩=>?_;subst hw;refine qT ?_;refine hK _ _ ?_;clear hK K;refine qV ?_;refine⟨_,_,aZ p q (.inr rfl) rfl qp qp,g1.gr g2,λ_=>⟨p,q,rfl,?_,?_,?_⟩⟩
 ·refine bF.same (H:=H2) rfl rfl ?_;unfold bkO;by_cases hc:kR ls=0
  ·rw[zB0 hc];exact(hp1 hc).gr g2
  rw[zB1 hc];exact .inl (Q5 hc)
 ·refine Tx.same (H:=H2) rfl rfl ?_;unfold bkO;by_cases hc:kR ls=0
  ·rw[zB0 hc];exact hq1 hc
  rw[zB1 hc];exact hq2 hc
 unfold bkO;by_cases hc:kR ls=0
 ·rw[zB0 hc];intro h;cases h
 exactλ_=>Q5 hc
open Go Go.Eng Go.ChangeShapes Go.WideShapes
abbrev Xn:=fX IE (vJ .i64)
abbrev BE:=tI Tryz.prog 133 2 Xn
abbrev ZI:=fX IE BE
abbrev Nw:=tI Tryz.prog 51 2 ZI
def yc:iz BE:=nF (cQ eZ cU)
def Tn{W:World}:Opn Tryz.prog W 2 Xn 133:=dD Tryz.underlying133 (by kernel_rfl) rfl (ca (qi Tryz.underlying9) eZ (fT (iq Tryz.underlying3)))
def Pe{W:World}(hB:kQ W):Opn Tryz.prog W 1 BE 49:=gm Tryz.underlying49 (by kernel_rfl) (by decide) (cQ eZ cU) hB Tn
def WA{W:World}(hB:kQ W):Opn Tryz.prog W 2 ZI 51:=dD Tryz.underlying51 (by kernel_rfl) rfl (ca (qi Tryz.underlying9) eZ (fT (Pe hB)))
def Rc{W:World}(hB:kQ W):Opn Tryz.prog W 1 Nw 22:=gm Tryz.underlying22 (by kernel_rfl) (by decide) (cQ eZ yc) hB (WA hB)
def Et:Tryz.prog.bytesOf 51=40:=by kernel_rfl
def Qw{B:Nat}{H:Hp}{c:List AC}{us:List Pr}(h:BE B H c us):∃u,c=[u]∧SlP H u us:=by
 obtain⟨u,rfl,⟨css,h1,h2⟩,_⟩:=h
 refine⟨u,rfl,?_⟩
 have:=ru (f:=prC) (h2.mono λc x⟨_,c1,c2,e,a,b⟩=>by rw[e,a.1,b.1];rfl);rw[this]at h1;exact h1
def Wq{B:Nat}{H:Hp}{u:AC}{ls:List Lad}(h:Nw B H [u] ls):eM H u ls∧ls.length*40≤B:=by
 obtain⟨u,e,⟨css,h1,h2⟩,h3⟩:=h
 cases e
 refine⟨⟨css,h1,h2.mono λc x⟨hl,c1,c2,e,a,b⟩=>⟨hl,?_⟩⟩,by rwa [Et]at h3⟩
 obtain⟨u,rfl,hu⟩:=Qw b
 exact⟨u,by rw[e,a.1];rfl,hu⟩
open Go.ChangeShapes Go.WideShapes Go.ChangeAt Go.RowKit Go.Eng
def ou{H:Type}{enc:TypeId×Value->H}{P:Program}(hl:laidOutB P=true){W W':World}(hb:Below W.heap.size W W'){sp:Nat->Bool}:∀{ts:List TypeId}{vs:List Value}{ds:List (DataW H)}{ps:List MemPlace},(∀t∈ts,P.readableRec t=true∧t<P.types.size) ->
  DataW.TrodAll enc P W 0 (λ_=>true) true ts vs ds ps->(∀p∈ps,p.block<W.heap.size)->(∀p∈ps,sp p.block=true)->DataW.TrodAll enc P W' 0 sp true ts vs ds ps
 |[],vs,ds,ps,_,h,_,_=>by
  obtain⟨rfl,rfl,rfl⟩:=trodAll_nil h
  exact trodAll_mk0
 |t::ts,vs,ds,ps,hr,h,C0,T6=>by
  obtain⟨v,vs1,d,ds1,a,b,rfl,rfl,rfl,h1,h2⟩:=trodAll_cons h
  refine⟨a,b,?_,ou hl hb (λt ht=>hr t (List.mem_cons_of_mem _ ht)) h2 (λp hp=>C0 p (List.mem_append_right _ hp)) (λp hp=>T6 p (List.mem_append_right _ hp)),rfl⟩
  exact WideElems.Trod_stays hl (hr t (List.mem_cons_self ..)).1 (hr t (List.mem_cons_self ..)).2 h1 (λx hx=>hb.same (C0 x (List.mem_append_left _ hx))) (λx hx=>T6 x (List.mem_append_left _ hx))
def Tryz.laidOut:laidOutB Tryz.prog=true:=by kernel_rfl
def vB:reachBytes≤140737488355328:=by decide
def rT:loadT Tryz.prog 26=some (true,2):=by kernel_rfl
def zd:aT Tryz.prog 26=some 2:=by kernel_rfl
def zE:(ay Tryz.prog 26).map (λz=>(ofValue z).cells)=some [.o .nilS,.o .nilS]:=by kernel_rfl
def zx:aR Tryz.prog 26=4:=by kernel_rfl
def cV:aE Tryz.prog 26 0=some (0,23,1):=by kernel_rfl
def gM:aE Tryz.prog 26 1=some (1,24,1):=by kernel_rfl
def sw:Nat->Option (Nat×Nat):=λi=>(#[(0,1),(1,1)]:Array (Nat×Nat))[i]?
def xO:cB Tryz.prog 26=some sw:=by kernel_rfl
def tj:sw 0=some (0,1):=rfl
def sW:sw 1=some (1,1):=rfl
def fD:loadT Tryz.prog 23=some (false,1):=by kernel_rfl
def HN:aT Tryz.prog 23=some 1:=by kernel_rfl
def DA:(ay Tryz.prog 23).map (λz=>(ofValue z).cells)=some [.o .nilS]:=by kernel_rfl
def iN:bt Tryz.prog 23=some (58,5):=by kernel_rfl
def iJ:eR Tryz.prog 23=some 1:=by kernel_rfl
def FN:aR Tryz.prog 23=1:=by kernel_rfl
def BW:loadT Tryz.prog 58=some (true,5):=by kernel_rfl
def BS:aT Tryz.prog 58=some 5:=by kernel_rfl
def Cn:(ay Tryz.prog 58).map (λz=>(ofValue z).cells)=some [.i .i64 0,.o (.str []),.o (.str []),.o .nilS,.o .nilS]:=by kernel_rfl
def Nn:aR Tryz.prog 58=4:=by kernel_rfl
def gz:aE Tryz.prog 58 0=some (0,3,1):=by kernel_rfl
def nz:aE Tryz.prog 58 1=some (1,9,1):=by kernel_rfl
def jL:aE Tryz.prog 58 2=some (2,9,1):=by kernel_rfl
def sI:aE Tryz.prog 58 3=some (3,56,2):=by kernel_rfl
def pL:Nat->Option (Nat×Nat):=λi=>(#[(0,1),(1,1),(2,1),(3,2)]:Array (Nat×Nat))[i]?
def LU:cB Tryz.prog 58=some pL:=by kernel_rfl
def Be:pL 0=some (0,1):=rfl
def zn:pL 1=some (1,1):=rfl
def zv:pL 2=some (2,1):=rfl
def yk:pL 3=some (3,2):=rfl
def mT:loadT Tryz.prog 24=some (false,1):=by kernel_rfl
def Hl:aT Tryz.prog 24=some 1:=by kernel_rfl
def GX:(ay Tryz.prog 24).map (λz=>(ofValue z).cells)=some [.o .nilS]:=by kernel_rfl
def wT:bt Tryz.prog 24=some (82,2):=by kernel_rfl
def lX:eR Tryz.prog 24=some 1:=by kernel_rfl
def Fj:aR Tryz.prog 24=1:=by kernel_rfl
def BY:loadT Tryz.prog 82=some (true,2):=by kernel_rfl
def Dl:aT Tryz.prog 82=some 2:=by kernel_rfl
def CA:(ay Tryz.prog 82).map (λz=>(ofValue z).cells)=some [.i .i64 0,.o .nilS]:=by kernel_rfl
def LI:aR Tryz.prog 82=4:=by kernel_rfl
def fw:aE Tryz.prog 82 0=some (0,3,1):=by kernel_rfl
def jN:aE Tryz.prog 82 1=some (1,27,1):=by kernel_rfl
def Ce:Nat->Option (Nat×Nat):=λi=>(#[(0,1),(1,1)]:Array (Nat×Nat))[i]?
def LH:cB Tryz.prog 82=some Ce:=by kernel_rfl
def zw:Ce 0=some (0,1):=rfl
def AH:Ce 1=some (1,1):=rfl
def Jl:loadT Tryz.prog 56=some (true,2):=by kernel_rfl
def UO:aT Tryz.prog 56=some 2:=by kernel_rfl
def TZ:(ay Tryz.prog 56).map (λz=>(ofValue z).cells)=some [.o .nilS,.o .nilS]:=by kernel_rfl
def QL:aR Tryz.prog 56=4:=by kernel_rfl
def eW:aE Tryz.prog 56 0=some (0,54,1):=by kernel_rfl
def iD:aE Tryz.prog 56 1=some (1,54,1):=by kernel_rfl
def JU:Nat->Option (Nat×Nat):=λi=>(#[(0,1),(1,1)]:Array (Nat×Nat))[i]?
def PE:cB Tryz.prog 56=some JU:=by kernel_rfl
def Gu:JU 0=some (0,1):=rfl
def Gj:JU 1=some (1,1):=rfl
def fL:loadT Tryz.prog 54=some (false,1):=by kernel_rfl
def MB:aT Tryz.prog 54=some 1:=by kernel_rfl
def KL:(ay Tryz.prog 54).map (λz=>(ofValue z).cells)=some [.o .nilS]:=by kernel_rfl
def kM:bt Tryz.prog 54=some (209,3):=by kernel_rfl
def ew:eR Tryz.prog 54=some 1:=by kernel_rfl
def Nk:aR Tryz.prog 54=1:=by kernel_rfl
def iF:loadT Tryz.prog 209=some (true,3):=by kernel_rfl
def uW:aT Tryz.prog 209=some 3:=by kernel_rfl
def sv:(ay Tryz.prog 209).map (λz=>(ofValue z).cells)=some [.i .i64 0,.o (.str []),.b false]:=by kernel_rfl
def QX:aR Tryz.prog 209=4:=by kernel_rfl
def nq:aE Tryz.prog 209 0=some (0,3,1):=by kernel_rfl
def mD:aE Tryz.prog 209 1=some (1,9,1):=by kernel_rfl
def nu:aE Tryz.prog 209 2=some (2,4,1):=by kernel_rfl
def Di:Nat->Option (Nat×Nat):=λi=>(#[(0,1),(1,1),(2,1)]:Array (Nat×Nat))[i]?
def IZ:cB Tryz.prog 209=some Di:=by kernel_rfl
def HH:Di 0=some (0,1):=rfl
def Gh:Di 1=some (1,1):=rfl
def GD:Di 2=some (2,1):=rfl
def ER:loadT Tryz.prog 232=some (false,1):=by kernel_rfl
def DQ:aT Tryz.prog 232=some 1:=by kernel_rfl
def Ig:(ay Tryz.prog 232).map (λz=>(ofValue z).cells)=some [.o .nilS]:=by kernel_rfl
def gK:bt Tryz.prog 232=some (4,1):=by kernel_rfl
def xj:eR Tryz.prog 232=some 1:=by kernel_rfl
def He:aR Tryz.prog 232=1:=by kernel_rfl
def XP:eqK Tryz.prog 209=some [.i,.s,.b]:=by kernel_rfl
def vE:ao Tryz.prog 178=true:=by kernel_rfl
def OH:ao Tryz.prog 155=true:=by kernel_rfl
def oC:ao Tryz.prog 168=true:=by kernel_rfl
def Ee:ao Tryz.prog 141=true:=by kernel_rfl
abbrev Gp:=Int×List UInt8×Bool
def gpC(x:Gp):List AC:=[.i .i64 x.1,.o (.str x.2.1),.b x.2.2]
def fu(x:Gp):gpC x=[.i .i64 x.1,.o (.str x.2.1),.b x.2.2]:=by unfold gpC;rfl
def WW(x:Gp):(gpC x).length=3:=rfl
def gS(H:Hp)(v:AC)(l:List Gp):Prop:=SlC H v 3 l.length (l.flatMap gpC)
def gS.gr{H H':Hp}{v:AC}{l:List Gp}(h:gS H v l)(hg:Gr H H'):gS H' v l:=SlC.gr h hg
def gS.len{H:Hp}{v:AC}{l:List Gp}(h:gS H v l):cW H 1 (.one v)=.val (.one (.i .i64 (l.length:Int))) H:=SlC.len h
def gS.lt{H:Hp}{v:AC}{l:List Gp}(h:gS H v l):ltV (.one v) H.nx:=qj h
def gS.nil{H:Hp}:gS H (.o .nilS) []:=⟨by simp,.inl ⟨rfl,rfl⟩⟩
structure GpAt(cells:List AC)(o:Nat)(x:Gp):Prop where
 all:(cells.drop o).take 3=gpC x
 le:o+3≤cells.length
 le1:o+1≤cells.length
 le2:o+1+1≤cells.length
 le3:o+2+1≤cells.length
 f1:(cells.drop o).headD (.b false)=.i .i64 x.1
 f2:(cells.drop (o+1)).headD (.b false)=.o (.str x.2.1)
 f3:(cells.drop (o+2)).headD (.b false)=.b x.2.2
def gS.open{H:Hp}{v:AC}{l:List Gp}(h:gS H v l)(hn:0<l.length):∃id g off cells,v=.o (.sl id g off l.length 3)∧id<H.nx∧rowOf (H.get id) g=some cells∧∀(i:Nat)(x:Gp),l[i]?=some x->GpAt cells (off+i*3) x:=by
 obtain⟨id,g,off,h1,h2,hr⟩:=SlC.pos h hn
 have E3:=hr;obtain⟨cells,h3,h6,h7⟩:=hr
 refine⟨id,g,off,cells,h1,h2,h3,λi x hx=>?_⟩
 obtain⟨cells',k3,k6,k7⟩:=Rd.at (c:=gpC) WW E3 hx
 rw[h3]at k3;cases k3
 obtain⟨a,b,c⟩:=ZO k7
 exact⟨k7,k6,by omega,by omega,by omega,a,b,c⟩
def xz(x:Gp):Bool:=x.1==0&&(x.2.1==[]&&(x.2.2==false&&true))
def GJ(l:List Gp):Bool:=l.any λx=>xz x||x.2.2
def pI(H:Hp)(x:Gp):Con E2 178 [.agg (gpC x)] H (λ_=>False) λr _=>r=.one (.b (xz x)):=by
 refine Con.of rfl λlg=>?_;generalize(⟨H.t,H.nx,lg⟩:Hp)=H
 refine C1.body (E:=E2) (nt:=6) (res:=[.tmp 2]) Tryz.func178 rfl rfl rfl rfl rfl λtm z0=>?_;have h0:=z0 0 _ rfl;clear z0;repeat' first|refine R1.ret ?_|refine R1.exit ?_|refine R1.skip ?_|refine R1.xg ?_|refine R1.oR ?_|refine R1.aF ?_|refine R1.bA ?_|refine R1.kZ ?_|((first|refine R1.Ik λK hK=>?_|refine R1.rR λK hK=>?_|refine R1.Iq (by kernel_rfl) λK hK=>?_|refine R1.FJ (by kernel_rfl) λK hK=>?_);simp only[qB,aK,Nat.reduceLT,Nat.reduceEqDiff,Nat.reduceLeDiff,reduceIte,Nat.reduceAdd,Nat.reduceSub,Nat.reduceMul,Int.reduceLT,Int.reduceLE,Int.reduceBEq,ai,h0,gpC,iF,sv,IZ,NQ XP,Dd,Dp,Cs,sn];refine hK _ _ ?_;clear hK K)
 exact⟨_,_,aj (.b (xz x)) (.inr rfl) rfl (by simp only[ae,Nat.reduceEqDiff,reduceIte,xz,id_eq]),(Fr.refl _).new _,λ_=>rfl⟩
def IK(H:Hp)(v:AC)(l:List Gp)(hv:gS H v l)(hL:l.length≤1000000):
  Con E2 155 [.one v] H (λ_=>False) λr _=>r=.one (.b (GJ l)):=by
 refine Con.of rfl λlg=>?_;have hv:gS ⟨H.t,H.nx,lg⟩ v l:=hv;generalize(⟨H.t,H.nx,lg⟩:Hp)=H at hv ⊢
 refine C1.body (E:=E2) (nt:=18) (res:=[.tmp 2]) Tryz.func155 rfl rfl rfl rfl rfl λtm z0=>?_;have h0:=z0 0 _ rfl;clear z0;have fin:∀(b:Bool)(A:aa)(H3:Hp),slot A.tm 2=.one (.b b)->A.dfr=[]->Gr H H3->b=GJ l->∃w H4,aC E2 [.tmp 2] (.ret,A,H3)=.ok [(w,H4)]∧Gr H H4∧∀_:List Nat,w=.one (.b (GJ l)):=λb A H3 h1 h2 h3 h4=>⟨_,H3,aj (.b b) (.inr rfl) h2 h1,h3,λ_=>by rw[h4]⟩;generalize G0:GJ l=r0 at fin;refine qW (zDf ai h0 ew hv.len hv.lt) ?_;refine R1.ba λK k1 k2 k3 k4=>?_;refine R1.loop (λk A H1=>∃i:Nat,k=l.length-i∧i≤l.length∧Gr H H1∧GJ (l.drop i)=r0∧slot A.tm 5=.one v∧slot A.tm 6=.one (.i .i64 (l.length:Int))∧slot A.tm 7=.one (.i .i64 (i:Int))∧A.nt=18∧A.dfr=[]) ?_ l.length
  ⟨0,rfl,Nat.zero_le _,Fr.refl _,G0,?_⟩
 ·clear h0 tm;rintro k A H1 ⟨i,rfl,hi,g1,hr,t5,t6,t7,A0,B0⟩;have G8:=hv.gr g1;refine qW (zDe ai t6 t7 A0) ?_;refine qE λKx Ky hx hy=>?_;refine iy (λhc=>hx ?_) (λhc=>hy ?_)
  ·clear hx hy Kx Ky;have C0:i<l.length:=by omega
   obtain⟨id,g,off,cells,rfl,hid,B1,K0⟩:=G8.open (by omega)
   have ex:=zB4 C0;have N0:=zC1 C0;generalize l[i]=x at ex N0;have O0:=K0 i x ex;have B3:=zC0 i (by omega);rw[N0,GJ,List.any_cons]at hr;refine qV ?_;refine R1.ba λK2 q1 q2 q3 q4=>?_;refine qG (zDm ai t5 t7 A0 kM iF uW sv (ixC C0) hid B1 (zDd O0.all O0.le fu)) λK hK=>?_;refine hK _ _ ?_;clear hK K;refine R1.gen (λA3 H3=>Gr H1 H3∧H1.nx<H3.nx∧H3.get H1.nx=some (.arr (gpC x) 209 0 0)∧slot A3.tm 4=.one (.o (.ptr H1.nx 0 0 3))∧slot A3.tm 5=.one (.o (.sl id g off l.length 3))∧slot A3.tm 6=.one (.i .i64 (l.length:Int))∧slot A3.tm 7=.one (.i .i64 (i:Int))∧A3.nt=18∧A3.dfr=[])
    ⟨((Fr.refl _).new _).mod _ (.inl (zA1 _)),?_⟩ ?_
   ·exact qZ (zDg t5 t6 t7 A0 B0 fu)
   clear t5 t6 t7 A0 B0 A;rintro A H3 ⟨g3,n3,rx,t4,t5,t6,t7,A0,B0⟩;refine qG (zDi ai t4 A0 rx n3 iF fu vE) λK hK=>?_;refine WE.con (pI H3 x) λw H4 g4 hw=>?_;subst hw;have rx:H4.get H1.nx=some (.arr (gpC x) 209 0 0):=by rw[g4.get _ n3 zB2];exact rx
   have n4:H1.nx<H4.nx:=zA0 n3 g4.nx;have g4':=g1.gr (g3.gr g4);cases hgp:xz x with
   |true=>
    rw[hgp,Bool.true_or,Bool.true_or]at hr;refine qS (qA ai A0) ?_;refine hK _ _ ?_;clear hK K;refine qY ?_;refine qW A0 ?_;exact q4 _ _ (k4 _ _ (fin true _ _ qp (qd B0) g4' hr))
   |false=>
    rw[hgp,Bool.false_or]at hr;refine qS (zDi ai A0 t4 rx n4 fu nu jr) ?_;refine hK _ _ ?_;clear hK K;cases hbr:x.2.2 with
    |true=>
     rw[hbr,Bool.true_or]at hr;refine qY ?_;refine qW A0 ?_;exact q4 _ _ (k4 _ _ (fin true _ _ qp (qd B0) g4' hr))
    |false=>
     rw[hbr,Bool.false_or]at hr;refine qY ?_;refine qW A0 ?_;refine q1 _ _ ?_;refine qW (zDd A0 t7 B3) ?_;refine⟨l.length-(i+1),by omega,i+1,rfl,C0,g4',hr,?_,?_,?_,?_,?_⟩
     ·simp only[ae,Nat.reduceEqDiff,reduceIte,t5]
     ·simp only[ae,Nat.reduceEqDiff,reduceIte,t6]
     ·simp only[ae,Nat.reduceEqDiff,reduceIte]
     ·simp only[az,A0]
     simp only[al,B0]
  clear hx hy Kx Ky;have S1:i=l.length:=by omega
  rw[S1,List.drop_length]at hr;refine qW A0 ?_;refine k2 _ _ ?_;refine qW A0 ?_;exact fin false _ _ qp (qd B0) g1 hr
 simp only[ae,Nat.reduceEqDiff,reduceIte,az,al,h0,and_self,true_and];exact⟨rfl,trivial⟩
def Xa(l:List Gp)(s:List UInt8):Bool:=l.any λx=>x.2.1==s
end Go.Proofs.YtgepceljhelekaaGreat
