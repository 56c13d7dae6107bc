/- A part of the proof. -/
import Derived.Test.YtgepceljhelekaaGreatPBAf
import Derived.Test.YtgepceljhelekaaGreatPBAd
import Derived.KernelRfl
import Derived.Carry
set_option maxRecDepth 100000
set_option maxHeartbeats 64000000
set_option linter.all false
open Go.Proofs.Tryz (prog)
namespace Go.Proofs.YtgepceljhelekaaGreat
open Go Go.Eng
def cB:loadT prog 9=some (false,1):=ae
def FG:kI prog 9=some 0:=ae
def wP:mJ prog 9=true:=ae
def cA:loadT prog 3=some (false,1):=ae
def BA:cD prog 3=some 1:=ae
def tz:dA prog 3=some 8:=ae
def xk:(ba prog 3).map (λz=>(ofValue z).cells)=some [.i .i64 0]:=ae
def BK:∃z,ba prog 3=some z/\(ofValue z).cells.length=1:=by
 have h:=xk;cases hz:ba prog 3 with
 |none=>rw[hz]at h;cases h
 |some z=>rw[hz]at h;exact⟨z,rfl,by have:(ofValue z).cells=_:=dX h;rw[this];rfl⟩
def GR:ba prog 3=some (.int .i64 0):=ae
def dJ:prog.underlying 3=some (.int .i64):=ae
def RV:dp prog 3=4:=ae
def sf:loadT prog 4=some (false,1):=ae
def OX:cD prog 4=some 1:=ae
def Wv:dA prog 4=some 1:=ae
def jd:ba prog 4=some (.bool false):=ae
def Yk:prog.underlying 4=some .bool:=ae
def vf:loadT prog 35=some (false,1):=ae
def hU:cD prog 35=some 1:=ae
def wx:(ba prog 35).map (λz=>(ofValue z).cells)=some [.i .i64 0]:=ae
def Hh:dp prog 35=4:=ae
def vh:loadT prog 133=some (true,2):=ae
def sF:cD prog 133=some 2:=ae
def Nq:dA prog 133=some 24:=ae
def pt:(ba prog 133).map (λz=>(ofValue z).cells)=some [.o (.str []),.i .i64 0]:=ae
def Pm:∃z,ba prog 133=some z/\(ofValue z).cells.length=2:=by
 have h:=pt;cases hz:ba prog 133 with
 |none=>rw[hz]at h;cases h
 |some z=>rw[hz]at h;exact⟨z,rfl,by have:(ofValue z).cells=_:=dX h;rw[this];rfl⟩
def cF:bK prog 133 0=some (0,9,1):=ae
def cW:bK prog 133 1=some (1,3,1):=ae
def cY:loadT prog 49=some (false,1):=ae
def jD:bV prog 49=some (133,2):=ae
def eR:kI prog 49=some 1:=ae
def gM:loadT prog 51=some (true,2):=ae
def mO:cD prog 51=some 2:=ae
def Lf:dA prog 51=some 40:=ae
def iA:(ba prog 51).map (λz=>(ofValue z).cells)=some [.o (.str []),.o .nilS]:=ae
def MF:∃z,ba prog 51=some z/\(ofValue z).cells.length=2:=by
 have h:=iA;cases hz:ba prog 51 with
 |none=>rw[hz]at h;cases h
 |some z=>rw[hz]at h;exact⟨z,rfl,by have:(ofValue z).cells=_:=dX h;rw[this];rfl⟩
def jE:bK prog 51 0=some (0,9,1):=ae
def cX:bK prog 51 1=some (1,49,1):=ae
def LP:Nat->Option (Nat×Nat):=λi=>(#[(0,1),(1,1)]:Array (Nat×Nat))[i]?
def FT:iR prog 51=some LP:=ae
def JD:LP 0=some (0,1):=rfl
def JE:LP 1=some (1,1):=rfl
def oH:loadT prog 22=some (false,1):=ae
def yP:cD prog 22=some 1:=ae
def gm:bV prog 22=some (51,2):=ae
def oL:kI prog 22=some 1:=ae
def Fz:loadT prog 150=some (false,1):=ae
def aad:cD prog 150=some 1:=ae
def aaj:(ba prog 150).map (λz=>(ofValue z).cells)=some [.o .nilM]:=ae
def Ui:kI prog 150=some 2:=ae
def LH:jl prog 150=some (9,4):=ae
def TP:bO prog 9=0:=ae
def AT:loadT prog 103=some (false,1):=ae
def LI:jl prog 103=some (9,3):=ae
def TQ:bO prog 9=0:=ae
def RW:dp prog 103=2:=ae
def zA:dp prog 31=0:=ae
def Yn:(ba prog 106).map (λz=>(ofValue z).cells)=some [.o .nilS,.o .nilM,.o .nilS,.o .nilS]:=ae
def wK:bK prog 106 0=some (0,22,1):=ae
def nH:bK prog 106 1=some (1,103,1):=ae
def PY:bK prog 106 2=some (2,27,1):=ae
def PZ:bK prog 106 3=some (3,104,1):=ae
def OD:Nat->Option (Nat×Nat):=λi=>(#[(0,1),(1,1),(2,1),(3,1)]:Array (Nat×Nat))[i]?
def XT:iR prog 106=some OD:=ae
def QL:OD 1=some (1,1):=rfl
def sh:loadT prog 27=some (false,1):=ae
def Gk:cD prog 27=some 1:=ae
def Ph:(ba prog 27).map (λz=>(ofValue z).cells)=some [.o .nilS]:=ae
def fD:bV prog 27=some (3,1):=ae
def FE:kI prog 27=some 1:=ae
def MV:dp prog 27=1:=ae
def Ua:loadT prog 104=some (false,1):=ae
def VC:cD prog 104=some 1:=ae
def HV:bV prog 104=some (116,2):=ae
def Ww:dA prog 116=some 48:=ae
def Pj:(ba prog 116).map (λz=>(ofValue z).cells)=some [.o .nilS,.o .nilS]:=ae
def Yp:∃z,ba prog 116=some z/\(ofValue z).cells.length=2:=by
 have h:=Pj;cases hz:ba prog 116 with
 |none=>rw[hz]at h;cases h
 |some z=>rw[hz]at h;exact⟨z,rfl,by have:(ofValue z).cells=_:=dX h;rw[this];rfl⟩
def XP:Nat->Option (Nat×Nat):=λi=>(#[(0,1),(1,1)]:Array (Nat×Nat))[i]?
def XU:iR prog 116=some XP:=ae
def aw:E2.P=prog:=rfl
def nh:aq prog 63=true:=ae
def jC:aq prog 11=true:=ae
def Hx:aq prog 64=true:=ae
def Ct:aq prog 115=true:=ae
def uz:aq prog 39=true:=ae
def uA:aq prog 62=true:=ae
def qC(s:List UInt8):E2.eu 63 [.one (.o (.str s))]=some (.one (.b (nmB s))):=by show some (AV.one (.b (Jk s)))=_;rw[Jl]
def yS:E2.eu 11 []=some (.one (.b true)):=rfl
def Fi{A:ag}{k:Tmp}{c:AC}(h:slot A.tm k=.one c):A.tm.get k=some (.one c):=by
 unfold slot at h;cases hk:A.tm.get k with
 |none=>rw[hk]at h;cases h
 |some u=>rw[hk]at h;exact congrArg some h
def bC{E:Env}{s t:Tmp}{A:ag}{H:Hp}{e:ax}(c d:AC)(he:e=.normal\/e=.ret)(hd:A.dfr=[])(hs:slot A.tm s=.one c)(ht:slot A.tm t=.one d):aH E [.tmp s,.tmp t] (e,A,H)=.ok [(.tup [(false,[c]),(false,[d])],H)]:=by
 have key:(aB (closeAll H A.dfr) (R.bad "marks") λh2=>aB (cI E.P [.tmp s,.tmp t] A.tm h2) (.bad "results") λl=>.ok [(fa l,h2)])=.ok [(.tup [(false,[c]),(false,[d])],H)]:=by
  rw[hd];have hr:cI E.P [.tmp s,.tmp t] A.tm H=some [(false,[c]),(false,[d])]:=by show aB (aB (A.tm.get s) none jU) none (λx=>aB (aB (aB (A.tm.get t) none jU) none λx=>aB (some []) none λl=>some (x::l)) none λl=>some (x::l))=_;rw[Fi hs,Fi ht];rfl
  show aB (cI E.P [.tmp s,.tmp t] A.tm H) (R.bad "results") (λl=>R.ok [(fa l,H)])=_
  rw[hr];rfl
 rcases he with rfl|rfl
 ·exact key
 exact key
def Con.nO{E:Env}{f:FuncId}{args:List AV}{H:Hp}{X:Nat->Prop}{Q:AV->Hp->Prop}(k:∀H':Hp,C1 E f args H' λv h'=>Fr X H' h'/\∀lg',Q v ⟨h'.t,h'.nx,lg'⟩)(hp:E.eu f args=none:=by exact rfl)(hq:∀lg,E.dW f args ⟨H.t,H.nx,lg⟩=none:=by exactλ_=>rfl):Con E f args H X Q:=Con.of hp (λlg=>k _ ) hq
def Con.qw{E:Env}{f:FuncId}{args:List AV}{H:Hp}{X:Nat->Prop}{Q:AV->Hp->Prop}(P0:Hp->Prop)(h0:P0 H)(k:∀H':Hp,P0 H'->C1 E f args H' λv h'=>Fr X H' h'/\∀lg',Q v ⟨h'.t,h'.nx,lg'⟩)(l0:∀(lg:List Nat) (H:Hp),P0 H->P0 ⟨H.t,H.nx,lg⟩:=by exactλ_ _ h=>h)(hp:E.eu f args=none:=by exact rfl)(hq:∀lg,E.dW f args ⟨H.t,H.nx,lg⟩=none:=by exactλ_=>rfl):Con E f args H X Q:=Con.of hp (λlg=>k _ (l0 lg _ h0)) hq
def Con.Iw{E:Env}{f:FuncId}{args:List AV}{H:Hp}{X:Nat->Prop}{Q:AV->Hp->Prop}(P0:Hp->Prop)(h0:P0 H)(k:∀H':Hp,H'.nx=H.nx->P0 H'->C1 E f args H' λv h'=>Fr X H' h'/\∀lg',Q v ⟨h'.t,h'.nx,lg'⟩)(l0:∀(lg:List Nat) (H:Hp),P0 H->P0 ⟨H.t,H.nx,lg⟩:=by exactλ_ _ h=>h)(hp:E.eu f args=none:=by exact rfl)(hq:∀lg,E.dW f args ⟨H.t,H.nx,lg⟩=none:=by exactλ_=>rfl):Con E f args H X Q:=Con.of hp (λlg=>k _ rfl (l0 lg _ h0)) hq
def Con.iM{E:Env}{f:FuncId}{args:List AV}{H:Hp}{X:Nat->Prop}{Q:AV->Hp->Prop}(P0:Hp->Prop)(h0:P0 H)(P1:Hp->Prop)(h1:P1 H)(k:∀H':Hp,P0 H'->P1 H'->C1 E f args H' λv h'=>Fr X H' h'/\∀lg',Q v ⟨h'.t,h'.nx,lg'⟩)(l0:∀(lg:List Nat) (H:Hp),P0 H->P0 ⟨H.t,H.nx,lg⟩:=by exactλ_ _ h=>h)(l1:∀(lg:List Nat) (H:Hp),P1 H->P1 ⟨H.t,H.nx,lg⟩:=by exactλ_ _ h=>h)(hp:E.eu f args=none:=by exact rfl)(hq:∀lg,E.dW f args ⟨H.t,H.nx,lg⟩=none:=by exactλ_=>rfl):Con E f args H X Q:=Con.of hp (λlg=>k _ (l0 lg _ h0) (l1 lg _ h1)) hq
def Con.hdb2{E:Env}{f:FuncId}{args:List AV}{H:Hp}{X:Nat->Prop}{Q:AV->Hp->Prop}(P0:Hp->Prop)(h0:P0 H)(P1:Hp->Prop)(h1:P1 H)(k:∀H':Hp,H'.nx=H.nx->P0 H'->P1 H'->C1 E f args H' λv h'=>Fr X H' h'/\∀lg',Q v ⟨h'.t,h'.nx,lg'⟩)(l0:∀(lg:List Nat) (H:Hp),P0 H->P0 ⟨H.t,H.nx,lg⟩:=by exactλ_ _ h=>h)(l1:∀(lg:List Nat) (H:Hp),P1 H->P1 ⟨H.t,H.nx,lg⟩:=by exactλ_ _ h=>h)(hp:E.eu f args=none:=by exact rfl)(hq:∀lg,E.dW f args ⟨H.t,H.nx,lg⟩=none:=by exactλ_=>rfl):Con E f args H X Q:=Con.of hp (λlg=>k _ rfl (l0 lg _ h0) (l1 lg _ h1)) hq
def Con.Fk{E:Env}{f:FuncId}{args:List AV}{H:Hp}{X:Nat->Prop}{Q:AV->Hp->Prop}(P0:Hp->Prop)(h0:P0 H)(P1:Hp->Prop)(h1:P1 H)(P2:Hp->Prop)(h2:P2 H)(k:∀H':Hp,P0 H'->P1 H'->P2 H'->C1 E f args H' λv h'=>Fr X H' h'/\∀lg',Q v ⟨h'.t,h'.nx,lg'⟩)(l0:∀(lg:List Nat) (H:Hp),P0 H->P0 ⟨H.t,H.nx,lg⟩:=by exactλ_ _ h=>h)(l1:∀(lg:List Nat) (H:Hp),P1 H->P1 ⟨H.t,H.nx,lg⟩:=by exactλ_ _ h=>h)(l2:∀(lg:List Nat) (H:Hp),P2 H->P2 ⟨H.t,H.nx,lg⟩:=by exactλ_ _ h=>h)(hp:E.eu f args=none:=by exact rfl)(hq:∀lg,E.dW f args ⟨H.t,H.nx,lg⟩=none:=by exactλ_=>rfl):Con E f args H X Q:=Con.of hp (λlg=>k _ (l0 lg _ h0) (l1 lg _ h1) (l2 lg _ h2)) hq
def Con.hda6{E:Env}{f:FuncId}{args:List AV}{H:Hp}{X:Nat->Prop}{Q:AV->Hp->Prop}(P0:Hp->Prop)(h0:P0 H)(P1:Hp->Prop)(h1:P1 H)(P2:Hp->Prop)(h2:P2 H)(P3:Hp->Prop)(h3:P3 H)(P4:Hp->Prop)(h4:P4 H)(P5:Hp->Prop)(h5:P5 H)(k:∀H':Hp,P0 H'->P1 H'->P2 H'->P3 H'->P4 H'->P5 H'->C1 E f args H' λv h'=>Fr X H' h'/\∀lg',Q v ⟨h'.t,h'.nx,lg'⟩)(l0:∀(lg:List Nat) (H:Hp),P0 H->P0 ⟨H.t,H.nx,lg⟩:=by exactλ_ _ h=>h)(l1:∀(lg:List Nat) (H:Hp),P1 H->P1 ⟨H.t,H.nx,lg⟩:=by exactλ_ _ h=>h)(l2:∀(lg:List Nat) (H:Hp),P2 H->P2 ⟨H.t,H.nx,lg⟩:=by exactλ_ _ h=>h)(l3:∀(lg:List Nat) (H:Hp),P3 H->P3 ⟨H.t,H.nx,lg⟩:=by exactλ_ _ h=>h)(l4:∀(lg:List Nat) (H:Hp),P4 H->P4 ⟨H.t,H.nx,lg⟩:=by exactλ_ _ h=>h)(l5:∀(lg:List Nat) (H:Hp),P5 H->P5 ⟨H.t,H.nx,lg⟩:=by exactλ_ _ h=>h)(hp:E.eu f args=none:=by exact rfl)(hq:∀lg,E.dW f args ⟨H.t,H.nx,lg⟩=none:=by exactλ_=>rfl):Con E f args H X Q:=Con.of hp (λlg=>k _ (l0 lg _ h0) (l1 lg _ h1) (l2 lg _ h2) (l3 lg _ h3) (l4 lg _ h4) (l5 lg _ h5)) hq
def Con.hdb6{E:Env}{f:FuncId}{args:List AV}{H:Hp}{X:Nat->Prop}{Q:AV->Hp->Prop}(P0:Hp->Prop)(h0:P0 H)(P1:Hp->Prop)(h1:P1 H)(P2:Hp->Prop)(h2:P2 H)(P3:Hp->Prop)(h3:P3 H)(P4:Hp->Prop)(h4:P4 H)(P5:Hp->Prop)(h5:P5 H)(k:∀H':Hp,H'.nx=H.nx->P0 H'->P1 H'->P2 H'->P3 H'->P4 H'->P5 H'->C1 E f args H' λv h'=>Fr X H' h'/\∀lg',Q v ⟨h'.t,h'.nx,lg'⟩)(l0:∀(lg:List Nat) (H:Hp),P0 H->P0 ⟨H.t,H.nx,lg⟩:=by exactλ_ _ h=>h)(l1:∀(lg:List Nat) (H:Hp),P1 H->P1 ⟨H.t,H.nx,lg⟩:=by exactλ_ _ h=>h)(l2:∀(lg:List Nat) (H:Hp),P2 H->P2 ⟨H.t,H.nx,lg⟩:=by exactλ_ _ h=>h)(l3:∀(lg:List Nat) (H:Hp),P3 H->P3 ⟨H.t,H.nx,lg⟩:=by exactλ_ _ h=>h)(l4:∀(lg:List Nat) (H:Hp),P4 H->P4 ⟨H.t,H.nx,lg⟩:=by exactλ_ _ h=>h)(l5:∀(lg:List Nat) (H:Hp),P5 H->P5 ⟨H.t,H.nx,lg⟩:=by exactλ_ _ h=>h)(hp:E.eu f args=none:=by exact rfl)(hq:∀lg,E.dW f args ⟨H.t,H.nx,lg⟩=none:=by exactλ_=>rfl):Con E f args H X Q:=Con.of hp (λlg=>k _ rfl (l0 lg _ h0) (l1 lg _ h1) (l2 lg _ h2) (l3 lg _ h3) (l4 lg _ h4) (l5 lg _ h5)) hq
def C1.jf{E:Env}{H:Hp}{f:FuncId}{fn:Func}{c:Code}{Q:AV->Hp->Prop}{a0:AV}(nt:Nat)(res:List ResultVar)(hf:E.P.funcs[f]?=some fn)(h:∀tm,slot tm 0=a0->R1 E none c ⟨tm,nt,[]⟩ H λe A' H'=>∃v H2,aH E res (e,A',H')=.ok [(v,H2)]/\Q v H2)(hb:fn.body=some c:=by exact rfl)(A0:fn.ntmps=nt:=by exact rfl)(V4:fn.results.toList=res:=by exact rfl)(hn:Nat.ble 1 nt=true:=by exact rfl)(E4:Nat.ble nt 1048576=true:=by exact rfl):C1 E f [a0] H Q:=C1.body hf hb A0 V4 hn E4 λtm g=>h tm (g 0 _ rfl)
def C1.fK{E:Env}{H:Hp}{f:FuncId}{fn:Func}{c:Code}{Q:AV->Hp->Prop}{a0 a1:AV}(nt:Nat)(res:List ResultVar)(hf:E.P.funcs[f]?=some fn)(h:∀tm,slot tm 0=a0->slot tm 1=a1->R1 E none c ⟨tm,nt,[]⟩ H λe A' H'=>∃v H2,aH E res (e,A',H')=.ok [(v,H2)]/\Q v H2)(hb:fn.body=some c:=by exact rfl)(A0:fn.ntmps=nt:=by exact rfl)(V4:fn.results.toList=res:=by exact rfl)(hn:Nat.ble 2 nt=true:=by exact rfl)(E4:Nat.ble nt 1048576=true:=by exact rfl):C1 E f [a0,a1] H Q:=C1.body hf hb A0 V4 hn E4 λtm g=>h tm (g 0 _ rfl) (g 1 _ rfl)
def C1.HA{E:Env}{H:Hp}{f:FuncId}{fn:Func}{c:Code}{Q:AV->Hp->Prop}{a0 a1 a2:AV}(nt:Nat)(res:List ResultVar)(hf:E.P.funcs[f]?=some fn)(h:∀tm,slot tm 0=a0->slot tm 1=a1->slot tm 2=a2->R1 E none c ⟨tm,nt,[]⟩ H λe A' H'=>∃v H2,aH E res (e,A',H')=.ok [(v,H2)]/\Q v H2)(hb:fn.body=some c:=by exact rfl)(A0:fn.ntmps=nt:=by exact rfl)(V4:fn.results.toList=res:=by exact rfl)(hn:Nat.ble 3 nt=true:=by exact rfl)(E4:Nat.ble nt 1048576=true:=by exact rfl):C1 E f [a0,a1,a2] H Q:=C1.body hf hb A0 V4 hn E4 λtm g=>h tm (g 0 _ rfl) (g 1 _ rfl) (g 2 _ rfl)
def C1.nk{E:Env}{H:Hp}{f:FuncId}{fn:Func}{c:Code}{Q:AV->Hp->Prop}{a0 a1 a2 a3:AV}(nt:Nat)(res:List ResultVar)(hf:E.P.funcs[f]?=some fn)(h:∀tm,slot tm 0=a0->slot tm 1=a1->slot tm 2=a2->slot tm 3=a3->R1 E none c ⟨tm,nt,[]⟩ H λe A' H'=>∃v H2,aH E res (e,A',H')=.ok [(v,H2)]/\Q v H2)(hb:fn.body=some c:=by exact rfl)(A0:fn.ntmps=nt:=by exact rfl)(V4:fn.results.toList=res:=by exact rfl)(hn:Nat.ble 4 nt=true:=by exact rfl)(E4:Nat.ble nt 1048576=true:=by exact rfl):C1 E f [a0,a1,a2,a3] H Q:=C1.body hf hb A0 V4 hn E4 λtm g=>h tm (g 0 _ rfl) (g 1 _ rfl) (g 2 _ rfl) (g 3 _ rfl)
def C1.EP{E:Env}{H:Hp}{f:FuncId}{fn:Func}{c:Code}{Q:AV->Hp->Prop}{a0 a1 a2 a3 a4:AV}(nt:Nat)(res:List ResultVar)(hf:E.P.funcs[f]?=some fn)(h:∀tm,slot tm 0=a0->slot tm 1=a1->slot tm 2=a2->slot tm 3=a3->slot tm 4=a4->R1 E none c ⟨tm,nt,[]⟩ H λe A' H'=>∃v H2,aH E res (e,A',H')=.ok [(v,H2)]/\Q v H2)(hb:fn.body=some c:=by exact rfl)(A0:fn.ntmps=nt:=by exact rfl)(V4:fn.results.toList=res:=by exact rfl)(hn:Nat.ble 5 nt=true:=by exact rfl)(E4:Nat.ble nt 1048576=true:=by exact rfl):C1 E f [a0,a1,a2,a3,a4] H Q:=C1.body hf hb A0 V4 hn E4 λtm g=>h tm (g 0 _ rfl) (g 1 _ rfl) (g 2 _ rfl) (g 3 _ rfl) (g 4 _ rfl)
def C1.aaC{E:Env}{H:Hp}{f:FuncId}{fn:Func}{c:Code}{Q:AV->Hp->Prop}{a0 a1 a2 a3 a4 a5:AV}(nt:Nat)(res:List ResultVar)(hf:E.P.funcs[f]?=some fn)(h:∀tm,slot tm 0=a0->slot tm 1=a1->slot tm 2=a2->slot tm 3=a3->slot tm 4=a4->slot tm 5=a5->R1 E none c ⟨tm,nt,[]⟩ H λe A' H'=>∃v H2,aH E res (e,A',H')=.ok [(v,H2)]/\Q v H2)(hb:fn.body=some c:=by exact rfl)(A0:fn.ntmps=nt:=by exact rfl)(V4:fn.results.toList=res:=by exact rfl)(hn:Nat.ble 6 nt=true:=by exact rfl)(E4:Nat.ble nt 1048576=true:=by exact rfl):C1 E f [a0,a1,a2,a3,a4,a5] H Q:=C1.body hf hb A0 V4 hn E4 λtm g=>h tm (g 0 _ rfl) (g 1 _ rfl) (g 2 _ rfl) (g 3 _ rfl) (g 4 _ rfl) (g 5 _ rfl)
def C1.bdy7{E:Env}{H:Hp}{f:FuncId}{fn:Func}{c:Code}{Q:AV->Hp->Prop}{a0 a1 a2 a3 a4 a5 a6:AV}(nt:Nat)(res:List ResultVar)(hf:E.P.funcs[f]?=some fn)(h:∀tm,slot tm 0=a0->slot tm 1=a1->slot tm 2=a2->slot tm 3=a3->slot tm 4=a4->slot tm 5=a5->slot tm 6=a6->R1 E none c ⟨tm,nt,[]⟩ H λe A' H'=>∃v H2,aH E res (e,A',H')=.ok [(v,H2)]/\Q v H2)(hb:fn.body=some c:=by exact rfl)(A0:fn.ntmps=nt:=by exact rfl)(V4:fn.results.toList=res:=by exact rfl)(hn:Nat.ble 7 nt=true:=by exact rfl)(E4:Nat.ble nt 1048576=true:=by exact rfl):C1 E f [a0,a1,a2,a3,a4,a5,a6] H Q:=C1.body hf hb A0 V4 hn E4 λtm g=>h tm (g 0 _ rfl) (g 1 _ rfl) (g 2 _ rfl) (g 3 _ rfl) (g 4 _ rfl) (g 5 _ rfl) (g 6 _ rfl)
def C1.bdy8{E:Env}{H:Hp}{f:FuncId}{fn:Func}{c:Code}{Q:AV->Hp->Prop}{a0 a1 a2 a3 a4 a5 a6 a7:AV}(nt:Nat)(res:List ResultVar)(hf:E.P.funcs[f]?=some fn)(h:∀tm,slot tm 0=a0->slot tm 1=a1->slot tm 2=a2->slot tm 3=a3->slot tm 4=a4->slot tm 5=a5->slot tm 6=a6->slot tm 7=a7->R1 E none c ⟨tm,nt,[]⟩ H λe A' H'=>∃v H2,aH E res (e,A',H')=.ok [(v,H2)]/\Q v H2)(hb:fn.body=some c:=by exact rfl)(A0:fn.ntmps=nt:=by exact rfl)(V4:fn.results.toList=res:=by exact rfl)(hn:Nat.ble 8 nt=true:=by exact rfl)(E4:Nat.ble nt 1048576=true:=by exact rfl):C1 E f [a0,a1,a2,a3,a4,a5,a6,a7] H Q:=C1.body hf hb A0 V4 hn E4 λtm g=>h tm (g 0 _ rfl) (g 1 _ rfl) (g 2 _ rfl) (g 3 _ rfl) (g 4 _ rfl) (g 5 _ rfl) (g 6 _ rfl) (g 7 _ rfl)
def Ax(E:Env)(H:Hp)(k:Nat)(s:Int):∀(e:Int)(A:ag)(H3:Hp),slot A.tm k=.one (.i .i64 e)->A.dfr=[]->Gr H H3->e=s->∃w H4,aH E [.tmp k] (.ret,A,H3)=.ok [(w,H4)]/\Gr H H4/\∀_:List Nat,w=.one (.i .i64 s):=λe A H3 h1 h2 h3 h4=>⟨_,H3,au (.i .i64 e) (.inr rfl) h2 h1,h3,λ_=>by rw[h4]⟩
def Tq(E:Env)(H:Hp)(k:Nat)(s:Bool):∀(e:Bool)(A:ag)(H3:Hp),slot A.tm k=.one (.b e)->A.dfr=[]->Gr H H3->e=s->∃w H4,aH E [.tmp k] (.ret,A,H3)=.ok [(w,H4)]/\Gr H H4/\∀_:List Nat,w=.one (.b s):=λe A H3 h1 h2 h3 h4=>⟨_,H3,au (.b e) (.inr rfl) h2 h1,h3,λ_=>by rw[h4]⟩
def aaQ(E:Env)(H:Hp)(k l:Nat)(s:Int×Int):∀(v w:Int)(A:ag)(H3:Hp),slot A.tm k=.one (.i .i64 v)->slot A.tm l=.one (.i .i64 w)->A.dfr=[]->Gr H H3->(v,w)=s->∃w H4,aH E [.tmp k,.tmp l] (.ret,A,H3)=.ok [(w,H4)]/\Gr H H4/\∀_:List Nat,w=.tup [(false,[.i .i64 s.1]),(false,[.i .i64 s.2])]:=λv w A H3 h1 h2 hd hg hv=>⟨_,H3,bC (.i .i64 v) (.i .i64 w) (.inr rfl) hd h1 h2,hg,λ_=>by rw[<-hv]⟩
def finF{α:Type}(E:Env)(R:Hp->AC->α->Prop)(H:Hp)(k l:Nat)(r:α×Int)(hR:∀(H:Hp) c x lg,R H c x->R ⟨H.t,H.nx,lg⟩ c x:=by exactλ_ _ _ _ h=>h):∀(c:AC)(e:Int)(A:ag)(H3:Hp),slot A.tm k=.one c->slot A.tm l=.one (.i .i64 e)->A.dfr=[]->Gr H H3->R H3 c r.1/\e=r.2/\(∀id∈(AV.one c).ids,H.nx<=id)->∃w H4,aH E [.tmp k,.tmp l] (.ret,A,H3)=.ok [(w,H4)]/\Gr H H4/\∀lg':List Nat,∃c,w=.tup [(false,[c]),(false,[.i .i64 r.2])]/\R ⟨H4.t,H4.nx,lg'⟩ c r.1/\∀id∈(AV.one c).ids,H.nx<=id:=λc e A H3 h1 h2 h3 h4 h5=>⟨_,H3,bC c (.i .i64 e) (.inr rfl) h3 h1 h2,h4,λ_=>⟨c,by rw[h5.2.1],hR _ _ _ _ h5.1,h5.2.2⟩⟩
def finS{α:Type}(E:Env)(R:Hp->AC->α->Prop)(H:Hp)(k l:Nat)(r:α×Int)(hR:∀(H:Hp) c x lg,R H c x->R ⟨H.t,H.nx,lg⟩ c x:=by exactλ_ _ _ _ h=>h):∀(c:AC)(e:Int)(A:ag)(H3:Hp),slot A.tm k=.one c->slot A.tm l=.one (.i .i64 e)->A.dfr=[]->Gr H H3->R H3 c r.1/\e=r.2->∃w H4,aH E [.tmp k,.tmp l] (.ret,A,H3)=.ok [(w,H4)]/\Gr H H4/\∀lg':List Nat,∃c,w=.tup [(false,[c]),(false,[.i .i64 r.2])]/\R ⟨H4.t,H4.nx,lg'⟩ c r.1:=λc e A H3 h1 h2 h3 h4 h5=>⟨_,H3,bC c (.i .i64 e) (.inr rfl) h3 h1 h2,h4,λ_=>⟨c,by rw[h5.2],hR _ _ _ _ h5.1⟩⟩
def bq{H H':Hp}{i:Nat}{o:Option aX}(g:Gr H H')(m:i<H.nx)(r:H.get i=o):H'.get i=o/\i<H'.nx:=⟨(g.get _ m aF).trans r,ay m g.nx⟩
def kq{p q:Prop}(f:q)(e:q->p:=by intro f;repeat' (first|(simp only[an,mE,Nat.reduceEqDiff,reduceIte,bE,aS,f];first|done|rfl)|refine⟨?_,?_⟩)):p:=e f
def ah{p:Prop}(h:p):Hd p:=h
def bp{E:Env}{A:ag}{H:Hp}{e:ax}(he:e=.normal\/e=.ret)(hd:A.dfr=[]):aH E [] (e,A,H)=.ok [(.tup [],H)]:=by
 have key:(aB (closeAll H A.dfr) (R.bad "marks") λh2=>aB (cI E.P [] A.tm h2) (.bad "results") λl=>.ok [(fa l,h2)])=.ok [(.tup [],H)]:=by rw[hd];rfl
 rcases he with rfl|rfl
 ·exact key
 exact key
def uF{E:Env}{s:Tmp}{t:TypeId}{A:ag}{H H2:Hp}{e:ax}{id g off lim:Nat}{cells:List AC}{c:AC}(ht:loadT E.P t=some (false,1))(he:e=.normal\/e=.ret)(hd:closeAll H A.dfr=some H2)(hs:slot A.tm s=.one (.o (.ptr id g off lim)))
  (hg:rowOf (H2.get id) g=some cells) (hl:1<=lim) (ho:off+1<=cells.length) (hc:(cells.drop off).headD (.b false)=c):aH E [.cell s t] (e,A,H)=.ok [(.one c,H2)]:=by
 have key:(aB (closeAll H A.dfr) (R.bad "marks") λh2=>aB (cI E.P [.cell s t] A.tm h2) (.bad "results") λl=>.ok [(fa l,h2)])=.ok [(.one c,H2)]:=by
  rw[hd];have hr:cI E.P [.cell s t] A.tm H2=some [(false,[c])]:=by
   have e1:od E.P (.cell s t) A.tm H2=some (false,[c]):=by
    have e0:od E.P (.cell s t)=match loadT E.P t with|some p=>λtm h=>aB (tm.get s) none λv=>aj.rec (motive:=λ_=>Option (Bool×List AC)) (λv _=>jU v) (λ_=>none) (λ_ _=>none) (λ_ _=>none) (λ_=>none) (dB h p.1 p.2 v)|none=>λ_ _=>none:=rfl
    rw[e0,ht];show aB (A.tm.get s) none (λv=>aj.rec (motive:=λ_=>Option (Bool×List AC)) (λv _=>jU v) (λ_=>none) (λ_ _=>none) (λ_ _=>none) (λ_=>none) (dB H2 false 1 v))=_;rw[Fi hs];show aj.rec (motive:=λ_=>Option (Bool×List AC)) (λv _=>jU v) (λ_=>none) (λ_ _=>none) (λ_ _=>none) (λ_=>none) (dB H2 false 1 (.one (.o (.ptr id g off lim))))=_;rw[ji,hg,yy hl ho,hc];rfl
   show aB (od E.P (.cell s t) A.tm H2) none (λx=>aB (some []) none λl=>some (x::l))=_;rw[e1];rfl
  show aB (cI E.P [.cell s t] A.tm H2) (R.bad "results") (λl=>R.ok [(fa l,H2)])=_
  rw[hr];rfl
 rcases he with rfl|rfl
 ·exact key
 exact key
def fg{H:Hp}{d:Nat}(h:H.get d=some (.oth (.dfr true))):closeAll H [d]=some (H.mod d (.oth (.dfr false))):=by show(match H.get d with|some (.oth (.dfr true))=>closeAll (H.mod d (.oth (.dfr false))) []|_=>none)=_;rw[h];rfl
def SlC.fr{H H':Hp}{v:AC}{sz n:Nat}{c:List AC}{X:Nat->Prop}(h:SlC H v sz n c)(hf:Fr X H H')(hx:∀id∈(AV.one v).ids,¬X id):SlC H' v sz n c:=by refine⟨h.1,h.2.imp id ?_⟩;rintro⟨id,g,off,h1,h2,h3⟩;subst h1;exact⟨id,g,off,rfl,ay h2 hf.nx,h3.dV (hf.get _ h2 (hx id (List.mem_singleton.2 rfl)))⟩
abbrev Pr:=List UInt8×Int
def prC(x:Pr):List AC:=[.o (.str x.1),.i .i64 x.2]
def fF(x:Pr):prC x=[.o (.str x.1),.i .i64 x.2]:=by unfold prC;rfl
def XS(x:Pr):(prC x).length=2:=rfl
def SlP(H:Hp)(v:AC)(l:List Pr):Prop:=SlC H v 2 l.length (l.flatMap prC)
def SlP.gr{H H':Hp}{v:AC}{l:List Pr}(h:SlP H v l)(hg:Gr H H'):SlP H' v l:=SlC.gr h hg
def SlP.len{H:Hp}{v:AC}{l:List Pr}(h:SlP H v l):eo H 1 (.one v)=.val (.one (.i .i64 (l.length:Int))) H:=SlC.len h
def SlP.lt{H:Hp}{v:AC}{l:List Pr}(h:SlP H v l):ltV (.one v) H.nx:=sj h
def SlP.nil{H:Hp}:SlP H (.o .nilS) []:=⟨by simp,.inl ⟨rfl,rfl⟩⟩
structure aay(cells:List AC)(o:Nat)(x:Pr):Prop where
 all:(cells.drop o).take 2=prC x
 le:o+2<=cells.length
 le1:o+1<=cells.length
 le2:o+1+1<=cells.length
 fst:(cells.drop o).headD (.b false)=.o (.str x.1)
 snd:(cells.drop (o+1)).headD (.b false)=.i .i64 x.2
def XQ{cells:List AC}{o:Nat}{x:Pr}(h:(cells.drop o).take 2=prC x)(hl:o+2<=cells.length):aay cells o x:=by
 refine⟨h,hl,aa,aa,?_,?_⟩
 ·cases hd:cells.drop o with
  |nil=>have:=congrArg List.length hd;simp at this;omega
  |cons a r=>
   rw[hd]at h;cases r with
   |nil=>cases h
   |cons b r=>cases h;rfl
 rw[<-iy];cases hd:cells.drop o with
 |nil=>have:=congrArg List.length hd;simp at this;omega
 |cons a r=>
  rw[hd]at h;cases r with
  |nil=>cases h
  |cons b r=>cases h;rfl
def SlP.open{H:Hp}{v:AC}{l:List Pr}(h:SlP H v l)(hn:0<l.length):∃id g off cells,v=.o (.sl id g off l.length 2)/\id<H.nx/\rowOf (H.get id) g=some cells/\∀(i:Nat)(x:Pr),l[i]?=some x->aay cells (off+i*2) x:=by
 obtain⟨id,g,off,h1,h2,hr⟩:=SlC.pos h hn;have T3:=hr;obtain⟨cells,h3,h6,h7⟩:=hr;refine⟨id,g,off,cells,h1,h2,h3,λi x hx=>?_⟩;obtain⟨cells',k3,k6,k7⟩:=Rd.at (c:=prC) XS T3 hx;rw[h3]at k3;cases k3
 exact XQ k7 k6
def yv:Int->List Pr->List (Pr×Int)
 |_,[]=>[]
 |v,u::us=>if u.2<1\/60<u.2\/1099511627776<v*u.2 then[]else(u,v*u.2)::yv (v*u.2) us
def Mz:∀(v:Int)(us:List Pr),(yv v us).length<=us.length
 |_,[]=>ai _
 |v,u::us=>by
  unfold yv;split
  ·exact Nat.zero_le _
  exact Nat.succ_le_succ (Mz _ us)
def VR:∀(v:Int)(us:List Pr)(i:Nat)(y:Pr×Int),(yv v us)[i]?=some y->us[i]?=some y.1
 |_,[],_,_,h=>by simp[yv]at h
 |v,u::us,i,y,h=>by
  unfold yv at h;split at h
  ·simp at h
  cases i with
  |zero=>simp only[List.getElem?_cons_zero,xj]at h |-;rw[<-h]
  |succ i=>rw[List.getElem?_cons_succ]at h |-;exact VR _ us i y h
def yA(ys:List (Pr×Int))(i:Nat):List AV:=
 match ys[i]? with
 |some y=>[.agg (prC y.1),.one (.i .i64 y.2)]
 |none=>[.any,.any]
def VQ(ys:List (Pr×Int))(i:Nat):(yA ys i).length=2:=by unfold yA;split<;>rfl
def VP{ys:List (Pr×Int)}{i:Nat}{y:Pr×Int}(h:ys[i]?=some y):yA ys i=[.agg (prC y.1),.one (.i .i64 y.2)]:=by unfold yA;rw[h]
def DL(il:Nat)(u:AC)(k:Nat):Prop:=k=il\/k∈(AV.one u).ids
def Es(H:Hp)(il:Nat)(n:AC)(u:AC)(us:List Pr)(Z4:il<H.nx)(hg:H.get il=some (.arr [n,u] 51 0 0))(hu:SlP H u us)(hL:us.length<=1000000)(ys:List (Pr×Int))(hys:yv 1 us=ys):
  ItC E2 115 [(il,0,0,2)] ys.length (yA ys) (DL il u) H:=by
 intro σ L B s H1 C5 R4 hj;refine Con.of rfl λlg=>?_;have hj:B.J 0 s ⟨H1.t,H1.nx,lg⟩:=B.hJ hj (ai _) λ_ _=>rfl;have C5:H.nx<=(⟨H1.t,H1.nx,lg⟩:Hp).nx:=C5;have R4:∀k,k<H.nx->(⟨H1.t,H1.nx,lg⟩:Hp).get k=H.get k:=R4;have e0:H1.nx=(⟨H1.t,H1.nx,lg⟩:Hp).nx:=rfl;rw[e0];clear e0;generalize(⟨H1.t,H1.nx,lg⟩:Hp)=H1 at hj C5 R4 |-
 have hg1:H1.get il=some (.arr [n,u] 51 0 0):=by rw[R4 _ Z4];exact hg
 have hil1:il<H1.nx:=ay Z4 C5;have V2:SlP H1 u us:=SlC.dV hu C5 R4;have hnu:∀id∈(AV.one u).ids,¬B.fp s id:=λid h hf=>(B.hl hj hf).2 (.inr h);have jend:∀(j:Nat)(s3:σ)(H3:Hp),j=ys.length->B.J j s3 H3->B.J ys.length s3 H3:=λj s3 H3 e h=>by subst e;exact h
 refine C1.fK 35 [] Tryz.func115 λtm h0 h1=>?_;refine qW (zDk aw h0 h1 cX cY hg1 hil1 eR V2.len V2.lt) ?_;refine R1.mh λK k1 k2 k3 k4=>?_;refine R1.loop (λk A H2=>∃(i:Nat)(s2:σ)(val:Int),k=us.length-i/\i<=us.length/\i<=ys.length/\ys.drop i=yv val (us.drop i)/\1<=val/\val<=1099511627776/\B.J i s2 H2/\Fr (B.fp s) H1 H2/\(∀k,B.fp s2 k->B.fp s k\/H1.nx<=k) /\
  slot A.tm 0=.one (.o (.yl L))/\slot A.tm 3=.one (.i .i64 val)/\slot A.tm 7=.one u/\slot A.tm 8=.one (.i .i64 (us.length:Int))/\slot A.tm 9=.one (.i .i64 (i:Int))/\A.nt=35/\A.dfr=[]) ?_ us.length
  ⟨0,s,1,rfl,Nat.zero_le _,Nat.zero_le _,hys.symm,aa,aa,hj,Fr.refl _,λ_ h=>.inl h,?_⟩
 ·clear h0 h1 tm;rintro k A H2 ⟨i,s2,val,rfl,hi,hiy,hdy,b8,O6,hj2,hf2,M6,t0,t3,t7,t8,t9,A0,B0⟩;have J6:SlP H2 u us:=SlC.fr V2 hf2 hnu;have fin:∀(e:ax),e=.normal\/e=.ret->∀s3 H3 A3,B.J ys.length s3 H3\/B.F s3 H3->Fr (B.fp s) H1 H3->(∀k,B.fp s3 k->B.fp s k\/H1.nx<=k)->A3.dfr=[]->∃v H4,aH E2 [] (e,A3,H3)=.ok [(v,H4)]/\Fr (B.fp s) H1 H4/\∀lg',∃s',(B.J ys.length s' ⟨H4.t,H4.nx,lg'⟩\/B.F s' ⟨H4.t,H4.nx,lg'⟩)/\∀k,B.fp s' k->B.fp s k\/H1.nx<=k:=λe he s3 H3 A3 hjf hf M6 hd=>
   ⟨_,H3,bp he hd,hf,λlg'=>⟨s3,hjf.imp (λh=>B.hJ (H:=H3) h (ai _) λ_ _=>rfl) (λh=>B.hF (H:=H3) h (ai _) λ_ _=>rfl),M6⟩⟩
  have stop:ys.drop i=[]->i=ys.length:=λh=>by have:=congrArg List.length h;rw[iZ,List.length_nil]at this;omega
  refine qW (zDe aw t8 t9 A0) ?_;refine qE λKx Ky hx hy=>?_;refine kG (λhc=>hx ?_) (λhc=>hy ?_)
  ·clear hx hy Kx Ky;have D0:i<us.length:=aa;obtain⟨id,g,off,cells,rfl,hid,hg,Q0⟩:=J6.open aa;have ex:=aO D0;have S0:=List.drop_eq_getElem_cons D0;generalize us[i]=x at ex S0;have Y0:=Q0 i x ex;rw[S0,yv]at hdy;refine qV ?_;refine R1.bJ λK2 q1 q2 q3 q4=>?_;repeat refine R1.aM ?_
   refine qG (zDm aw t7 t9 A0 jD vh sF pt (ixC D0) hid hg (zDd Y0.all Y0.le fF)) λK hK=>?_;apply hK;refine R1.gen (λA3 H3=>Gr H2 H3/\H2.nx<H3.nx/\H3.get H2.nx=some (.arr (prC x) 133 0 0)/\slot A3.tm 0=.one (.o (.yl L))/\dw A3 val (ko A3.tm 5 7 (.o (.ptr H2.nx 0 0 2)) (.o (.sl id g off us.length 2)) (fI A3 us.length (pz A3 i (A3.nt=35/\A3.dfr=[])))))
    ⟨((Fr.refl _).new _).mod _ (.inl (ai _)),?_⟩ ?_
   ·exact qZ (zDi t0 t3 t7 t8 t9 A0 B0 fF)
   clear t0 t3 t7 t8 t9 A0 B0 A;rintro A H3 ⟨g3,n3,gx,t0,t3,t5,t7,t8,t9,A0,B0⟩;have hj3:B.J i s2 H3:=B.hJ hj2 g3.nx λk hk=>g3.get k hk aF;have hf3:Fr (B.fp s) H1 H3:=hf2.gr g3;have N2:=bw i;repeat refine R1.aM ?_
   by_cases Y3:x.2<1
   ·have c1:(x.2<1)=True:=cK Y3;rw[ad (.inl Y3)]at hdy;refine qG (zDj aw t5 A0 gx n3 cW cA fF c1) λK hK=>?_;apply hK;refine qY ?_;refine qW A0 ?_;refine q4 _ _ (k4 _ _ (fin .ret (.inr rfl) s2 H3 _ (.inl (jend _ _ _ (stop hdy) hj3)) hf3 M6 (qd B0)))
   have c1:(x.2<1)=False:=bT Y3;by_cases hb2:60<x.2
   ·have c2:(60<x.2)=True:=cK hb2;rw[ad (.inr (.inl hb2))]at hdy;refine qG (zDk aw t5 A0 gx n3 cW cA fF c1 c2) λK hK=>?_;apply hK;refine qY ?_;refine qW A0 ?_;refine q4 _ _ (k4 _ _ (fin .ret (.inr rfl) s2 H3 _ (.inl (jend _ _ _ (stop hdy) hj3)) hf3 M6 (qd B0)))
   have c2:(60<x.2)=False:=bT hb2;have hmul1:1<=val*x.2:=by have:=wk b8 (by omega:1<=x.2) aa aa;omega
   have hmul2:val*x.2<=1099511627776*60:=wk O6 aa aa aa;have hwm:=bZ (val*x.2);refine qG (zDk aw t5 A0 gx n3 cW cA fF c1 c2) λK hK=>?_;apply hK;refine qY ?_;refine R1.cq ?_;repeat refine R1.aM ?_
   refine qG (zDk aw t3 t5 A0 gx n3 cW cA fF hwm) λK hK=>?_;apply hK;repeat refine R1.aM ?_
   by_cases hb3:1099511627776<val*x.2
   ·have c3:(1099511627776<val*x.2)=True:=cK hb3;rw[ad (.inr (.inr hb3))]at hdy;refine qG (zDd aw A0 c3) λK hK=>?_;apply hK;refine qY ?_;refine qW A0 ?_;refine q4 _ _ (k4 _ _ (fin .ret (.inr rfl) s2 H3 _ (.inl (jend _ _ _ (stop hdy) hj3)) hf3 M6 (qd B0)))
   have c3:(1099511627776<val*x.2)=False:=bT hb3;rw[ab aa]at hdy;have hiy2:i<ys.length:=by
    rcases cO i ys.length with h|h
    ·exact h
    rw[Gy h]at hdy;cases hdy
   have hey:ys[i]?=some (x,val*x.2):=by rw[List.drop_eq_getElem_cons hiy2]at hdy;rw[aO hiy2,(sM hdy).1]
   have hdy2:ys.drop (i+1)=yv (val*x.2) (us.drop (i+1)):=by rw[List.drop_eq_getElem_cons hiy2]at hdy;exact(sM hdy).2
   have hp:=B.pass i s2 H3 hiy2 hj3;rw[VP hey]at hp;refine qG (zDj aw t0 t5 A0 gx n3 vh c3 fF) λK hK=>?_;refine WE.aaE hp λv H4 hf4⟨b,s3,hv,Z6,s7,E7⟩=>?_;subst hv;have hf34:Fr (B.fp s) H1 H4:=hf3.then hf4 λk hk=>(M6 k hk).symm;have hfp4:∀k,B.fp s3 k->B.fp s k\/H1.nx<=k:=λk hk=>by
    rcases E7 k hk with h|h
    ·exact M6 k h
    exact .inr (aD hf3.nx h)
   cases b with
   |false=>refine qS (qA aw A0) ?_;apply hK;refine qY ?_;refine qW A0 ?_;refine q4 _ _ (k4 _ _ (fin .ret (.inr rfl) s3 H4 _ (.inr (s7 rfl)) hf34 hfp4 (qd B0)))
   |true=>
    refine qS (qA aw A0) ?_;apply hK;refine qY ?_;refine qW A0 ?_;refine q1 _ _ ?_;refine qW (zDd A0 t9 N2) ?_;refine⟨us.length-(i+1),aa,i+1,s3,val*x.2,rfl,D0,hiy2,hdy2,hmul1,aa,Z6 rfl,hf34,hfp4,?_,?_,?_,?_,?_,?_,?_⟩
    ·simp only[an,Nat.reduceEqDiff,reduceIte,t0]
    ·simp only[an,Nat.reduceEqDiff,reduceIte]
    ·simp only[an,Nat.reduceEqDiff,reduceIte,t7]
    ·simp only[an,Nat.reduceEqDiff,reduceIte,t8]
    ·simp only[an,Nat.reduceEqDiff,reduceIte]
    ·simp only[bE,A0]
    simp only[aS,B0]
  clear hx hy Kx Ky;have U2:i=us.length:=aa;rw[U2,dD,yv]at hdy;refine qW A0 ?_;refine k2 _ _ ?_;refine fin .normal (.inl rfl) s2 H2 _ (.inl (jend _ _ _ (stop (by rw[U2];exact hdy)) hj2)) hf2 M6 (qd B0)
 all_goals simp only[an,Nat.reduceEqDiff,reduceIte,h0,h1,bE,aS,and_self,true_and]
 all_goals first|rfl|exact⟨rfl,trivial⟩
def Et(H:Hp)(n u:AC)(hu:ltV (.one u) H.nx):
  Con E2 64 [.agg [n,u]] H (λ_=>False) λr H'=>r=.one (.o (.clo 115 [(H.nx,0,0,2)]))/\H'.get H.nx=some (.arr [n,u] 51 0 0)/\H.nx<H'.nx:=by
 refine Con.of rfl λlg=>?_;have e0:H.nx=(⟨H.t,H.nx,lg⟩:Hp).nx:=rfl;rw[e0];clear e0;generalize(⟨H.t,H.nx,lg⟩:Hp)=H at hu |-
 refine C1.jf 4 [.tmp 2] Tryz.func64 λtm h0=>?_;refine qW (qA aw h0) ?_;refine⟨_,_,au (.o (.clo 115 [(H.nx,0,0,2)])) (.inr rfl) rfl qp,(Fr.refl _).new _,λ_=>⟨rfl,?_,?_⟩⟩
 ·exact aJ (H:=H) (o:=.arr [n,u] 51 0 0) rfl
 exact aZ _
def okU(us:List Pr)(i:Nat)(x:Pr):Bool:=nmB x.1&&!((us.take i).any λy=>y.1==x.1)&&((x.2==1)==((i:Int)==0))
def gJ(n:List UInt8)(us:List Pr):Bool:=
 nmB n&&!((us.length:Int)==0)&&decide ((us.length:Int)<=12)&&decide ((yv 1 us).length=us.length)&&(List.range us.length).all λi=>okU us i (us.getD i ([],0))
def aR(n:List UInt8)(us:List Pr):Int:=if gJ n us=true then 0 else 10
def TS{n:List UInt8}{us:List Pr}{i:Nat}{x:Pr}(hx:us[i]?=some x)(h:okU us i x=false):gJ n us=false:=by
 have D0:i<us.length:=by
  rcases cO i us.length with h|h
  ·exact h
  rw[iw h]at hx;cases hx
 have:((List.range us.length).all λi=>okU us i (us.getD i ([],0)))=false:=List.all_eq_false.2 ⟨i,List.mem_range.2 D0,by rw[bt,hx];show¬okU us i x=true;rw[h];decide⟩;unfold gJ;rw[this,Bool.and_false]
def kz(us:List Pr)(i:Nat):List (List UInt8×AC):=(us.take i).map λx=>(x.1,.b true)
def Ef{us:List Pr}{i:Nat}(h:i<=us.length):(kz us i).length=i:=by unfold kz;rw[cT,dY];omega
def JS(us:List Pr)(i:Nat)(s:List UInt8):atK (kz us i) s=if(us.take i).any (λy=>y.1==s)=true then some (.b true)else none:=by
 unfold kz;induction us.take i with
 |nil=>rfl
 |cons x l ih=>
  show(if x.1=s then some (AC.b true)else atK (l.map λx=>(x.1,AC.b true)) s)=_;rw[ih,List.any_cons];by_cases h:x.1=s
  ·rw[ad h,h,fl,Bool.true_or,ad rfl]
  rw[ab h,aW h,Bool.false_or]
def Mb{us:List Pr}{i:Nat}{x:Pr}(hx:us[i]?=some x):kz us (i+1)=kz us i++[(x.1,.b true)]:=by obtain⟨D0,rfl⟩:=List.getElem?_eq_some_iff.1 hx;unfold kz;rw[dK D0,List.map_append];rfl
def VL{H:Hp}{m:Nat}{us:List Pr}{i:Nat}{x:Pr}(hg:H.get m=some (jT (kz us i)))(hx:us[i]?=some x)(hs:((us.take i).any λy=>y.1==x.1)=false):
  bD prog H 9 (.one (.o (.mp m))) (.one (.o (.str x.1))) (.one (.b true))=.val aP (H.mod m (jT (kz us (i+1)))):=by
 rw[Mb hx];exact BD TP hg (by rw[JS,hs];rfl)
def cJ(t:PT AV)(d i:Nat)(v:AV):slot (t.set d v) i=if i=d then v else slot t i:=by
 unfold slot;rw[PT.eQ];by_cases h:i=d
 ·rw[ad h,ad h];rfl
 rw[ab h,ab h]
def Dx{H:Hp}{m:Nat}{us:List Pr}{i:Nat}{s:List UInt8}(hg:H.get m=some (jT (kz us i))):
  bI prog H 9 (.one (.b false)) (.one (.o (.mp m))) (.one (.o (.str s))) false=.val (.one (.b ((us.take i).any λy=>y.1==s))) H:=by
 rw[AX TP hg,JS];cases(us.take i).any (λy=>y.1==s)<;>rfl
def re(H:Hp)(b:Bool)(e:Int):Con E2 62 [.one (.b b),.one (.i .i64 e)] H (λ_=>False) λr _=>r=.one (.i .i64 (if b=true then 0 else e)):=by
 refine Con.nO λH=>?_;refine C1.fK 7 [.tmp 4] Tryz.func62 λtm h0 h1=>?_;cases b with
 |true=>refine qW (zDd aw h0 h1) ?_;refine qY ?_;refine qV ?_;exact⟨_,_,au (.i .i64 0) (.inr rfl) rfl qp,Fr.refl _,λ_=>rfl⟩
 |false=>refine qW (zDd aw h0 h1) ?_;refine qY ?_;refine qW h1 ?_;exact⟨_,_,au (.i .i64 e) (.inr rfl) rfl qp,Fr.refl _,λ_=>rfl⟩
def rW(H:Hp)(n:List UInt8)(u:AC)(us:List Pr)(hu:SlP H u us):
  Con E2 39 [.agg [.o (.str n),u]] H (λ_=>False) λr _=>r=.one (.i .i64 (aR n us)):=by
 refine Con.qw (λH=>SlP H u us) hu λH hu=>?_;refine C1.jf 55 [.cell 2 35] Tryz.func39 λtm h0=>?_;refine qG (zDd aw h0 wx) λK hK=>?_;apply hK;have J3:∀id∈(AV.one u).ids,id<H.nx:=hu.lt;refine R1.gen (λA1 H1=>Gr H H1/\H.nx+1<H1.nx/\H1.get H.nx=some (.arr [.o (.str n),u] 51 0 0)/\H1.get (H.nx+1)=some (.arr [.i .i64 0] 35 0 0)/\ea A1 H.nx (eK A1 2 (.o (.ptr (H.nx+1) 0 0 1)) 55 []))
  ⟨((Fr.refl _).new _).new _,?_⟩ ?_
 ·exact qU
 rintro A1 H1 ⟨g1,n1,r1,r2,t1,t2,A0,B0⟩;clear h0 tm;have V2:SlP H1 u us:=hu.gr g1;obtain⟨c1,hc1⟩:=dZ H.nx;obtain⟨c2,o8⟩:∃c,c=H.nx+1:=⟨_,rfl⟩;have h12:c1<c2:=aa;have Z2:H.nx<=c1:=aa;rw[<-hc1]at r1 t1 J3;rw[<-o8]at r2 t2 n1;have l1:c1<H1.nx:=aa;have fin:∀(e:ax)(A:ag)(H2 H3:Hp)(v:Int),(e=.normal\/e=.ret)->closeAll H2 A.dfr=some H3->Gr H H3->slot A.tm 2=.one (.o (.ptr c2 0 0 1))->H3.get c2=some (.arr [.i .i64 v] 35 0 0)->v=aR n us ->
   ∃w H4,aH E2 [.cell 2 35] (e,A,H2)=.ok [(w,H4)]/\Gr H H4/\∀_:List Nat,w=.one (.i .i64 (aR n us)):=λe A H2 H3 v he hd hg hs hr hv=>
  ⟨_,H3,uF (c:=.i .i64 v) vf he hd hs (by rw[hr];exact de (ai _) (ai _)) (ai _) (ai _) rfl,hg,λ_=>by rw[hv]⟩
 repeat refine R1.aM ?_
 refine qG (zDi aw t1 A0 r1 l1 jE cB nh) λK hK=>?_;refine WE.eu (qC n) λH2 g2 n2 e2=>?_;have r1:H2.get c1=some (.arr [.o (.str n),u] 51 0 0):=(e2 c1).trans r1;have r2:H2.get c2=some (.arr [.i .i64 0] 35 0 0):=(e2 c2).trans r2;rw[<-n2]at l1 n1;have J6:SlP H2 u us:=V2.gr g2;have g2:Gr H H2:=g1.gr g2;clear g1 e2 n2 V2;have bad:∀(A:ag),slot A.tm 2=.one (.o (.ptr c2 0 0 1))->A.nt=55->A.dfr=[]->aR n us=10->∃w H4,aH E2 [.cell 2 35] (.ret,A,H2.mod c2 (.arr [.i .i64 10] 35 0 0))=.ok [(w,H4)]/\Gr H H4/\∀_:List Nat,w=.one (.i .i64 (aR n us)):=λA hs hn hd hv=>fin .ret A _ _ 10 (.inr rfl) (by rw[hd];rfl) (g2.mod _ (.inl aa)) hs (ao rfl) hv.symm
 cases hnm:nmB n with
 |false=>refine qS (zDd aw t1 A0) ?_;apply hK;refine qY ?_;refine qW (zDg aw t2 A0 hU r2 n1) ?_;exact bad _ (by simp only[an,Nat.reduceEqDiff,reduceIte,t2]) (by simp only[bE,A0]) (qd B0) (by unfold aR gJ;rw[hnm];rfl)
 |true=>
  cases hz:((us.length:Int)==0)with
  |true=>refine qS (zDl aw t1 A0 r1 l1 cX cY eR J6.len J6.lt hz) ?_;apply hK;refine qY ?_;refine qW (zDg aw t2 A0 hU r2 n1) ?_;exact bad _ (by simp only[an,Nat.reduceEqDiff,reduceIte,t2]) (by simp only[bE,A0]) (qd B0) (by unfold aR gJ;rw[hz];simp only[Bool.not_true,Bool.and_false,Bool.false_and,Bool.false_eq_true,if_false])
  |false=>
   by_cases h12':(12:Int)<us.length
   ·have c12:((12:Int)<us.length)=True:=cK h12';refine qS (zDm aw t1 A0 r1 l1 cX cY eR J6.len J6.lt hz c12) ?_;apply hK;refine qY ?_;refine qW (zDg aw t2 A0 hU r2 n1) ?_;exact bad _ (by simp only[an,Nat.reduceEqDiff,reduceIte,t2]) (by simp only[bE,A0]) (qd B0) (by unfold aR gJ;rw[aV (by omega:¬(us.length:Int)<=12)];simp only[Bool.and_false,Bool.false_and,Bool.false_eq_true,if_false])
   have c12:((12:Int)<us.length)=False:=bT h12';refine qS (zDm aw t1 A0 r1 l1 cX cY eR J6.len J6.lt hz c12) ?_;apply hK;refine qE λKx Ky hx hy=>?_;refine hy ?_;clear hx hy Kx Ky bad;refine R1.cq ?_;repeat refine R1.aM ?_
   refine qG (zDe aw A0 aaj aad) λK hK=>?_;apply hK;refine R1.gen (λA3 H3=>Gr H H3/\H3.nx=H2.nx+2/\H3.get c1=some (.arr [.o (.str n),u] 51 0 0)/\H3.get c2=some (.arr [.i .i64 0] 35 0 0)/\H3.get H2.nx=some (jT (kz us 0))/\H3.get (H2.nx+1)=some (.arr [.o (.mp H2.nx)] 150 0 0) /\
    slot A3.tm 1=.one (.o (.ptr c1 0 0 2))/\slot A3.tm 2=.one (.o (.ptr c2 0 0 1))/\slot A3.tm 3=.one (.o (.ptr (H2.nx+1) 0 0 1))/\A3.nt=55/\A3.dfr=[])
    ⟨((g2.new _).new _).mod _ (.inl (by have:=g2.nx;omega)),rfl,?_,?_,?_,?_,?_⟩ ?_
   ·rw[az aa,bu (by rw[xM];omega),bu l1];exact r1
   ·rw[az aa,bu (by rw[xM];omega),bu n1];exact r2
   ·rw[az aa,bu (by rw[xM];omega),aJ rfl];rfl
   ·exact ao rfl
   ·simp only[qB,bc,Nat.reduceLT,Nat.reduceEqDiff,Nat.reduceLeDiff,reduceIte,Nat.reduceAdd,Nat.reduceSub,Nat.reduceMul,Int.reduceLT,Int.reduceLE,Int.reduceBEq,t1,t2,A0,B0,and_self]
   rintro A H3 ⟨g3,n3,q1,q2,qm,q3,t1,t2,t3,A0,B0⟩;have hu3:SlP H3 u us:=hu.gr g3;obtain⟨m,hm⟩:=dZ H2.nx;obtain⟨c3,o7⟩:∃c,c=H2.nx+1:=⟨_,rfl⟩;rw[<-o7]at q3 t3;rw[<-hm]at qm q3;have o1:c2<m:=aa;have o2:m<c3:=aa;have o3:c3<H3.nx:=aa;clear hm o7 n3 r1 r2 J6 l1 n1;have l1:c1<H3.nx:=aa;repeat refine R1.aM ?_
   refine qG (zDh aw t1 A0 q1 l1 gM Hx) λK hK=>?_;refine WE.con (Et H3 (.o (.str n)) u hu3.lt) λv H5 g5⟨hv,Z4,hln⟩=>?_;subst hv;refine qS (qA aw A0) ?_;apply hK;refine R1.lp (λA4=>ea A4 c1 (mW A4 c2 c3 (eK A4 23 (.o (.clo 115 [(H3.nx,0,0,2)])) 55 [])))
    ⟨by simp only[an,Nat.reduceEqDiff,reduceIte,t1],by simp only[an,Nat.reduceEqDiff,reduceIte,t2],by simp only[an,Nat.reduceEqDiff,reduceIte,t3],by simp only[an,Nat.reduceEqDiff,reduceIte],by simp only[bE,A0],by simp only[aS,B0]⟩ ?_
   clear t1 t2 t3 A0 B0 A;rintro A ⟨t1,t2,t3,t23,A0,B0⟩;have gg:Gr H H5:=g3.gr g5;have q1:H5.get c1=some (.arr [.o (.str n),u] 51 0 0):=by rw[g5.get _ l1 aF];exact q1
   have q2:H5.get c2=some (.arr [.i .i64 0] 35 0 0):=by rw[g5.get _ aa aF];exact q2
   have q3:H5.get c3=some (.arr [.o (.mp m)] 150 0 0):=by rw[g5.get _ o3 aF];exact q3
   have qm:H5.get m=some (jT (kz us 0)):=by rw[g5.get _ aa aF];exact qm
   have R5:SlP H5 u us:=hu3.gr g5;have o4:c3<H5.nx:=ay o3 g5.nx;have l3:c1<H3.nx:=l1;obtain⟨il,w8⟩:=dZ H3.nx;rw[<-w8]at Z4 hln t23 o3 l3;clear w8 l1;generalize hys:yv 1 us=ys;have hyl:ys.length<=us.length:=by rw[<-hys];exact Mz 1 us
   have husL:us.length<=12:=aa;refine R1.bJ λK k1 k2 k3 k4=>?_;refine R1.range (σ:=Unit) (g:=115) (caps:=[(il,0,0,2)]) (n:=ys.length) (ar:=yA ys) (D:=DL il u) (by simp only[Ar,t23]) Ct (λ_=>rfl)
    (Es H5 il (.o (.str n)) u us hln Z4 R5 aa ys hys) (λk hk=>by
     rcases hk with h|h
     ·omega
     exact sI (J3 k h) aa) (by rw[A0];rfl) (λi _=>VQ ys i)
    (λi _ H6=>H6.get m=some (jT (kz us i))/\H6.get c3=some (.arr [.o (.mp m)] 150 0 0)/\H6.get c2=some (.arr [.i .i64 0] 35 0 0)/\(∀j,j<i->okU us j (us.getD j ([],0))=true)/\H5.nx<=H6.nx)
    (λe _ H6=>e=.ret/\H6.get c2=some (.arr [.i .i64 10] 35 0 0)/\gJ n us=false/\H5.nx<=H6.nx)
    (λ_ k=>k=m\/k=c2) ?_ ?_ ?_ () ?_ ?_ ?_ ?_
   ·rintro i s H6 H7 ⟨a1,a2,a3,a4,a5⟩ hs;exact⟨by rw[hs.get _ aa aa];exact a1,by rw[hs.get _ aa aa];exact a2,by rw[hs.get _ aa aa];exact a3,a4,aD a5 hs.nx⟩
   ·rintro e s H6 H7 ⟨a1,a2,a3,a5⟩ hs;exact⟨a1,by rw[hs.get _ aa aa];exact a2,a3,aD a5 hs.nx⟩
   ·rintro i s H6 k ⟨a1,a2,a3,a4,a5⟩ hk;have:k<H5.nx/\c1<k/\k<il:=by rcases hk with rfl|rfl<;>omega
    refine⟨aa,aa,aa,λh=>?_⟩;rcases h with h|h
    ·omega
    have:=J3 k h;omega
   ·intro H6 g6 n6;exact⟨by rw[g6.get _ aa aF];exact qm,by rw[g6.get _ o4 aF];exact q3,by rw[g6.get _ aa aF];exact q2,λj hj=>absurd hj (Nat.not_lt_zero j),g6.nx⟩
   ·rintro i _ H6 hi ⟨a1,a2,a3,a4,a5⟩ n6;have hy:=aO hi;generalize ys[i]=y at hy;have L4:us[i]?=some y.1:=VR 1 us i y (by rw[hys];exact hy);rw[VP hy];obtain⟨x,yval⟩:=y;have L4:us[i]?=some x:=L4;refine R1.lp (λA7=>ea A7 c1 (mW A7 c2 c3 (slot A7.tm 24=.agg (prC x)/\A7.nt=55/\A7.dfr=[]))) ⟨?_,?_,?_,?_,A0,rfl⟩ ?_
    ·show slot ((A.tm.set 24 _).set 25 _) 1=_;simp only[cJ,Nat.reduceEqDiff,reduceIte,t1]
    ·show slot ((A.tm.set 24 _).set 25 _) 2=_;simp only[cJ,Nat.reduceEqDiff,reduceIte,t2]
    ·show slot ((A.tm.set 24 _).set 25 _) 3=_;simp only[cJ,Nat.reduceEqDiff,reduceIte,t3]
    ·show slot ((A.tm.set 24 _).set 25 _) 24=_;simp only[cJ,Nat.reduceEqDiff,reduceIte]
    rintro A7 ⟨u1,u2,u3,u24,unt,udf⟩;refine qG (zDg aw u24 unt pt sF fF) λK hK=>?_;apply hK;refine⟨rfl,((Fr.refl _).new _).mod _ (.inl (ai _)),λH8 n8 s8=>?_⟩;have gu:H8.get H6.nx=some (.arr (prC x) 133 0 0):=by rw[s8.get _ (by show H6.nx<H6.nx+1;omega) aa];exact ao rfl
    have keep:∀k,k<H5.nx->H8.get k=H6.get k:=λk hk=>by rw[s8.get _ (by show k<H6.nx+1;omega) aa,az aa,bu aa]
    have n8':H8.nx=H6.nx+1:=n8;have b1:H8.get m=some (jT (kz us i)):=(keep m aa).trans a1;have b3:H8.get c3=some (.arr [.o (.mp m)] 150 0 0):=(keep c3 o4).trans a2;have b2:H8.get c2=some (.arr [.i .i64 0] 35 0 0):=(keep c2 aa).trans a3;have lu:H6.nx<H8.nx:=aa;clear keep n8 n8' s8 a1 a2 a3;refine R1.mh λK2 p1 p2 p3 p4=>?_;repeat refine R1.aM ?_
    refine qG (zDi aw unt gu lu cF cB fF nh) λK hK=>?_;refine WE.eu (qC x.1) λH9 g9 n9 e9=>?_;have gu:H9.get H6.nx=some (.arr (prC x) 133 0 0):=(e9 _).trans gu;have b1:H9.get m=some (jT (kz us i)):=(e9 m).trans b1;have b3:H9.get c3=some (.arr [.o (.mp m)] 150 0 0):=(e9 c3).trans b3;have b2:H9.get c2=some (.arr [.i .i64 0] 35 0 0):=(e9 c2).trans b2;rw[<-n9]at lu;have n59:H5.nx<=H9.nx:=aa;have lc2:c2<H9.nx:=aa;have lc3:c3<H9.nx:=aa;have lm:m<H9.nx:=aa;have bad:∀(e:ax)(A2:ag),e=.ret->A2.dfr=[]->okU us i x=false->A2.dfr=[]/\Fr (λk=>(k=m\/k=c2)\/H6.nx<=k) H8 (H9.mod c2 (.arr [.i .i64 10] 35 0 0))/\∃s':Unit,
      (e=ax.normal->(H9.mod c2 (.arr [.i .i64 10] 35 0 0)).get m=some (jT (kz us (i+1)))/\(H9.mod c2 (.arr [.i .i64 10] 35 0 0)).get c3=some (.arr [.o (.mp m)] 150 0 0)/\(H9.mod c2 (.arr [.i .i64 10] 35 0 0)).get c2=some (.arr [.i .i64 0] 35 0 0)/\(∀(j:Nat),j<i+1->okU us j (us.getD j ([],0))=true)/\H5.nx<=(H9.mod c2 (.arr [.i .i64 10] 35 0 0)).nx) /\
      (e≠ax.normal->e=ax.ret/\(H9.mod c2 (.arr [.i .i64 10] 35 0 0)).get c2=some (.arr [.i .i64 10] 35 0 0)/\gJ n us=false/\H5.nx<=(H9.mod c2 (.arr [.i .i64 10] 35 0 0)).nx) /\
      ∀(k:Nat),k=m\/k=c2->(k=m\/k=c2)\/H6.nx<=k:=λe A2 he hd hb=>
     ⟨hd,(g9.none).mod _ (.inr (.inl (.inr rfl))),(),λh=>(by rw[he]at h;cases h),λ_=>⟨he,ao rfl,TS L4 hb,n59⟩,λk hk=>.inl hk⟩
    cases hq:nmB x.1 with
    |false=>refine qS (qA aw unt) ?_;apply hK;refine qY ?_;refine qW (zDg aw u2 unt hU b2 lc2) ?_;exact p4 _ _ (bad _ _ rfl (by simp only[aS,udf]) (by unfold okU;rw[hq];rfl))
    |true=>
     cases hseen:((us.take i).any λy=>y.1==x.1)with
     |true=>simp only[qB,bc,Nat.reduceLT,Nat.reduceEqDiff,Nat.reduceLeDiff,reduceIte,Nat.reduceAdd,Nat.reduceSub,Nat.reduceMul,Int.reduceLT,Int.reduceLE,Int.reduceBEq,aw,u3,unt,b3,lc3,gu,lu,Fz,LH,jd,Dx b1,lm,cF,cB,prC,hseen];apply hK;refine qY ?_;refine qW (zDg aw u2 unt hU b2 lc2) ?_;exact p4 _ _ (bad _ _ rfl (by simp only[aS,udf]) (by unfold okU;rw[hseen,Bool.not_true,Bool.and_false,Bool.false_and]))
     |false=>
      have hlm:eo H9 2 (.one (.o (.mp m)))=.val (.one (.i .i64 (i:Int))) H9:=by rw[Uc b1,Ef (by have:=Mz 1 us;rw[hys]at this;omega)]
      simp only[qB,bc,Nat.reduceLT,Nat.reduceEqDiff,Nat.reduceLeDiff,reduceIte,Nat.reduceAdd,Nat.reduceSub,Nat.reduceMul,Int.reduceLT,Int.reduceLE,Int.reduceBEq,aw,u3,unt,b3,lc3,gu,lu,Fz,LH,jd,Dx b1,lm,cF,cW,cB,cA,prC,hseen,Ui,hlm,LQ Yk];apply hK;refine qE λKx Ky hx hy=>?_;refine kG (λhd=>hx ?_) (λhd=>hy ?_)
      ·clear hx hy Kx Ky;refine qW (zDg aw u2 unt hU b2 lc2) ?_;exact p4 _ _ (bad _ _ rfl (by simp only[aS,udf]) (by unfold okU;rw[hq,hseen];simpa using hd))
      clear hx hy Kx Ky bad;have G0:okU us i x=true:=by unfold okU;rw[hq,hseen];simpa using hd
      refine R1.cq ?_;refine R1.Lk λK hK=>?_;simp only[qB,bc,Nat.reduceLT,Nat.reduceEqDiff,Nat.reduceLeDiff,reduceIte,Nat.reduceAdd,Nat.reduceSub,Nat.reduceMul,Int.reduceLT,Int.reduceLE,Int.reduceBEq,aw,u3,unt,b3,lc3,gu,lu,Fz,LH,cF,cB,prC,lm,VL b1 L4 hseen];apply hK;refine p1 _ _ ⟨by simp only[aS,udf],(g9.none).mod _ (.inr (.inl (.inl rfl))),(),λ_=>⟨ao rfl,?_,?_,λj hj=>?_,n59⟩,λh=>absurd rfl h,λk hk=>.inl hk⟩
      ·rw[az aa];exact b3
      ·rw[az aa];exact b2
      rcases cO j i with h|h
      ·exact a4 j h
      have:j=i:=aa;subst this;rw[bt,L4];exact G0
   ·rintro s' H6 ⟨a1,a2,a3,a4,a5⟩ n6 hd6 hf6 M6;have g6:Gr H H6:=gg.then hf6 λk hk=>.inl (by rcases hk with rfl|rfl<;>omega);have q1:H6.get c1=some (.arr [.o (.str n),u] 51 0 0):=by rw[hf6.get _ aa (λh=>by rcases h with h|h<;>omega)];exact q1
    have M7:SlP H6 u us:=hu.gr g6;have hlm:eo H6 2 (.one (.o (.mp m)))=.val (.one (.i .i64 (ys.length:Int))) H6:=by rw[Uc a1,Ef hyl]
    have lc1:c1<H6.nx:=aa;have lc2:c2<H6.nx:=aa;have lc3:c3<H6.nx:=aa;have lm:m<H6.nx:=aa;refine k1 _ _ ?_;refine R1.lp (λA7=>ea A7 c1 (mW A7 c2 c3 (A7.nt=55/\A7.dfr=[H5.nx]))) ⟨t1,t2,t3,A0,by show H5.nx::A.dfr=_;rw[B0]⟩ ?_;rintro A7 ⟨u1,u2,u3,unt,udf⟩;refine qG (zDm aw u1 u3 unt a2 lc3 lc1 lm q1 cX cY (zDh eR Fz Ui hlm M7.len M7.lt uA)) λK hK=>?_;refine WE.con (re H6 _ 10) λv H7 g7 hv=>?_;subst hv;have b2:H7.get c2=some (.arr [.i .i64 0] 35 0 0):=by rw[g7.get _ lc2 aF];exact a3
    have lc2:c2<H7.nx:=ay lc2 g7.nx;have hd7:H7.get H5.nx=some (.oth (.dfr true)):=by rw[g7.get _ aa aF];exact hd6
    have g67:Gr H H7:=g6.gr g7;refine qS (zDg aw u2 unt hU b2 lc2) ?_;apply hK;refine qV ?_;refine fin .ret _ _ _ _ (.inr rfl) (by simp only[aS,udf];exact fg (by rw[az aa];exact hd7)) ((g67.mod _ (.inl aa)).mod _ (.inl (by have:=gg.nx;omega))) (by simp only[an,Nat.reduceEqDiff,reduceIte,u2]) (by rw[az aa];exact ao rfl) ?_;unfold aR;by_cases hlen:(ys.length:Int)=us.length
    ·have L2:gJ n us=true:=by unfold gJ;rw[hnm,hz,hys,aL (by omega:(us.length:Int)<=12),aL (by omega:ys.length=us.length)];simp only[Bool.not_false,Bool.true_and,rN];intro j hj;exact a4 j (by have:=List.mem_range.1 hj;omega)
     rw[L2,hlen,fl]
    have L2:gJ n us=false:=by unfold gJ;rw[hys,aV (by omega:¬ys.length=us.length),Bool.and_false,Bool.false_and]
    rw[L2,aW hlen]
   rintro e s' H6 I1 ⟨rfl,a2,a3,a5⟩ n6 hd6 hf6 M6;have g6:Gr H H6:=gg.then hf6 λk hk=>.inl (by rcases hk with rfl|rfl<;>omega);refine k4 _ _ (fin .ret _ _ _ 10 (.inr rfl) (by show closeAll H6 (H5.nx::A.dfr)=_;rw[B0];exact fg hd6) (g6.mod _ (.inl (by have:=gg.nx;omega))) t2 (by rw[az aa];exact a2) ?_);unfold aR;rw[a3];rfl
def Cs:aq prog 38=true:=ae
def tc{E:Env}{s:Tmp}{t:TypeId}{n:Nat}{A:ag}{H H2:Hp}{e:ax}{id g lim:Nat}{cells:List AC}(ht:loadT E.P t=some (true,n))(he:e=.normal\/e=.ret)(hd:closeAll H A.dfr=some H2)(hs:slot A.tm s=.one (.o (.ptr id g 0 lim)))
  (hg:rowOf (H2.get id) g=some cells) (hl:n<=lim) (ho:cells.length=n):aH E [.cell s t] (e,A,H)=.ok [(.agg cells,H2)]:=by
 have key:(aB (closeAll H A.dfr) (R.bad "marks") λh2=>aB (cI E.P [.cell s t] A.tm h2) (.bad "results") λl=>.ok [(fa l,h2)])=.ok [(.agg cells,H2)]:=by
  rw[hd];have e1:od E.P (.cell s t) A.tm H2=some (true,cells):=by
   have e0:od E.P (.cell s t)=match loadT E.P t with|some p=>λtm h=>aB (tm.get s) none λv=>aj.rec (motive:=λ_=>Option (Bool×List AC)) (λv _=>jU v) (λ_=>none) (λ_ _=>none) (λ_ _=>none) (λ_=>none) (dB h p.1 p.2 v)|none=>λ_ _=>none:=rfl
   rw[e0,ht];show aB (A.tm.get s) none (λv=>aj.rec (motive:=λ_=>Option (Bool×List AC)) (λv _=>jU v) (λ_=>none) (λ_ _=>none) (λ_ _=>none) (λ_=>none) (dB H2 true n v))=_;rw[Fi hs];show aj.rec (motive:=λ_=>Option (Bool×List AC)) (λv _=>jU v) (λ_=>none) (λ_ _=>none) (λ_ _=>none) (λ_=>none) (dB H2 true n (.one (.o (.ptr id g 0 lim))))=_;rw[ji,hg,yx hl aa,List.drop_zero,iX aa];rfl
  have hr:cI E.P [.cell s t] A.tm H2=some [(true,cells)]:=by show aB (od E.P (.cell s t) A.tm H2) none (λx=>aB (some []) none λl=>some (x::l))=_;rw[e1];rfl
  show aB (cI E.P [.cell s t] A.tm H2) (R.bad "results") (λl=>R.ok [(fa l,H2)])=_
  rw[hr];rfl
 rcases he with rfl|rfl
 ·exact key
 exact key
def Ae(H:Hp)(n:List UInt8)(u:AC)(us:List Pr)(hu:SlP H u us)(hL:us.length<=1000000):
  Con E2 38 [.agg [.o (.str n),u]] H (λ_=>False) λr H'=>∃u',r=.agg [.o (.str n),u']/\SlP H' u' us/\∀id∈(AV.one u').ids,H.nx<=id:=by
 refine Con.Iw (λH=>SlP H u us) hu λH e hu=>?_;rw[<-e];clear e;refine C1.jf 9 [.cell 2 51] Tryz.func38 λtm h0=>?_;refine qG (zDd aw h0 iA) λK hK=>?_;apply hK;refine R1.gen (λA1 H1=>Gr H H1/\H.nx+1<H1.nx/\H1.get H.nx=some (.arr [.o (.str n),u] 51 0 0)/\H1.get (H.nx+1)=some (.arr [.o (.str []),.o .nilS] 51 0 0)/\ea A1 H.nx (iB A1 (H.nx+1) (A1.nt=9/\A1.dfr=[])))
  ⟨((Fr.refl _).new _).new _,?_⟩ ?_
 ·exact qU
 rintro A1 H1 ⟨g1,n1,r1,r2,t1,t2,A0,B0⟩;clear h0 tm;have V2:SlP H1 u us:=hu.gr g1;have l1:H.nx<H1.nx:=aa;have hlu:ltV (.one u) H1.nx:=V2.lt;obtain⟨z,hz,S2⟩:=Pm;obtain⟨v,H2,X2,hv,hvn,g2⟩:=MZ jD Nq hz S2 aE V2 aa;clear hz S2 z;have r2:H2.get (H.nx+1)=some (.arr [.o (.str []),.o .nilS] 51 0 0):=by rw[g2.get _ n1 aF];exact r2
 have n2:H.nx+1<H2.nx:=ay n1 g2.nx;have hfl:FrL H1.nx H1 H2:=FrL.of g2 λ_ h=>h.elim;have hv3:SlP (H2.mod (H.nx+1) (.arr [.o (.str n),v] 51 0 0)) v us:=SlC.fr hv (X:=λk=>k=H.nx+1) ((Fr.refl _).mod _ (.inr rfl)) λid h hh=>by have:=hvn id h;omega
 have hv4:∀id∈(AV.one v).ids,H.nx<=id:=λid h=>by have:=hvn id h;omega
 clear hvn;replace hv3:=ah hv3;replace hv4:=ah hv4;refine R1.s_q 6 ae λK hK=>?_;refine zQ (zDk aw jE cX cB cY iA FT JD JE mO) ?_;apply hK.out;refine qV ?_;exact⟨_,_,tc (id:=H.nx+1) (g:=0) gM (.inr rfl) (by simp only[aS,B0];rfl) (by simp only[an,Nat.reduceEqDiff,reduceIte,t2]) (by rw[ao rfl];exact de (ai _) (ai _)) (ai _) rfl,(g1.gr g2).mod _ (.inl (Nat.le_succ _)),λ_=>⟨v,rfl,hv3.out,hv4.out⟩⟩
abbrev Lad:=List UInt8×List Pr
def uj(H:Hp)(c:List AC)(x:Lad):Prop:=∃u,c=[.o (.str x.1),u]/\SlP H u x.2
def uj.gr{H H':Hp}{c:List AC}{x:Lad}(h:uj H c x)(hg:Gr H H'):uj H' c x:=let ⟨u,h1,h2⟩:=h;⟨u,h1,h2.gr hg⟩
def gH(H:Hp)(v:AC)(ls:List Lad):Prop:=SlR uj 2 H v ls
def gH.gr{H H':Hp}{v:AC}{ls:List Lad}(h:gH H v ls)(hg:Gr H H'):gH H' v ls:=SlR.dV h hg.nx (λi hi=>hg.get i hi aF) λ_ _ h=>h.gr hg
def gH.len{H:Hp}{v:AC}{l:List Lad}(h:gH H v l):eo H 1 (.one v)=.val (.one (.i .i64 (l.length:Int))) H:=SlR.len h
def gH.lt{H:Hp}{v:AC}{l:List Lad}(h:gH H v l):ltV (.one v) H.nx:=SlR.lt h
def gH.open{H:Hp}{v:AC}{l:List Lad}(h:gH H v l)(hn:0<l.length):∃id g off cells,v=.o (.sl id g off l.length 2)/\id<H.nx/\rowOf (H.get id) g=some cells /\
  ∀(i:Nat)(x:Lad),l[i]?=some x->∃u,SlP H u x.2/\(cells.drop (off+i*2)).take 2=[.o (.str x.1),u]/\off+i*2+2<=cells.length/\off+i*2+1<=cells.length/\off+i*2+1+1<=cells.length /\
   (cells.drop (off+i*2)).headD (.b false)=.o (.str x.1)/\(cells.drop (off+i*2+1)).headD (.b false)=u:=by
 obtain⟨id,g,off,cells,e1,hid,hg,Q0⟩:=SlR.open h hn;refine⟨id,g,off,cells,e1,hid,hg,λi x hx=>?_⟩;obtain⟨hle,c,hc,W0,u,rfl,hu⟩:=Q0 i x hx;refine⟨u,hu,hc,hle,aa,aa,?_,?_⟩
 ·cases hd:cells.drop (off+i*2)with
  |nil=>rw[hd]at hc;cases hc
  |cons a r=>
   rw[hd]at hc;cases r with
   |nil=>cases hc
   |cons b r=>cases hc;rfl
 rw[<-iy];cases hd:cells.drop (off+i*2)with
 |nil=>rw[hd]at hc;cases hc
 |cons a r=>
  rw[hd]at hc;cases r with
  |nil=>cases hc
  |cons b r=>cases hc;rfl
def plN:Nat->List Lad->List (List UInt8×AC)
 |_,[]=>[]
 |n,x::ls=>(x.1,.i .i64 (n:Int))::plN (n+1) ls
def jH:Nat->List Lad->List UInt8->Option Nat
 |_,[],_=>none
 |n,x::ls,s=>if x.1=s then some n else jH (n+1) ls s
def KU:∀(n:Nat)(ls:List Lad)(s:List UInt8),atK (plN n ls) s=(jH n ls s).map λi=>.i .i64 (i:Int)
 |_,[],_=>rfl
 |n,x::ls,s=>by
  show(if x.1=s then some (AC.i .i64 (n:Int))else atK (plN (n+1) ls) s)=Option.map _ (if x.1=s then some n else jH (n+1) ls s);by_cases h:x.1=s
  ·rw[ad h,ad h];rfl
  rw[ab h,ab h];exact KU (n+1) ls s
def OC:∀(n:Nat)(ls:List Lad)(x:Lad),plN n (ls++[x])=plN n ls++[(x.1,.i .i64 ((n+ls.length:Nat):Int))]
 |n,[],x=>rfl
 |n,y::ls,x=>by
  show _::plN (n+1) (ls++[x])=_::(plN (n+1) ls++_);rw[OC (n+1) ls x];have:n+1+ls.length=n+(y::ls).length:=by rw[List.length_cons];omega
  rw[this]
def Og{H:Hp}{m:Nat}{ls:List Lad}{s:List UInt8}(hg:H.get m=some (jT (plN 0 ls))):
  bI prog H 9 (.one (.i .i64 0)) (.one (.o (.mp m))) (.one (.o (.str s))) true=.val (.tup [(false,[.i .i64 (((jH 0 ls s).getD 0:Nat):Int)]),(false,[.b (jH 0 ls s).isSome])]) H:=by
 rw[AX TQ hg,KU];cases jH 0 ls s<;>rfl
def NW:∀(n:Nat)(ls:List Lad)(s:List UInt8)(i:Nat),jH n ls s=some i->n<=i/\i<n+ls.length/\∃x,ls[i-n]?=some x/\x.1=s
 |_,[],_,_,h=>by cases h
 |n,x::ls,s,i,h=>by
  unfold jH at h;by_cases hx:x.1=s
  ·rw[ad hx]at h;cases h
   refine⟨ai _,by rw[List.length_cons];omega,x,by rw[ga];rfl,hx⟩
  rw[ab hx]at h;obtain⟨h1,h2,y,h3,h4⟩:=NW (n+1) ls s i h;refine⟨aa,by rw[List.length_cons];omega,y,?_,h4⟩;have:i-n=(i-(n+1))+1:=aa;rw[this,List.getElem?_cons_succ];exact h3
def vw:List Lad->List Lad->Int
 |_,[]=>0
 |acc,x::ls=>if aR x.1 x.2≠0 then aR x.1 x.2 else if(jH 0 acc x.1).isSome=true then 2 else vw (acc++[x]) ls
def oP(ls:List Lad):Int:=if(32:Int)<ls.length then 3 else vw [] ls
def sY(H:Hp)(p:AC)(ls:List Lad):Prop:=
 ∃kb m lad gr fc,p=.o (.ptr kb 0 0 4)/\kb<H.nx/\m<H.nx/\H.get kb=some (.arr [lad,.o (.mp m),gr,fc] 106 0 0)/\H.get m=some (jT (plN 0 ls))/\gH H lad ls
def sY.gr{H H':Hp}{p:AC}{ls:List Lad}(h:sY H p ls)(hg:Gr H H'):sY H' p ls:=by obtain⟨kb,m,lad,gr,fc,h1,h2,h3,h4,h5,h6⟩:=h;exact⟨kb,m,lad,gr,fc,h1,ay h2 hg.nx,ay h3 hg.nx,by rw[hg.get _ h2 aF];exact h4,by rw[hg.get _ h3 aF];exact h5,h6.gr hg⟩
def KZ:aq prog 21=true:=ae
structure NB(n0 kb m:Nat)(lm ll:List Lad)(k2 k3:Nat)(H1:Hp)(lad gr fc:AC)(r1 r2 r3:Option Nat):Prop where
 kbg:H1.get kb=some (.arr [lad,.o (.mp m),gr,fc] 106 0 0)
 mg:H1.get m=some (jT (plN 0 lm))
 o1:∃css:List (List AC),dz H1 lad 51 2 ll.length (css.flatMap id) r1/\Al (λc x=>c.length=2/\∃u,c=[.o (.str x.1),u]/\SlP H1 u x.2/\∀id∈(AV.one u).ids,id≠kb/\id≠m/\some id≠r1/\some id≠r2/\some id≠r3) css ll
 o2:∃cg,dz H1 gr 3 1 k2 cg r2
 o3:∃cf,dz H1 fc 116 2 k3 cf r3
 kn:n0<=kb/\kb<H1.nx
 mn:n0<=m/\m<H1.nx
 km:kb≠m
 n1:∀q,r1=some q->n0<=q/\q<H1.nx/\q≠kb/\q≠m/\r2≠some q/\r3≠some q
 n2:∀q,r2=some q->n0<=q/\q<H1.nx/\q≠kb/\q≠m/\r3≠some q
 n3:∀q,r3=some q->n0<=q/\q<H1.nx/\q≠kb/\q≠m
section
variable{n0 kb m k2 k3:Nat}{lm ll:List Lad}{H1 H2:Hp}{lad gr fc:AC}{r1 r2 r3:Option Nat}
def NB.LL(h:NB n0 kb m lm ll k2 k3 H1 lad gr fc r1 r2 r3)(hg:Gr H1 H2):NB n0 kb m lm ll k2 k3 H2 lad gr fc r1 r2 r3 where
 kbg:=by rw[hg.get _ h.kn.2 aF];exact h.kbg
 mg:=by rw[hg.get _ h.mn.2 aF];exact h.mg
 o1:=let ⟨css,a,b⟩:=h.o1;⟨css,a.fr hg λ_ _ h=>h,b.mono λc x⟨hc,u,e,hu,hi⟩=>⟨hc,u,e,hu.gr hg,hi⟩⟩
 o2:=let ⟨c,a⟩:=h.o2;⟨c,a.fr hg λ_ _ h=>h⟩
 o3:=let ⟨c,a⟩:=h.o3;⟨c,a.fr hg λ_ _ h=>h⟩
 kn:=⟨h.kn.1,ay h.kn.2 hg.nx⟩
 mn:=⟨h.mn.1,ay h.mn.2 hg.nx⟩
 km:=h.km
 n1:=λq hq=>let ⟨a,b,c⟩:=h.n1 q hq;⟨a,ay b hg.nx,c⟩
 n2:=λq hq=>let ⟨a,b,c⟩:=h.n2 q hq;⟨a,ay b hg.nx,c⟩
 n3:=λq hq=>let ⟨a,b,c⟩:=h.n3 q hq;⟨a,ay b hg.nx,c⟩
def eT{H:Hp}{k:Nat}{o:aX}:Fr (λi=>i=k) H (H.mod k o):=(Fr.refl _).mod _ (.inr rfl)
def NB.addM(h:NB n0 kb m lm ll k2 k3 H1 lad gr fc r1 r2 r3)(lm':List Lad):NB n0 kb m lm' ll k2 k3 (H1.mod m (jT (plN 0 lm'))) lad gr fc r1 r2 r3 where
 kbg:=by rw[az h.km];exact h.kbg
 mg:=ao rfl
 o1:=let ⟨css,a,b⟩:=h.o1;⟨css,a.fr eT λi hi e=>(h.n1 i hi).2.2.2.1 e,b.mono λc x⟨hc,u,e,hu,hi⟩=>⟨hc,u,e,SlC.fr hu eT λi hi' e=>(hi i hi').2.1 e,hi⟩⟩
 o2:=let ⟨c,a⟩:=h.o2;⟨c,a.fr eT λi hi e=>(h.n2 i hi).2.2.2.1 e⟩
 o3:=let ⟨c,a⟩:=h.o3;⟨c,a.fr eT λi hi e=>(h.n3 i hi).2.2.2 e⟩
 kn:=h.kn
 mn:=h.mn
 km:=h.km
 n1:=h.n1
 n2:=h.n2
 n3:=h.n3
def NB.YY(h:NB n0 kb m lm ll k2 k3 H1 lad gr fc r1 r2 r3){x:Lad}{u v5:AC}{r5:Nat}{H5:Hp}(hu:SlP H1 u x.2)(hi:∀id∈(AV.one u).ids,id≠kb/\id≠m/\some id≠r1/\some id≠r2/\some id≠r3)
  {css:List (List AC)} (hal:Al (λc x=>c.length=2/\∃u,c=[.o (.str x.1),u]/\SlP H1 u x.2/\∀id∈(AV.one u).ids,id≠kb/\id≠m/\some id≠r1/\some id≠r2/\some id≠r3) css ll)
  (ho:dz H5 v5 51 2 (ll.length+1) (css.flatMap id++[.o (.str x.1),u]) (some r5)) (hf:Fr (λi=>r1=some i) H1 H5) (hr:r1=some r5\/H1.nx<=r5):
  NB n0 kb m lm (ll++[x]) k2 k3 (H5.mod kb (.arr [v5,.o (.mp m),gr,fc] 106 0 0)) v5 gr fc (some r5) r2 r3:=by
 have r5kb:r5≠kb:=by
  rcases hr with e|e
  ·exact(h.n1 _ e).2.2.1
  have:=h.kn.2;omega
 have r5m:r5≠m:=by
  rcases hr with e|e
  ·exact(h.n1 _ e).2.2.2.1
  have:=h.mn.2;omega
 have n0le:n0<=H1.nx:=aD h.kn.1 (sK h.kn.2);have lt5:r5<H5.nx:=by
  rcases ho with⟨_,_,_,e⟩|⟨id,lo,gen,e,_,_,_,_,hl⟩
  ·cases e
  cases e;exact hl
 have keep:∀{c:List AC}{x:Lad},(c.length=2/\∃u,c=[.o (.str x.1),u]/\SlP H1 u x.2/\∀id∈(AV.one u).ids,id≠kb/\id≠m/\some id≠r1/\some id≠r2/\some id≠r3) ->
   c.length=2/\∃u,c=[.o (.str x.1),u]/\SlP (H5.mod kb (.arr [v5,.o (.mp m),gr,fc] 106 0 0)) u x.2/\∀id∈(AV.one u).ids,id≠kb/\id≠m/\some id≠some r5/\some id≠r2/\some id≠r3:=by
  rintro c x ⟨hc,u,e,hu,hi⟩;refine⟨hc,u,e,SlC.fr (SlC.fr hu hf λi h' e=>(hi i h').2.2.1 e.symm) eT λi h' e=>(hi i h').1 e,λi h'=>⟨(hi i h').1,(hi i h').2.1,λe=>?_,(hi i h').2.2.2.1,(hi i h').2.2.2.2⟩⟩;cases e
  rcases hr with e|e
  ·exact(hi _ h').2.2.1 e.symm
  have:=hu.lt _ h';omega
 refine⟨ao rfl,?_,⟨css++[[.o (.str x.1),u]],?_,?_⟩,?_,?_,⟨h.kn.1,ay h.kn.2 hf.nx⟩,⟨h.mn.1,ay h.mn.2 hf.nx⟩,h.km,?_,?_,?_⟩
 ·rw[az (λe=>h.km e.symm),hf.get _ h.mn.2 λe=>(h.n1 _ e).2.2.2.1 rfl];exact h.mg
 ·rw[bA,List.length_singleton,pk];exact ho.fr eT λi hi e=>by cases hi;exact r5kb e
 ·exact Al.app (hal.mono λc x hc=>keep hc) (keep ⟨rfl,u,rfl,hu,hi⟩)
 ·obtain⟨c,a⟩:=h.o2;exact⟨c,(a.fr hf λi hi e=>(h.n1 i e).2.2.2.2.1 hi).fr eT λi hi e=>(h.n2 i hi).2.2.1 e⟩
 ·obtain⟨c,a⟩:=h.o3;exact⟨c,(a.fr hf λi hi e=>(h.n1 i e).2.2.2.2.2 hi).fr eT λi hi e=>(h.n3 i hi).2.2.1 e⟩
 ·intro q hq;cases hq
  refine⟨?_,lt5,r5kb,r5m,λe=>?_,λe=>?_⟩
  ·rcases hr with e|e
   ·exact(h.n1 _ e).1
   omega
  ·rcases hr with e'|e'
   ·exact(h.n1 _ e').2.2.2.2.1 e
   have:=(h.n2 _ e).2.1;omega
  rcases hr with e'|e'
  ·exact(h.n1 _ e').2.2.2.2.2 e
  have:=(h.n3 _ e).2.1;omega
 ·intro q hq;obtain⟨a,b,c⟩:=h.n2 q hq;exact⟨a,ay b hf.nx,c⟩
 intro q hq;obtain⟨a,b,c⟩:=h.n3 q hq;exact⟨a,ay b hf.nx,c⟩
def NB.grp(h:NB n0 kb m lm ll k2 k3 H1 lad gr fc r1 r2 r3){v5:AC}{r5:Nat}{H5:Hp}{c5:List AC}(ho:dz H5 v5 3 1 (k2+1) c5 (some r5))(hf:Fr (λi=>r2=some i) H1 H5)(hr:r2=some r5\/H1.nx<=r5):
  NB n0 kb m lm ll (k2+1) k3 (H5.mod kb (.arr [lad,.o (.mp m),v5,fc] 106 0 0)) lad v5 fc r1 (some r5) r3:=by
 have r5kb:r5≠kb:=by
  rcases hr with e|e
  ·exact(h.n2 _ e).2.2.1
  have:=h.kn.2;omega
 have r5m:r5≠m:=by
  rcases hr with e|e
  ·exact(h.n2 _ e).2.2.2.1
  have:=h.mn.2;omega
 have n0le:n0<=H1.nx:=aD h.kn.1 (sK h.kn.2);have lt5:r5<H5.nx:=by
  rcases ho with⟨_,_,_,e⟩|⟨id,lo,gen,e,_,_,_,_,hl⟩
  ·cases e
  cases e;exact hl
 refine⟨ao rfl,?_,?_,⟨c5,?_⟩,?_,⟨h.kn.1,ay h.kn.2 hf.nx⟩,⟨h.mn.1,ay h.mn.2 hf.nx⟩,h.km,?_,?_,?_⟩
 ·rw[az (λe=>h.km e.symm),hf.get _ h.mn.2 λe=>(h.n2 _ e).2.2.2.1 rfl];exact h.mg
 ·obtain⟨css,a,b⟩:=h.o1;refine⟨css,(a.fr hf λi hi e=>(h.n1 i hi).2.2.2.2.1 e).fr eT λi hi e=>(h.n1 i hi).2.2.1 e,b.mono λc x⟨hc,u,e,hu,hi⟩=>⟨hc,u,e,SlC.fr (SlC.fr hu hf λi h' e=>(hi i h').2.2.2.1 e.symm) eT λi h' e=>(hi i h').1 e,λi h'=>⟨(hi i h').1,(hi i h').2.1,(hi i h').2.2.1,λe=>?_,(hi i h').2.2.2.2⟩⟩⟩;cases e
  rcases hr with e|e
  ·exact(hi _ h').2.2.2.1 e.symm
  have:=hu.lt _ h';omega
 ·exact ho.fr eT λi hi e=>by cases hi;exact r5kb e
 ·obtain⟨c,a⟩:=h.o3;exact⟨c,(a.fr hf λi hi e=>(h.n2 i e).2.2.2.2 hi).fr eT λi hi e=>(h.n3 i hi).2.2.1 e⟩
 ·intro q hq;obtain⟨a,b,c,d,e,f⟩:=h.n1 q hq;refine⟨a,ay b hf.nx,c,d,λe'=>?_,f⟩;cases e'
  rcases hr with e'|e'
  ·exact e e'
  omega
 ·intro q hq;cases hq
  refine⟨?_,lt5,r5kb,r5m,λe=>?_⟩
  ·rcases hr with e|e
   ·exact(h.n2 _ e).1
   omega
  rcases hr with e'|e'
  ·exact(h.n2 _ e').2.2.2.2 e
  have:=(h.n3 _ e).2.1;omega
 intro q hq;obtain⟨a,b,c⟩:=h.n3 q hq;exact⟨a,ay b hf.nx,c⟩
def NB.fac(h:NB n0 kb m lm ll k2 k3 H1 lad gr fc r1 r2 r3){v5:AC}{r5:Nat}{H5:Hp}{c5:List AC}(ho:dz H5 v5 116 2 (k3+1) c5 (some r5))(hf:Fr (λi=>r3=some i) H1 H5)(hr:r3=some r5\/H1.nx<=r5):
  NB n0 kb m lm ll k2 (k3+1) (H5.mod kb (.arr [lad,.o (.mp m),gr,v5] 106 0 0)) lad gr v5 r1 r2 (some r5):=by
 have r5kb:r5≠kb:=by
  rcases hr with e|e
  ·exact(h.n3 _ e).2.2.1
  have:=h.kn.2;omega
 have r5m:r5≠m:=by
  rcases hr with e|e
  ·exact(h.n3 _ e).2.2.2
  have:=h.mn.2;omega
 have n0le:n0<=H1.nx:=aD h.kn.1 (sK h.kn.2);have lt5:r5<H5.nx:=by
  rcases ho with⟨_,_,_,e⟩|⟨id,lo,gen,e,_,_,_,_,hl⟩
  ·cases e
  cases e;exact hl
 refine⟨ao rfl,?_,?_,?_,⟨c5,?_⟩,⟨h.kn.1,ay h.kn.2 hf.nx⟩,⟨h.mn.1,ay h.mn.2 hf.nx⟩,h.km,?_,?_,?_⟩
 ·rw[az (λe=>h.km e.symm),hf.get _ h.mn.2 λe=>(h.n3 _ e).2.2.2 rfl];exact h.mg
 ·obtain⟨css,a,b⟩:=h.o1;refine⟨css,(a.fr hf λi hi e=>(h.n1 i hi).2.2.2.2.2 e).fr eT λi hi e=>(h.n1 i hi).2.2.1 e,b.mono λc x⟨hc,u,e,hu,hi⟩=>⟨hc,u,e,SlC.fr (SlC.fr hu hf λi h' e=>(hi i h').2.2.2.2 e.symm) eT λi h' e=>(hi i h').1 e,λi h'=>⟨(hi i h').1,(hi i h').2.1,(hi i h').2.2.1,(hi i h').2.2.2.1,λe=>?_⟩⟩⟩;cases e
  rcases hr with e|e
  ·exact(hi _ h').2.2.2.2 e.symm
  have:=hu.lt _ h';omega
 ·obtain⟨c,a⟩:=h.o2;exact⟨c,(a.fr hf λi hi e=>(h.n2 i hi).2.2.2.2 e).fr eT λi hi e=>(h.n2 i hi).2.2.1 e⟩
 ·exact ho.fr eT λi hi e=>by cases hi;exact r5kb e
 ·intro q hq;obtain⟨a,b,c,d,e,f⟩:=h.n1 q hq;refine⟨a,ay b hf.nx,c,d,e,λe'=>?_⟩;cases e'
  rcases hr with e'|e'
  ·exact f e'
  omega
 ·intro q hq;obtain⟨a,b,c,d,e⟩:=h.n2 q hq;refine⟨a,ay b hf.nx,c,d,λe'=>?_⟩;cases e'
  rcases hr with e'|e'
  ·exact e e'
  omega
 intro q hq;cases hq
 refine⟨?_,lt5,r5kb,r5m⟩;rcases hr with e|e
 ·exact(h.n3 _ e).1
 omega
def NB.book(h:NB n0 kb m lm lm k2 k3 H1 lad gr fc r1 r2 r3):sY H1 (.o (.ptr kb 0 0 4)) lm:=by obtain⟨css,a,b⟩:=h.o1;exact⟨kb,m,lad,gr,fc,rfl,h.kn.2,h.mn.2,h.kbg,h.mg,css,a.slc,b.mono λc x⟨hc,u,e,hu,_⟩=>⟨hc,u,e,hu⟩⟩
end
def kZ{n:List UInt8}{us:List Pr}(h:aR n us=0):us.length<=12:=by
 unfold aR at h;by_cases hl:gJ n us=true
 ·unfold gJ at hl;simp only[aT,bB]at hl;omega
 rw[ab hl]at h;cases h
def aag{H:Hp}{m:Nat}{ls:List Lad}{x:Lad}(hg:H.get m=some (jT (plN 0 ls)))(hn:(jH 0 ls x.1).isSome=false):
  bD prog H 9 (.one (.o (.mp m))) (.one (.o (.str x.1))) (.one (.i .i64 (ls.length:Int)))=.val aP (H.mod m (jT (plN 0 (ls++[x])))):=by
 rw[OC,Nat.zero_add];refine BD TQ hg ?_;rw[KU];cases h:jH 0 ls x.1 with
 |none=>rfl
 |some i=>rw[h]at hn;cases hn
def Jm(H:Hp)(v:AC)(ls:List Lad)(hl:gH H v ls):
  Con E2 21 [.one v,.one (.o .nilS)] H (λ_=>False) λr H'=>∃p,r=.tup [(false,[p]),(false,[.i .i64 (oP ls)])]/\(oP ls=0->sY H' p ls)/\(oP ls≠0->p=.o .nilP):=by
 refine Con.qw (λH=>gH H v ls) hl λH hl=>?_;refine C1.fK 102 [.tmp 4,.tmp 5] Tryz.func21 λtm h0 h1=>?_;have lnB:kI prog 112=some 1:=ae;by_cases h32:(32:Int)<ls.length
 ·have c32:((32:Int)<ls.length)=True:=cK h32;refine qW aw ?_;repeat refine R1.aM ?_
  refine qG (zDh aw h0 h1 oL hl.len hl.lt c32) λK hK=>?_;apply hK;refine qY ?_;refine qV ?_;refine⟨_,_,bC (.o .nilP) (.i .i64 3) (.inr rfl) rfl qp qp,Fr.refl _,λ_=>?_⟩;have:oP ls=3:=ad h32;rw[this];exact⟨_,rfl,λh=>(by cases h),λ_=>rfl⟩
 have c32:((32:Int)<ls.length)=False:=bT h32;refine qW aw ?_;repeat refine R1.aM ?_
 refine qG (zDi aw h0 h1 oL hl.len hl.lt c32 lnB) λK hK=>?_;apply hK;refine qY ?_;refine R1.cq ?_;repeat refine R1.aM ?_
 refine qG (zDe aw Yn XT QL) λK hK=>?_;apply hK;refine R1.gen (λA1 H1=>Gr H H1/\NB H.nx (H.nx+1) H.nx [] [] 0 0 H1 (.o .nilS) (.o .nilS) (.o .nilS) none none none/\pF A1 0 1 6 v (.o .nilS) (.o (.ptr (H.nx+1) 0 0 4)) 102 [])
  ⟨((Fr.refl _).new _).new _,⟨aJ rfl,(bu (by rw[xM];omega)).trans (aJ rfl),⟨[],.inl ⟨rfl,rfl,rfl,rfl⟩,trivial⟩,⟨[],.inl ⟨rfl,rfl,rfl,rfl⟩⟩,⟨[],.inl ⟨rfl,rfl,rfl,rfl⟩⟩,⟨Nat.le_succ _,aZ _⟩,⟨ai _,zd (aZ _)⟩,aa,λq h=>(by cases h),λq h=>(by cases h),λq h=>(by cases h)⟩,?_⟩ ?_
 ·exact qZ (qA h0 h1)
 clear h0 h1 tm;rintro A1 H1 ⟨g1,nb,t0,t1,t6,A0,B0⟩;obtain⟨kb,hkb⟩:∃k,k=H.nx+1:=⟨_,rfl⟩;obtain⟨m,hm⟩:=dZ H.nx;rw[<-hkb]at nb t6;have nb:NB H.nx kb m [] [] 0 0 H1 (.o .nilS) (.o .nilS) (.o .nilS) none none none:=by rw[hm];exact nb
 clear hkb hm;have hl1:=hl.gr g1;have D5:oP ls=vw [] ls:=ab h32;rw[D5];generalize E0:vw [] ls=r0;refine qG (zDg aw t0 A0 oL hl1.len hl1.lt) λK hK=>?_;apply hK;refine R1.bJ λK k1 k2 k3 k4=>?_;refine R1.loop (λk A2 H2=>∃(i:Nat)(lad gr fc:AC)(r1 r2 r3:Option Nat),k=ls.length-i/\i<=ls.length/\NB H.nx kb m (ls.take i) (ls.take i) i i H2 lad gr fc r1 r2 r3/\Gr H H2/\vw (ls.take i) (ls.drop i)=r0 /\
  slot A2.tm 1=.one (.o .nilS)/\slot A2.tm 6=.one (.o (.ptr kb 0 0 4))/\slot A2.tm 26=.one v/\slot A2.tm 27=.one (.i .i64 (ls.length:Int))/\slot A2.tm 28=.one (.i .i64 (i:Int))/\A2.nt=102/\A2.dfr=[]) ?_ ls.length
  ⟨0,_,_,_,_,_,_,rfl,Nat.zero_le _,nb,g1,E0,?_⟩
 ·clear t0 t1 t6 A0 B0 A1;rintro k A H1 ⟨i,lad,gr,fc,r1,r2,r3,rfl,hi,nb,g1,hr,t1,t6,t26,t27,t28,A0,B0⟩;have hl1:=hl.gr g1;refine qW (zDe aw t27 t28 A0) ?_;refine qE λKx Ky hx hy=>?_;refine kG (λhc=>hx ?_) (λhc=>hy ?_)
  ·clear hx hy Kx Ky;have D0:i<ls.length:=aa;obtain⟨id,g,off,cells,rfl,J3,k8,Q0⟩:=hl.open aa;have hid:id<H1.nx:=ay J3 g1.nx;have hg:rowOf (H1.get id) g=some cells:=by rw[g1.get _ J3 aF];exact k8
   have ex:=aO D0;have S0:=List.drop_eq_getElem_cons D0;have Y2:=dK D0;generalize ls[i]=x at ex S0 Y2;obtain⟨u,hu0,L4,Y0,U7,hx3,hx4,hx5⟩:=Q0 i x ex;have hu:SlP H1 u x.2:=hu0.gr g1;have hidu:∀k∈(AV.one u).ids,k<H.nx:=hu0.lt;have W6:(ls.take i).length=i:=by rw[dY];omega
   have hi32:ls.length<=32:=aa;have N2:=bw i;rw[S0,vw]at hr;refine qV ?_;refine R1.bJ λK2 q1 q2 q3 q4=>?_;repeat refine R1.aM ?_
   refine qG (zDm aw t26 t28 A0 gm gM mO iA (ixC D0) hid hg (qA L4 Y0)) λK hK=>?_;apply hK;refine R1.gen (λA3 H3=>Gr H1 H3/\H1.nx<H3.nx/\H3.get H1.nx=some (.arr [.o (.str x.1),u] 51 0 0)/\ko A3.tm 1 6 (.o .nilS) (.o (.ptr kb 0 0 4)) (gT A3 i (slot A3.tm 8=.one (.o (.ptr H1.nx 0 0 2))/\xl A3 id g off ls.length ls.length i)))
    ⟨((Fr.refl _).new _).mod _ (.inl (ai _)),?_⟩ ?_
   ·exact qZ (zDh t1 t6 t26 t27 t28 A0 B0)
   clear t1 t6 t26 t27 t28 A0 B0 A;rintro A H3 ⟨g3,n3,rx,t1,t6,t7,t8,t26,t27,t28,A0,B0⟩;have nb3:=nb.LL g3;have g3':=g1.gr g3;repeat refine R1.aM ?_
   refine qG (zDh aw t8 A0 rx n3 gM uz) λK hK=>?_;refine WE.con (rW H3 x.1 u x.2 (hu.gr g3)) λw H4 g4 hv=>?_;subst hv;have nb4:=nb3.LL g4;have rx:H4.get H1.nx=some (.arr [.o (.str x.1),u] 51 0 0):=by rw[g4.get _ n3 aF];exact rx
   have n4:H1.nx<H4.nx:=ay n3 g4.nx;have hu4:SlP H4 u x.2:=(hu.gr g3).gr g4;have g4':=g3'.gr g4;refine qS (qA aw A0) ?_;apply hK;refine qW (qA aw A0) ?_;refine qE λKx Ky hx hy=>?_;refine kG (λhd=>hx ?_) (λhd=>hy ?_)
   ·clear hx hy Kx Ky;have I1:aR x.1 x.2≠0:=by simpa using hd
    rw[ad I1]at hr;subst hr;refine qW (qA aw A0) ?_;refine q4 _ _ (k4 _ _ ⟨_,_,bC (.o .nilP) (.i .i64 (aR x.1 x.2)) (.inr rfl) (qd B0) qp qp,g4',λ_=>⟨_,rfl,λh=>absurd h I1,λ_=>rfl⟩⟩)
   clear hx hy Kx Ky;have hz:aR x.1 x.2=0:=by simpa using hd
   rw[ab (λh=>h hz)]at hr;have hL12:=kZ hz;refine R1.cq ?_;repeat refine R1.aM ?_
   have lkb:=nb4.kn.2;have lm:=nb4.mn.2;have rkb:=nb4.kbg;repeat refine R1.aM ?_
   refine R1.JR ae λK hK=>?_;simp only[qB,bc,Nat.reduceLT,Nat.reduceEqDiff,Nat.reduceLeDiff,reduceIte,Nat.reduceAdd,Nat.reduceSub,Nat.reduceMul,Int.reduceLT,Int.reduceLE,Int.reduceBEq,aw,t6,t8,A0,rx,n4,rkb,lkb,lm,nH,jE,AT,cB,LI,GR,Og nb4.mg];apply hK;cases Q5:(jH 0 (ls.take i) x.1).isSome with
   |true=>rw[ad Q5]at hr;subst hr;refine qW (qA aw A0) ?_;refine qY ?_;refine qW (qA aw A0) ?_;refine q4 _ _ (k4 _ _ ⟨_,_,bC (.o .nilP) (.i .i64 2) (.inr rfl) (qd B0) qp qp,g4',λ_=>⟨_,rfl,λh=>(by cases h),λ_=>rfl⟩⟩)
   |false=>
    rw[ab (by rw[Q5];decide)]at hr;have hup:=aag nb4.mg Q5;rw[W6]at hup;refine qW (qA aw A0) ?_;refine qY ?_;refine R1.cq ?_;refine qG (zDm aw t6 t7 t8 A0 rx n4 rkb lkb lm nH (zDf jE AT cB LI hup)) λK hK=>?_;apply hK;have nb5:=nb4.addM (ls.take i++[x]);have hmn:H.nx<=m:=nb4.mn.1;have hkn:H.nx<=kb:=nb4.kn.1;have m1:m<H1.nx:=nb.mn.2;have R5:SlP (H4.mod m (jT (plN 0 (ls.take i++[x])))) u x.2:=SlC.fr hu4 eT λk h e=>by have:=hidu k h;omega
    have rx:(H4.mod m (jT (plN 0 (ls.take i++[x])))).get H1.nx=some (.arr [.o (.str x.1),u] 51 0 0):=by rw[az aa];exact rx
    have g5':Gr H (H4.mod m (jT (plN 0 (ls.take i++[x])))):=g4'.mod _ (.inl hmn);have n5:H1.nx<(H4.mod m (jT (plN 0 (ls.take i++[x])))).nx:=n4;refine R1.gen (λA5 H5=>H5=H4.mod m (jT (plN 0 (ls.take i++[x])))/\ko A5.tm 1 6 (.o .nilS) (.o (.ptr kb 0 0 4)) (gT A5 i (slot A5.tm 8=.one (.o (.ptr H1.nx 0 0 2))/\xl A5 id g off ls.length ls.length i))) ⟨rfl,?_⟩ ?_
    ·exact qZ (zDj t1 t6 t7 t8 t26 t27 t28 A0 B0)
    clear t1 t6 t7 t8 t26 t27 t28 A0 B0 A;rintro A H5 ⟨hH5,t1,t6,t7,t8,t26,t27,t28,A0,B0⟩;rw[<-hH5]at nb5 R5 rx g5' n5;clear hH5 rkb lkb lm;have lkb:=nb5.kn.2;have rkb:=nb5.kbg;refine qH (zDm aw t6 t8 A0 rx n5 rkb lkb wK oH gM Cs) λK hK=>?_;refine WE.BT (Ae H5 x.1 u x.2 R5 aa) λw H6 g6⟨u',hv,hu',Q7⟩=>?_;subst hv;have nb6:=nb5.LL g6;obtain⟨css,ho1,hal⟩:=nb6.o1;obtain⟨zl,S2,hzll⟩:=MF;obtain⟨hlt7,v7,H7,r7,X2,ho7,hf7,hr7⟩:=gZ gm Lf S2 hzll aE ho1 [.o (.str x.1),u'] rfl (by rw[W6];omega);have rk7:H7.get kb=some (.arr [lad,.o (.mp m),gr,fc] 106 0 0):=by rw[hf7.get _ nb6.kn.2 (λe=>(nb6.n1 _ e).2.2.1 rfl)];exact nb6.kbg
    have lk7:kb<H7.nx:=ay nb6.kn.2 hf7.nx;have hui:∀k∈(AV.one u').ids,k≠kb/\k≠m/\some k≠r1/\some k≠r2/\some k≠r3:=λk h=>by
     have h5:=Q7 k h;refine⟨aa,by have:=nb5.mn.2;omega,λe=>?_,λe=>?_,λe=>?_⟩
     ·have:=(nb5.n1 _ e.symm).2.1;omega
     ·have:=(nb5.n2 _ e.symm).2.1;omega
     have:=(nb5.n3 _ e.symm).2.1;omega
    have nb8:=nb6.YY hu' hui hal ho7 hf7 hr7;have g7:Gr H H7:=(g5'.gr g6).then hf7 λk hk=>.inl (nb6.n1 _ hk).1;have g8:Gr H (H7.mod kb (.arr [v7,.o (.mp m),gr,fc] 106 0 0)):=g7.mod _ (.inl hkn);refine qS (zDm aw t6 A0 gm iA rq hlt7 X2 rk7 lk7 wK yP) ?_;refine⟨hlt7,?_⟩;apply hK;refine R1.gen (λA5 H8=>H8=H7.mod kb (.arr [v7,.o (.mp m),gr,fc] 106 0 0)/\ko A5.tm 1 6 (.o .nilS) (.o (.ptr kb 0 0 4)) (gT A5 i (xl A5 id g off ls.length ls.length i))) ⟨rfl,?_⟩ ?_
    ·exact qZ (zDi t1 t6 t7 t26 t27 t28 A0 B0)
    clear t1 t6 t7 t8 t26 t27 t28 A0 B0 A;rintro A H8 ⟨hH8,t1,t6,t7,t26,t27,t28,A0,B0⟩;rw[<-hH8]at nb8 g8;clear hH8 rk7 lk7 X2 hlt7 ho7 g7 hal ho1 hf7;obtain⟨cg,ho2⟩:=nb8.o2;obtain⟨zi,hzi,hzil⟩:=BK;obtain⟨hlt9,v9,H9,r9,happ9,ho9,l8,hr9⟩:=gZ fD tz hzi hzil aE ho2 [.i .i64 (i:Int)] rfl aa;have rk9:H9.get kb=some (.arr [v7,.o (.mp m),gr,fc] 106 0 0):=by rw[l8.get _ nb8.kn.2 (λe=>(nb8.n2 _ e).2.2.1 rfl)];exact nb8.kbg
    have lk9:kb<H9.nx:=ay nb8.kn.2 l8.nx;have nb10:=nb8.grp ho9 l8 hr9;have g10:Gr H (H9.mod kb (.arr [v7,.o (.mp m),v9,fc] 106 0 0)):=(g8.then l8 λk hk=>.inl (nb8.n2 _ hk).1).mod _ (.inl hkn);have rk8:=nb8.kbg;have lk8:=nb8.kn.2;refine qG (zDm aw t6 t7 A0 rk8 lk8 PY sh fD xk rq (zDf happ9 hlt9 rk9 lk9 Gk)) λK hK=>?_;refine⟨hlt9,?_⟩;apply hK;refine R1.gen (λA5 H10=>H10=H9.mod kb (.arr [v7,.o (.mp m),v9,fc] 106 0 0)/\ko A5.tm 1 6 (.o .nilS) (.o (.ptr kb 0 0 4)) (xl A5 id g off ls.length ls.length i)) ⟨rfl,?_⟩ ?_
    ·exact qZ (zDh t1 t6 t26 t27 t28 A0 B0)
    clear t1 t6 t7 t26 t27 t28 A0 B0 A;rintro A H10 ⟨hH10,t1,t6,t26,t27,t28,A0,B0⟩;rw[<-hH10]at nb10 g10;clear hH10 rk9 lk9 happ9 hlt9 ho9 l8 rk8 lk8 ho2;obtain⟨cf,ho3⟩:=nb10.o3;obtain⟨zp,hzp,hzpl⟩:=Yp;obtain⟨hlt11,v11,H11,r11,happ11,ho11,hf11,hr11⟩:=gZ HV Ww hzp hzpl aE ho3 [.o .nilS,.o .nilS] rfl aa;have rk11:H11.get kb=some (.arr [v7,.o (.mp m),v9,fc] 106 0 0):=by rw[hf11.get _ nb10.kn.2 (λe=>(nb10.n3 _ e).2.2.1 rfl)];exact nb10.kbg
    have lk11:kb<H11.nx:=ay nb10.kn.2 hf11.nx;have nb12:=nb10.fac ho11 hf11 hr11;have g12:Gr H (H11.mod kb (.arr [v7,.o (.mp m),v9,v11] 106 0 0)):=(g10.then hf11 λk hk=>.inl (nb10.n3 _ hk).1).mod _ (.inl hkn);have rk10:=nb10.kbg;have lk10:=nb10.kn.2;refine qG (zDm aw t6 A0 rk10 lk10 PZ Ua HV Pj XU rq (zDf happ11 hlt11 rk11 lk11 VC)) λK hK=>?_;refine⟨hlt11,?_⟩;apply hK;refine q1 _ _ ?_;refine qW (zDd A0 t28 N2) ?_;rw[<-Y2]at nb12 hr;refine⟨ls.length-(i+1),aa,i+1,_,_,_,_,_,_,rfl,D0,nb12,g12,hr,?_,?_,?_,?_,?_,?_,?_⟩
    ·simp only[an,Nat.reduceEqDiff,reduceIte,t1]
    ·simp only[an,Nat.reduceEqDiff,reduceIte,t6]
    ·simp only[an,Nat.reduceEqDiff,reduceIte,t26]
    ·simp only[an,Nat.reduceEqDiff,reduceIte,t27]
    ·simp only[an,Nat.reduceEqDiff,reduceIte]
    ·simp only[bE,A0]
    simp only[aS,B0]
  clear hx hy Kx Ky;have U2:i=ls.length:=aa;rw[U2,dD,vw]at hr;rw[U2,pn]at nb;refine qW A0 ?_;refine k2 _ _ ?_;refine qW (zDe aw A0 t1 lnB) ?_;refine R1.bJ λK2 q1 q2 q3 q4=>?_;refine R1.round ?_;refine qW (qA aw A0) ?_;refine qY ?_;refine qW A0 ?_;refine q2 _ _ ?_;refine qW (zDd aw A0 t6) ?_;refine⟨_,_,bC (.o (.ptr kb 0 0 4)) (.i .i64 0) (.inr rfl) (qd B0) qp qp,g1,λ_=>⟨_,by rw[<-hr],λ_=>nb.book,λh=>absurd hr.symm h⟩⟩
 simp only[an,mE,Nat.reduceEqDiff,reduceIte,bE,aS,t1,t6,A0,B0,and_self,true_and];exact⟨rfl,trivial⟩
def Wm:aq prog 36=true:=ae
def Sn:aq prog 37=true:=ae
def nj:aq prog 14=true:=ae
def Pt:aq prog 95=true:=ae
def VJ:prog.underlying 31=some (.pointer 106):=ae
def aaf:prog.underlying 103=some (.map 9 3):=ae
def cM(H:Hp)(p:AC):Option (List Lad)->Prop
 |some ls=>sY H p ls
 |none=>p=.o .nilP\/∃kb,p=.o (.ptr kb 0 0 4)/\kb<H.nx/\H.get kb=some (.arr [.o .nilS,.o .nilM,.o .nilS,.o .nilS] 106 0 0)
def cM.gr{H H':Hp}{p:AC}{o:Option (List Lad)}(h:cM H p o)(hg:Gr H H'):cM H' p o:=by
 cases o with
 |some ls=>exact sY.gr h hg
 |none=>refine Or.imp id ?_ h;rintro⟨kb,h1,h2,h3⟩;exact⟨kb,h1,ay h2 hg.nx,by rw[hg.get _ h2 aF];exact h3⟩
def cM.same{H H':Hp}{p:AC}{o:Option (List Lad)}(ht:H'.t=H.t)(hn:H'.nx=H.nx)(h:cM H p o):cM H' p o:=
 by
  obtain⟨t,nx,l⟩:=H;obtain⟨t',nx',l'⟩:=H';cases ht;cases hn
  exact h
def Uy(H:Hp)(p:AC)(o:Option (List Lad))(hp:cM H p o):Con E2 36 [.one p] H (λ_=>False) λr _=>r=.one (.b o.isNone):=by
 refine Con.of rfl λlg=>?_;have hp:cM ⟨H.t,H.nx,lg⟩ p o:=cM.same (H:=H) rfl rfl hp;generalize(⟨H.t,H.nx,lg⟩:Hp)=H at hp |-
 refine C1.jf 12 [.tmp 2] Tryz.func36 λtm h0=>?_;have fin:∀(b:Bool)(A:ag),slot A.tm 2=.one (.b b)->A.dfr=[]->b=o.isNone->∃w H4,aH E2 [.tmp 2] (.ret,A,H)=.ok [(w,H4)]/\Gr H H4/\∀_:List Nat,w=.one (.b o.isNone):=λb A h1 h2 h3=>⟨_,_,au (.b b) (.inr rfl) h2 h1,Fr.refl _,λ_=>by rw[h3]⟩;cases o with
 |some ls=>
  obtain⟨kb,m,lad,gr,fc,rfl,h2,h3,h4,h5,h6⟩:=hp;refine qV ?_;repeat refine R1.aM ?_
  refine R1.wY λK hK=>?_;simp only[qB,bc,Nat.reduceLT,Nat.reduceEqDiff,Nat.reduceLeDiff,reduceIte,Nat.reduceAdd,Nat.reduceSub,Nat.reduceMul,Int.reduceLT,Int.reduceLE,Int.reduceBEq,aw,h0,zA,pZ,h2,h4,nH,AT,RW,Ln];apply hK;refine qV ?_;exact fin false _ qp rfl rfl
 |none=>
  rcases hp with rfl|⟨kb,rfl,h2,h4⟩
  ·refine qV ?_;repeat refine R1.aM ?_
   refine R1.wY λK hK=>?_;simp only[qB,bc,Nat.reduceLT,Nat.reduceEqDiff,Nat.reduceLeDiff,reduceIte,Nat.reduceAdd,Nat.reduceSub,Nat.reduceMul,Int.reduceLT,Int.reduceLE,Int.reduceBEq,aw,h0,zA,Tg,LU VJ,Xw];apply hK;refine qV ?_;exact fin true _ qp rfl rfl
  refine qV ?_;repeat refine R1.aM ?_
  refine R1.wY λK hK=>?_;simp only[qB,bc,Nat.reduceLT,Nat.reduceEqDiff,Nat.reduceLeDiff,reduceIte,Nat.reduceAdd,Nat.reduceSub,Nat.reduceMul,Int.reduceLT,Int.reduceLE,Int.reduceBEq,aw,h0,zA,pZ,h2,h4,nH,AT,RW,Tf,LS aaf,Xv];apply hK;refine qV ?_;exact fin true _ qp rfl rfl
def Qg(H:Hp)(p:AC)(ls:List Lad)(s:List UInt8)(hp:sY H p ls):Con E2 37 [.one p,.one (.o (.str s))] H (λ_=>False) λr _=>r=.tup [(false,[.i .i64 (((jH 0 ls s).getD 0:Nat):Int)]),(false,[.i .i64 (if(jH 0 ls s).isSome=true then 0 else 4)])]:=by
 refine Con.qw (λH=>sY H p ls) hp λH hp=>?_;refine C1.fK 20 [.tmp 4,.tmp 5] Tryz.func37 λtm h0 h1=>?_;obtain⟨kb,m,lad,gr,fc,rfl,h2,h3,h4,h5,h6⟩:=hp;refine qV ?_;repeat refine R1.aM ?_
 refine R1.wY λK hK=>?_;simp only[qB,bc,Nat.reduceLT,Nat.reduceEqDiff,Nat.reduceLeDiff,reduceIte,Nat.reduceAdd,Nat.reduceSub,Nat.reduceMul,Int.reduceLT,Int.reduceLE,Int.reduceBEq,aw,h0,h1,h2,h3,h4,nH,AT,LI,GR,Og h5];apply hK;refine qG (qA aw uA) λK hK=>?_;refine WE.con (re H _ 4) λv H7 g7 hv=>?_;subst hv;refine qS aw ?_;apply hK;refine qV ?_;exact⟨_,_,bC _ _ (.inr rfl) rfl qp qp,g7,λ_=>rfl⟩
def sU:Option (List Lad)->List UInt8->Int
 |none,_=>1
 |some ls,s=>if(jH 0 ls s).isSome=true then 0 else 4
def RC(H:Hp)(c:List AC)(o:Option (List Lad))(s:List UInt8):Prop:=
 (sU o s≠0->c=[.o (.str []),.o .nilS])/\∀ls i x,o=some ls->jH 0 ls s=some i->ls[i]?=some x->uj H c x
def Qq(s:List UInt8):sU none s=1:=rfl
def nR(ls:List Lad)(s:List UInt8):sU (some ls) s=if(jH 0 ls s).isSome=true then 0 else 4:=rfl
def Lx{ls:List Lad}{s:List UInt8}{i:Nat}(h:jH 0 ls s=some i):∃x,ls[i]?=some x/\x.1=s:=by obtain⟨_,_,x,h3,h4⟩:=NW 0 ls s i h;exact⟨x,h3,h4⟩
def uG{E:Env}{s q:Tmp}{t:TypeId}{n:Nat}{A:ag}{H H2:Hp}{e:ax}{id g lim:Nat}{cells:List AC}{c:AC}(ht:loadT E.P t=some (true,n))(he:e=.normal\/e=.ret)(hd:closeAll H A.dfr=some H2)(hs:slot A.tm s=.one (.o (.ptr id g 0 lim)))
  (hg:rowOf (H2.get id) g=some cells) (hl:n<=lim) (ho:cells.length=n) (hq:slot A.tm q=.one c):aH E [.cell s t,.tmp q] (e,A,H)=.ok [(.tup [(true,cells),(false,[c])],H2)]:=by
 have key:(aB (closeAll H A.dfr) (R.bad "marks") λh2=>aB (cI E.P [.cell s t,.tmp q] A.tm h2) (.bad "results") λl=>.ok [(fa l,h2)])=.ok [(.tup [(true,cells),(false,[c])],H2)]:=by
  rw[hd];have e1:od E.P (.cell s t) A.tm H2=some (true,cells):=by
   have e0:od E.P (.cell s t)=match loadT E.P t with|some p=>λtm h=>aB (tm.get s) none λv=>aj.rec (motive:=λ_=>Option (Bool×List AC)) (λv _=>jU v) (λ_=>none) (λ_ _=>none) (λ_ _=>none) (λ_=>none) (dB h p.1 p.2 v)|none=>λ_ _=>none:=rfl
   rw[e0,ht];show aB (A.tm.get s) none (λv=>aj.rec (motive:=λ_=>Option (Bool×List AC)) (λv _=>jU v) (λ_=>none) (λ_ _=>none) (λ_ _=>none) (λ_=>none) (dB H2 true n v))=_;rw[Fi hs];show aj.rec (motive:=λ_=>Option (Bool×List AC)) (λv _=>jU v) (λ_=>none) (λ_ _=>none) (λ_ _=>none) (λ_=>none) (dB H2 true n (.one (.o (.ptr id g 0 lim))))=_;rw[ji,hg,yx hl aa,List.drop_zero,iX aa];rfl
  have hr:cI E.P [.cell s t,.tmp q] A.tm H2=some [(true,cells),(false,[c])]:=by show aB (od E.P (.cell s t) A.tm H2) none (λx=>aB (aB (aB (A.tm.get q) none jU) none λx=>aB (some []) none λl=>some (x::l)) none λl=>some (x::l))=_;rw[e1,Fi hq];rfl
  show aB (cI E.P [.cell s t,.tmp q] A.tm H2) (R.bad "results") (λl=>R.ok [(fa l,H2)])=_
  rw[hr];rfl
 rcases he with rfl|rfl
 ·exact key
 exact key
def lC(H:Hp)(p:AC)(o:Option (List Lad))(s:List UInt8)(hp:cM H p o)(hL:∀ls,o=some ls->∀x∈ls,x.2.length<=1000000):Con E2 14 [.one p,.one (.o (.str s))] H (λ_=>False) λr H'=>
  ∃c,r=.tup [(true,c),(false,[.i .i64 (sU o s)])]/\RC H' c o s/\c.length=2:=by
 refine Con.of rfl λlg=>?_;have hp:cM ⟨H.t,H.nx,lg⟩ p o:=cM.same (H:=H) rfl rfl hp;generalize(⟨H.t,H.nx,lg⟩:Hp)=H at hp |-
 refine C1.fK 29 [.cell 4 51,.tmp 5] Tryz.func14 λtm h0 h1=>?_;refine qG (qA aw iA) λK hK=>?_;apply hK;refine R1.gen (λA1 H1=>Gr H H1/\H.nx<H1.nx/\H1.get H.nx=some (.arr [.o (.str []),.o .nilS] 51 0 0)/\pF A1 0 1 4 p (.o (.str s)) (.o (.ptr H.nx 0 0 2)) 29 [])
  ⟨(Fr.refl _).new _,?_⟩ ?_
 ·exact qZ (qA h0 h1)
 rintro A1 H1 ⟨g1,n1,r4,t0,t1,t4,A0,B0⟩;clear h0 h1 tm;have hp1:=hp.gr g1;refine qG (zDe aw t0 A0 Wm) λK hK=>?_;refine WE.con (Uy H1 p o hp1) λv H2 g2 hv=>?_;subst hv;refine qS (qA aw A0) ?_;apply hK;have j6:=hp1.gr g2;have g2':=g1.gr g2;have r4:H2.get H.nx=some (.arr [.o (.str []),.o .nilS] 51 0 0):=by rw[g2.get _ n1 aF];exact r4
 have n2:H.nx<H2.nx:=ay n1 g2.nx;have fin:∀(A:ag)(H3:Hp)(c:List AC)(e:Int),slot A.tm 4=.one (.o (.ptr H.nx 0 0 2))->slot A.tm 5=.one (.i .i64 e)->A.dfr=[]->Gr H H3->H3.get H.nx=some (.arr c 51 0 0)->c.length=2->e=sU o s->RC H3 c o s ->
   ∃w H4,aH E2 [.cell 4 51,.tmp 5] (.ret,A,H3)=.ok [(w,H4)]/\Gr H H4/\∀lg':List Nat,∃c,w=.tup [(true,c),(false,[.i .i64 (sU o s)])]/\RC ⟨H4.t,H4.nx,lg'⟩ c o s/\c.length=2:=λA H3 c e h4 h5 hd hg hr hc he ha=>
  ⟨_,H3,uG (id:=H.nx) (g:=0) gM (.inr rfl) (by rw[hd];rfl) h4 (by rw[hr];exact de (ai _) (ai _)) (ai _) hc h5,hg,λ_=>⟨c,by rw[he],ha,hc⟩⟩
 cases o with
 |none=>refine qY ?_;refine qW (zDi aw A0 iA FT t4 mO r4 n2) ?_;exact fin _ _ _ 1 (by simp only[an,Nat.reduceEqDiff,reduceIte,t4]) qp (qd B0) (g2'.mod _ (.inl (ai _))) (ao rfl) rfl rfl ⟨λ_=>rfl,λls i x h=>by cases h⟩
 |some ls=>
  refine qY ?_;refine R1.cq ?_;have j6:sY H2 p ls:=j6;refine qG (zDf aw t0 t1 A0 Sn) λK hK=>?_;refine WE.con (Qg H2 p ls s j6) λv H3 g3 hv=>?_;subst hv;refine qS (qA aw A0) ?_;apply hK;have hp3:=j6.gr g3;have r4:H3.get H.nx=some (.arr [.o (.str []),.o .nilS] 51 0 0):=by rw[g3.get _ n2 aF];exact r4
  have n3:H.nx<H3.nx:=ay n2 g3.nx;have g3':=g2'.gr g3;cases hfi:jH 0 ls s with
  |none=>
   have hle:sU (some ls) s=4:=by rw[nR,hfi];rfl
   simp only[Option.isSome_none,Bool.false_eq_true,if_false];refine qW (qA aw A0) ?_;refine qY ?_;refine qW (zDi aw A0 iA FT t4 mO r4 n3) ?_;exact fin _ _ _ 4 (by simp only[an,Nat.reduceEqDiff,reduceIte,t4]) qp (qd B0) (g3'.mod _ (.inl (ai _))) (ao rfl) rfl hle.symm ⟨λ_=>rfl,λls' i x h h2=>by cases h;rw[hfi]at h2;cases h2⟩
  |some i=>
   have hle:sU (some ls) s=0:=by rw[nR,hfi];rfl
   obtain⟨x,hx,Y5⟩:=Lx hfi;simp only[Option.isSome_some,if_true,GI];refine qW (qA aw A0) ?_;refine qY ?_;refine R1.cq ?_;obtain⟨kb,m,lad,gr,fc,rfl,k1,k2,k3,k4,k5⟩:=hp3;have D0:i<ls.length:=(List.getElem?_eq_some_iff.1 hx).1;obtain⟨id,g,off,cells,rfl,hid,hg,Q0⟩:=k5.open aa;obtain⟨u,hu,L4,Y0,_⟩:=Q0 i x hx;refine qG (zDm aw t0 A0 k1 k3 wK oH gm gM (ixC D0) hid (zDe hg L4 Y0 Cs)) λK hK=>?_;refine WE.con (Ae H3 x.1 u x.2 hu (hL ls rfl x (iY hx))) λw H6 g6⟨u',hv,hu',Q7⟩=>?_;subst hv;have r4:H6.get H.nx=some (.arr [.o (.str []),.o .nilS] 51 0 0):=by rw[g6.get _ n3 aF];exact r4
   have n6:H.nx<H6.nx:=ay n3 g6.nx;have M7:SlP (H6.mod H.nx (.arr [.o (.str x.1),u'] 51 0 0)) u' x.2:=SlC.fr hu' eT λk h e=>by have:=Q7 k h;omega
   refine qS (zDg aw A0 t4 mO r4 n6) ?_;apply hK;refine qV ?_;exact fin _ _ _ 0 (by simp only[an,Nat.reduceEqDiff,reduceIte,t4]) qp (qd B0) ((g3'.gr g6).mod _ (.inl (ai _))) (ao rfl) rfl hle.symm ⟨λh=>absurd hle h,λls' j y h h2 h3=>by
    cases h
    rw[hfi]at h2;cases h2
    rw[hx]at h3;cases h3
    exact⟨u',rfl,M7⟩⟩
def KO(H:Hp)(p:AC)(o:Option (List Lad))(hp:cM H p o)(hL:∀ls,o=some ls->∀x∈ls,x.2.length<=1000000):Con E2 95 [.one p] H (λ_=>False) λr _=>r=.one (.b o.isNone):=by
 refine Con.of rfl λlg=>?_;have hp:cM ⟨H.t,H.nx,lg⟩ p o:=cM.same (H:=H) rfl rfl hp;generalize(⟨H.t,H.nx,lg⟩:Hp)=H at hp |-
 refine C1.jf 12 [.tmp 2] Tryz.func95 λtm h0=>?_;refine qV ?_;refine qG (zDd aw h0 nj) λK hK=>?_;refine WE.con (lC H p o [] hp hL) λv H2 g2⟨c,hv,ha,hc⟩=>?_;subst hv;refine qS (zDe aw iA mO hc) ?_;apply hK;refine qV ?_;refine⟨_,_,au (.b o.isNone) (.inr rfl) rfl ?_,(g2.new _).mod _ (.inl g2.nx),λ_=>rfl⟩;simp only[an,Nat.reduceEqDiff,reduceIte];have:(sU o []==1)=o.isNone:=by
  cases o with
  |none=>rfl
  |some ls=>rw[nR];split<;>rfl
 rw[this]
def Yz{cells:List AC}{o:Nat}{a b c:AC}(h:(cells.drop o).take 3=[a,b,c]):(cells.drop o).headD (.b false)=a/\(cells.drop (o+1)).headD (.b false)=b/\(cells.drop (o+2)).headD (.b false)=c:=by
 rw[<-iy,<-iy];cases hd:cells.drop o with
 |nil=>rw[hd]at h;cases h
 |cons x r=>
  rw[hd]at h;cases r with
  |nil=>cases h
  |cons y r=>
   cases r with
   |nil=>cases h
   |cons z r=>cases h;exact⟨rfl,rfl,rfl⟩
section
variable{st:Bool}{E:Env}{A:ag}{H:Hp}{next:ag->Hp->Prop}{d:Option Tmp}{ty:TypeId}{pos:String}{af:Array Edge}{gd:Option (Nat×Bool)}
def nf{t:TypeId}{x i:Operand}:SK st E ⟨d,.index t x i,ty,pos,af,gd⟩ A H next=vN next A d (iK H (mJ E.P t) (ev A.tm x) (ev A.tm i) (aA E.P A.tm H ⟨d,.index t x i,ty,pos,af,gd⟩)):=oW
def Mp{s:List UInt8}{n:Nat}{b:UInt8}{k:IntKind}{alt:aj}(h:s[n]?=some b):iK H true (.one (.o (.str s))) (.one (.i k (n:Int))) alt=.val (.one (.i .u8 (b.toNat:Int))) H:=by show nd (Xz n s) _ _=_;rw[Ow,h];rfl
def YR{c:UInt8}{s:List UInt8}{k:IntKind}{alt:aj}:iK H true (.one (.o (.str (c::s)))) (.one (.i k 0)) alt=.val (.one (.i .u8 (c.toNat:Int))) H:=rfl
end
def zR:aq prog 87=true:=ae
def Oz(c:UInt8):okB c=(decide ((c.toNat:Int)=95)||(decide (97<=(c.toNat:Int))&&decide ((c.toNat:Int)<=122))||(decide (48<=(c.toNat:Int))&&decide ((c.toNat:Int)<=57))):=by rw[fZ,FP];simp only[eW,aT,bB,or_assoc]
def Js(c:UInt8)(l:List UInt8):nmB (c::l)=(decide (l.length+1<=16)&&(decide (97<=(c.toNat:Int))&&decide ((c.toNat:Int)<=122))&&(c::l).all okB):=by
 unfold nmB;have e1:decide (97<=(c.toNat:Int))=decide ((97:UInt8)<=c):=by rw[decide_eq_decide,rU];show(97:Int)<=c.toNat↔97<=c.toNat;omega
 have e2:decide ((c.toNat:Int)<=122)=decide (c<=(122:UInt8)):=by rw[decide_eq_decide,rU];show(c.toNat:Int)<=122↔c.toNat<=122;omega
 rw[e1,e2];simp only[List.isEmpty_cons,Bool.not_false,Bool.true_and,List.length_cons,Bool.and_assoc]
def xS(H:Hp)(s:List UInt8):Con E2 87 [.one (.o (.str s))] H (λ_=>False) λv _=>v=.one (.b (nmB s)):=by
 refine Con.nO λH=>?_;refine C1.jf 52 [.tmp 2] Tryz.func87 λtm h0=>?_;cases s with
 |nil=>
  refine qW aw ?_;repeat refine R1.aM ?_
  refine R1.wY λK hK=>?_;simp only[qB,bc,Nat.reduceLT,Nat.reduceEqDiff,Nat.reduceLeDiff,reduceIte,Nat.reduceAdd,Nat.reduceSub,Nat.reduceMul,Int.reduceLT,Int.reduceLE,Int.reduceBEq,aw,h0,FG,nf,wP];apply hK;refine qY ?_;refine qV ?_;exact⟨_,_,au (.b false) (.inr rfl) rfl qp,Fr.refl _,λ_=>rfl⟩
 |cons c l=>
  have hl1:(((l.length+1:Nat):Int)<1)=False:=bT aa;refine qW aw ?_;repeat refine R1.aM ?_
  refine R1.wY λK hK=>?_;simp only[qB,bc,Nat.reduceLT,Nat.reduceEqDiff,Nat.reduceLeDiff,reduceIte,Nat.reduceAdd,Nat.reduceSub,Nat.reduceMul,Int.reduceLT,Int.reduceLE,Int.reduceBEq,aw,h0,FG,nf,wP,YR,hl1];repeat' (refine MP (λhc=>?_) (λhc=>?_)<;>(try simp only[zg,Bool.not_eq_false,MA]at hc)<;>simp only[hc,qB,bc,Nat.reduceLT,Nat.reduceEqDiff,Nat.reduceLeDiff,reduceIte,Nat.reduceAdd,Nat.reduceSub,Nat.reduceMul,Int.reduceLT,Int.reduceLE,Int.reduceBEq,aw,h0,FG,nf,wP,YR,hl1])
  all_goals apply hK
  all_goals clear hK K
  all_goals refine qE λKx Ky hx hy=>?_
  all_goals first|refine hx ?_|refine hy ?_|refine kG (λhd=>hx ?_) (λhd=>hy ?_)
  all_goals clear hx hy Kx Ky
  all_goals refine qV ?_
  all_goals first
   |(refine⟨_,_,au (.b false) (.inr rfl) rfl qp,Fr.refl _,λ_=>?_⟩
     have:nmB (c::l)=false:=Bool.eq_false_iff.2 λh=>by rw[Js]at h;simp only[aT,bB]at h;omega
     rw[this];done)
   |skip
  rename_i hl16
  have hnm:nmB (c::l)=(c::l).all okB:=by rw[Js,aL (by omega:l.length+1<=16),aL (by omega:97<=(c.toNat:Int)),aL (by omega:(c.toNat:Int)<=122)];rfl
  rw[hnm];clear hnm hl1 hc hd;generalize hs:c::l=s at h0 |-;have hlen:s.length<=16:=by rw[<-hs,List.length_cons];omega
  clear hl16 hs;refine R1.bJ λK k1 k2 k3 k4=>?_;refine R1.loop (λm A1 H1=>∃i:Nat,m=s.length-i/\i<=s.length/\H1=H/\(s.take i).all okB=true/\slot A1.tm 0=.one (.o (.str s))/\dw A1 i (A1.nt=52/\A1.dfr=[])) ?_ s.length
   ⟨0,rfl,Nat.zero_le _,rfl,rfl,?_,?_,rfl,rfl⟩
  ·clear h0 tm;rintro m A1 H1 ⟨i,rfl,hi,rfl,L2,t0,t3,A0,B0⟩;refine qW (zDf aw t0 t3 A0 FG) ?_;refine qE λKx Ky hx hy=>?_;refine kG (λhc=>hx ?_) (λhc=>hy ?_)
   ·clear hx hy Kx Ky;have D0:i<s.length:=aa;have hb:=aO D0;have Y2:=dK D0;have I0:=cU D0;generalize s[i]=b at hb Y2 I0;refine R1.cq (R1.bJ λK2 q1 q2 q3 q4=>?_);repeat refine R1.aM ?_
    refine R1.wY λK hK=>?_;simp only[qB,bc,Nat.reduceLT,Nat.reduceEqDiff,Nat.reduceLeDiff,reduceIte,Nat.reduceAdd,Nat.reduceSub,Nat.reduceMul,Int.reduceLT,Int.reduceLE,Int.reduceBEq,aw,t0,t3,A0,nf,wP,Mp hb];apply hK;refine qG (qA aw A0) λK hK=>?_;repeat' (refine MP (λhc=>?_) (λhc=>?_)<;>(try simp only[zg,Bool.not_eq_false,MA]at hc)<;>simp only[hc,qB,bc,Nat.reduceLT,Nat.reduceEqDiff,Nat.reduceLeDiff,reduceIte,Nat.reduceAdd,Nat.reduceSub,Nat.reduceMul,Int.reduceLT,Int.reduceLE,Int.reduceBEq,aw,A0])
    all_goals apply hK
    all_goals clear hK K
    all_goals refine qE λKx Ky hx hy=>?_
    all_goals first|refine hx ?_|refine hy ?_|refine kG (λhd=>hx ?_) (λhd=>hy ?_)
    all_goals clear hx hy Kx Ky
    all_goals (try simp only[BH,ne_eq,MA]at hd)
    all_goals refine qW (qA t3 A0) ?_
    all_goals first
     |(refine q4 _ _ (k4 _ _ ⟨_,_,au (.b false) (.inr rfl) (qd B0) qp,Fr.refl _,λ_=>?_⟩)
       have M4:okB b=false:=Bool.eq_false_iff.2 λh=>by rw[Oz]at h;simp only[eW,aT,bB]at h;omega
       have:s.all okB=false:=List.all_eq_false.2 ⟨b,I0,by rw[M4];decide⟩;rw[this];done)
     |(refine q1 _ _ ?_
       have G0:okB b=true:=by rw[Oz];simp only[eW,aT,bB];omega
       have N2:=bw i;refine qW (zDd t3 A0 N2) ?_;refine⟨s.length-(i+1),aa,i+1,rfl,D0,rfl,by rw[Y2,List.all_append,L2,List.all_cons,G0];rfl,?_,?_,?_,?_⟩
       ·simp only[an,Nat.reduceEqDiff,reduceIte,t0]
       ·simp only[an,Nat.reduceEqDiff,reduceIte]
       ·simp only[bE,A0]
       simp only[aS,B0])
   clear hx hy Kx Ky;have U2:i=s.length:=aa;refine qW A0 ?_;refine k2 _ _ ?_;refine qW A0 ?_;refine⟨_,_,au (.b true) (.inr rfl) (qd B0) qp,Fr.refl _,λ_=>?_⟩;rw[U2,pn]at L2;rw[L2]
  all_goals simp only[an,Nat.reduceEqDiff,reduceIte,h0]
  all_goals rfl
def Py:aq prog 88=true:=ae
def PC:aq prog 89=true:=ae
def Hv:aq prog 45=true:=ae
def qy:Nat->List Pr->List UInt8->Int
 |_,[],_=>-1
 |n,x::l,s=>if x.1=s then(n:Int)else qy (n+1) l s
def Mc(H:Hp)(n:List UInt8)(u:AC)(us:List Pr)(s:List UInt8)(hu:SlP H u us)(hL:us.length<=1000000):
  Con E2 88 [.agg [.o (.str n),u],.one (.o (.str s))] H (λ_=>False) λr _=>r=.one (.i .i64 (qy 0 us s)):=by
 refine Con.qw (λH=>SlP H u us) hu λH hu=>?_;refine C1.fK 22 [.tmp 4] Tryz.func88 λtm h0 h1=>?_;generalize E0:qy 0 us s=r0;refine qG (qA aw h0) λK hK=>?_;apply hK;refine R1.gen (λA1 H1=>Gr H H1/\H.nx<H1.nx/\H1.get H.nx=some (.arr [.o (.str n),u] 51 0 0)/\slot A1.tm 1=.one (.o (.str s))/\iB A1 H.nx (A1.nt=22/\A1.dfr=[]))
  ⟨(Fr.refl _).new _,?_⟩ ?_
 ·exact qZ h1
 rintro A1 H1 ⟨g1,lb,rb,t1,t2,A0,B0⟩;clear h0 h1 tm;have V2:=hu.gr g1;refine qW A0 ?_;refine R1.bJ λK k1 k2 k3 k4=>?_;refine R1.loop (λk A H2=>∃i:Nat,k=us.length-i/\i<=us.length/\H2=H1/\qy i (us.drop i) s=r0/\slot A.tm 1=.one (.o (.str s))/\iB A H.nx (eK A 5 (.i .i64 (i:Int)) 22 [])) ?_ us.length
  ⟨0,rfl,Nat.zero_le _,rfl,E0,?_⟩
 ·clear t1 t2 A0 B0 A1;rintro k A H2 ⟨i,rfl,hi,rfl,hr,t1,t2,t5,A0,B0⟩;refine qW (zDl aw t2 t5 A0 rb lb cX cY eR V2.len V2.lt) ?_;refine qE λKx Ky hx hy=>?_;refine kG (λhc=>hx ?_) (λhc=>hy ?_)
  ·clear hx hy Kx Ky;have D0:i<us.length:=aa;obtain⟨id,g,off,cells,rfl,hid,B2,Q0⟩:=V2.open aa;have ex:=aO D0;have S0:=List.drop_eq_getElem_cons D0;generalize us[i]=x at ex S0;have Y0:=Q0 i x ex;have N2:=bw i;rw[S0,qy]at hr;refine qV ?_;refine R1.bJ λK2 q1 q2 q3 q4=>?_;refine qG (zDm aw t1 t2 t5 A0 rb lb cX cY jD cF (zDg cB (ixC D0) hid B2 Y0.fst Y0.le1)) λK hK=>?_;apply hK;by_cases Y5:x.1=s
   ·rw[ad Y5]at hr;have ce:lEq x.1 s=true:=by rw[iN,Y5,fl]
    refine qX ce ?_;refine qW (qA A0 t5) ?_;exact q4 _ _ (k4 _ _ ⟨_,_,au (.i .i64 (i:Int)) (.inr rfl) (qd B0) qp,g1,λ_=>by rw[<-hr]⟩)
   rw[ab Y5]at hr;have ce:lEq x.1 s=false:=by rw[iN];exact aW Y5
   refine qX ce ?_;refine qW A0 ?_;refine q1 _ _ ?_;refine qW (zDd A0 t5 N2) ?_;refine⟨us.length-(i+1),aa,i+1,rfl,D0,rfl,hr,?_,?_,?_,?_,?_⟩
   ·simp only[an,Nat.reduceEqDiff,reduceIte,t1]
   ·simp only[an,Nat.reduceEqDiff,reduceIte,t2]
   ·simp only[an,Nat.reduceEqDiff,reduceIte]
   ·simp only[bE,A0]
   simp only[aS,B0]
  clear hx hy Kx Ky;have U2:i=us.length:=aa;rw[U2,dD,qy]at hr;refine qW A0 ?_;refine k2 _ _ ?_;refine qW A0 ?_;exact⟨_,_,au (.i .i64 (-1)) (.inr rfl) (qd B0) qp,g1,λ_=>by rw[<-hr]⟩
 simp only[an,mE,Nat.reduceEqDiff,reduceIte,bE,aS,t1,t2,A0,B0,and_self,true_and];exact⟨rfl,trivial⟩
def rJ:Int->List Pr->Option (List Int)
 |_,[]=>some []
 |v,x::l=>if 1099511627776<v*x.2 then none else(rJ (v*x.2) l).map (v*x.2::·)
def BX(n:Int):List AC:=[.i .i64 n]
def ID(n:Int):(BX n).length=1:=rfl
def SlI(H:Hp)(v:AC)(l:List Int):Prop:=SlC H v 1 l.length (l.flatMap BX)
def Mw(H:Hp)(n:List UInt8)(u:AC)(us:List Pr)(hu:SlP H u us)(hL:us.length<=1000000)(hf:∀x∈us,1<=x.2/\x.2<=60):
  Con E2 89 [.agg [.o (.str n),u]] H (λ_=>False) λr H'=>∃c,r=.tup [(false,[c]),(false,[.b (rJ 1 us).isSome])]/\SlI H' c ((rJ 1 us).getD []):=by
 refine Con.qw (λH=>SlP H u us) hu λH hu=>?_;refine C1.jf 29 [.tmp 2,.tmp 3] Tryz.func89 λtm h0=>?_;generalize E0:rJ 1 us=r0;refine qG (qA aw h0) λK hK=>?_;apply hK;refine R1.gen (λA1 H1=>Gr H H1/\H.nx<H1.nx/\H1.get H.nx=some (.arr [.o (.str n),u] 51 0 0)/\ea A1 H.nx (A1.nt=29/\A1.dfr=[]))
  ⟨(Fr.refl _).new _,?_⟩ ?_
 ·exact qU
 rintro A1 H1 ⟨g1,lb,rb,t1,A0,B0⟩;clear h0 tm;obtain⟨zi,hzi,hzil⟩:=BK;refine qW A0 ?_;refine R1.bJ λK k1 k2 k3 k4=>?_;refine R1.loop (λk A H2=>∃(i:Nat)(out:List Int)(v:Int)(v4:AC)(r:Option Nat),k=us.length-i/\i<=us.length/\out.length=i/\Gr H1 H2/\1<=v/\v<=1099511627776/\(rJ v (us.drop i)).map (out++·)=r0/\dz H2 v4 3 1 out.length (out.flatMap BX) r/\(∀q,r=some q->H1.nx<=q) /\
  slot A.tm 1=.one (.o (.ptr H.nx 0 0 2))/\slot A.tm 4=.one v4/\slot A.tm 5=.one (.i .i64 v)/\slot A.tm 6=.one (.i .i64 (i:Int))/\A.nt=29/\A.dfr=[]) ?_ us.length
  ⟨0,[],1,.o .nilS,none,rfl,Nat.zero_le _,rfl,Fr.refl _,aa,aa,?_,.inl ⟨rfl,rfl,rfl,rfl⟩,λq hq=>(by cases hq),?_⟩
 ·clear t1 A0 B0 A1;rintro k A H2 ⟨i,out,v,v4,r,rfl,hi,E3,g2,b8,O6,hr,hown,V0,t1,t4,t5,t6,A0,B0⟩;have rb2:H2.get H.nx=some (.arr [.o (.str n),u] 51 0 0):=by rw[g2.get _ lb aF];exact rb
  have lb2:H.nx<H2.nx:=ay lb g2.nx;have J6:=(hu.gr g1).gr g2;refine qW (zDl aw t1 t6 A0 rb2 lb2 cX cY eR J6.len J6.lt) ?_;refine qE λKx Ky hx hy=>?_;refine kG (λhc=>hx ?_) (λhc=>hy ?_)
  ·clear hx hy Kx Ky;have D0:i<us.length:=aa;obtain⟨id,g,off,cells,rfl,hid,B2,Q0⟩:=J6.open aa;have ex:=aO D0;have S0:=List.drop_eq_getElem_cons D0;have hff:=hf us[i] (cU D0);generalize us[i]=x at ex S0 hff;have Y0:=Q0 i x ex;have N2:=bw i;have hmul1:1<=v*x.2:=by have:=wk b8 hff.1 aa aa;omega
   have hmul2:v*x.2<=1099511627776*60:=wk O6 hff.2 aa aa;have hwm:=bZ (v*x.2);rw[S0,rJ]at hr;refine qV ?_;refine R1.bJ λK2 q1 q2 q3 q4=>?_;refine qG (zDm aw t1 t5 t6 A0 rb2 lb2 cX cY jD cW (zDh cA (ixC D0) hid B2 Y0.snd Y0.le2 hwm)) λK hK=>?_;apply hK;refine qW A0 ?_;by_cases R0:1099511627776<v*x.2
   ·have cb:(1099511627776<v*x.2)=True:=cK R0;rw[ad R0]at hr;refine qX cb ?_;refine qW A0 ?_;refine q4 _ _ (k4 _ _ ⟨_,_,bC (.o .nilS) (.b false) (.inr rfl) (qd B0) qp qp,g1.gr g2,λ_=>?_⟩);rw[<-hr];exact⟨_,rfl,by simp[SlI],.inl ⟨rfl,rfl⟩⟩
   have cb:(1099511627776<v*x.2)=False:=bT R0;rw[ab R0]at hr;obtain⟨hlt5,v6,H6,r6,X2,ho6,hf6,hr6⟩:=gZ fD tz hzi hzil aE hown [.i .i64 (v*x.2)] rfl aa;refine qX cb ?_;refine R1.cq ?_;refine qG (zDi aw t4 A0 fD xk rq X2 hlt5) λK hK=>?_;refine⟨hlt5,?_⟩;apply hK;refine q1 _ _ ?_;refine qW (zDd A0 t6 N2) ?_;refine⟨us.length-(i+1),aa,i+1,out++[v*x.2],v*x.2,v6,some r6,rfl,D0,by rw[bA,E3];rfl,g2.then hf6 λq hq=>.inl (V0 q hq),hmul1,aa,?_,?_,λq hq=>?_,?_,?_,?_,?_,?_,?_⟩
   ·rw[<-hr,Option.map_map];congr 1
    funext l
    simp
   ·have e2:(out++[v*x.2]).flatMap BX=out.flatMap BX++[.i .i64 (v*x.2)]:=by rw[pk];rfl
    rw[bA,e2];exact ho6
   ·cases hq
    rcases hr6 with h|h
    ·exact V0 _ h
    exact aD g2.nx h
   ·simp only[an,Nat.reduceEqDiff,reduceIte,t1]
   ·simp only[an,Nat.reduceEqDiff,reduceIte]
   ·simp only[an,Nat.reduceEqDiff,reduceIte]
   ·simp only[an,Nat.reduceEqDiff,reduceIte]
   ·simp only[bE,A0]
   simp only[aS,B0]
  clear hx hy Kx Ky;have U2:i=us.length:=aa;rw[U2,dD,rJ]at hr;refine qW A0 ?_;refine k2 _ _ ?_;refine qW (qA A0 t4) ?_;refine⟨_,_,bC v4 (.b true) (.inr rfl) (qd B0) qp qp,g1.gr g2,λ_=>?_⟩;rw[<-hr];refine⟨_,rfl,?_⟩;have e:((Option.map (λx=>out++x) (some [])).getD [])=out:=by simp
  rw[e];exact hown.slc
 ·rw[List.drop_zero,E0];cases r0<;>simp
 simp only[an,mE,Nat.reduceEqDiff,reduceIte,bE,aS,t1,A0,B0,and_self,true_and];exact⟨rfl,trivial⟩
def nZ(us:List Pr)(i:Nat)(x:Pr):Bool:=nmB x.1&&(decide (qy 0 us x.1=(i:Int))&&(if i=0 then x.2==1 else decide (2<=x.2)&&decide (x.2<=60)))
def jo(n:List UInt8)(us:List Pr):Bool:=nmB n&&decide (1<=us.length)&&decide (us.length<=12)&&((List.range us.length).all λi=>nZ us i (us.getD i ([],0)))&&(rJ 1 us).isSome
def nY{n:List UInt8}{us:List Pr}{i:Nat}{x:Pr}(hx:us[i]?=some x)(h:nZ us i x=false):(if jo n us=true then 0 else 10)=(10:Int):=by have D0:i<us.length:=(List.getElem?_eq_some_iff.1 hx).1;have:((List.range us.length).all λi=>nZ us i (us.getD i ([],0)))=false:=List.all_eq_false.2 ⟨i,List.mem_range.2 D0,by rw[bt,hx];show¬nZ us i x=true;rw[h];decide⟩;unfold jo;rw[this,Bool.and_false,Bool.false_and];rfl
def yT:∀(v:Int)(us:List Pr),(yv v us).length=us.length↔(∀x∈us,1<=x.2/\x.2<=60)/\(rJ v us).isSome=true
 |_,[]=>⟨λ_=>⟨λx hx=>(by cases hx),rfl⟩,λ_=>rfl⟩
 |v,u::us=>by
  unfold yv rJ;have ih:=yT (v*u.2) us;by_cases h:u.2<1\/60<u.2\/1099511627776<v*u.2
  ·rw[ad h];refine⟨λh'=>(by simp at h'),λ⟨h1,h2⟩=>?_⟩;have h3:=h1 u (bh ..);have h4:1099511627776<v*u.2:=aa;rw[ad h4]at h2;cases h2
  rw[ab h,ab aa,List.length_cons,List.length_cons,List.forall_mem_cons,Option.isSome_map];constructor
  ·intro h';obtain⟨a,b⟩:=ih.1 aa;exact⟨⟨aa,a⟩,b⟩
  rintro⟨⟨_,a⟩,b⟩;have:=ih.2 ⟨a,b⟩;omega
def Fm:∀(n:Nat)(us:List Pr)(i:Nat)(x:Pr),us[i]?=some x->(qy n us x.1=((n+i:Nat):Int)↔((us.take i).any λy=>y.1==x.1)=false)
 |_,[],_,_,h=>by simp at h
 |n,u::us,0,x,h=>by simp only[List.getElem?_cons_zero,xj]at h;subst h;unfold qy;rw[ad rfl];exact⟨λ_=>rfl,λ_=>rfl⟩
 |n,u::us,i+1,x,h=>by
  rw[List.getElem?_cons_succ]at h;unfold qy;rw[List.take_succ_cons,List.any_cons];by_cases hu:u.1=x.1
  ·rw[ad hu,hu,fl,Bool.true_or];exact⟨λh=>aa,λh=>by cases h⟩
  rw[ab hu,aW hu,Bool.false_or];have:=Fm (n+1) us i x h;have e:n+1+i=n+(i+1):=aa;rw[e]at this;exact this
def DW(n:List UInt8)(us:List Pr):jo n us=gJ n us:=by
 rw[fZ];unfold jo gJ;simp only[aT,bB,rN,GK,wv,BH];have Q0:∀i,i<us.length->∃x,us[i]?=some x/\us.getD i ([],0)=x:=λi hi=>⟨us[i],aO hi,by rw[bt,aO hi];rfl⟩;constructor
 ·rintro⟨⟨⟨⟨h1,h2⟩,h3⟩,h4⟩,h5⟩;have fac:∀x∈us,1<=x.2/\x.2<=60:=λx hx=>by
   obtain⟨i,hi,rfl⟩:=Gw hx;have:=h4 i hi;rw[bt,aO hi]at this;unfold nZ at this;simp only[GI,aT]at this;have h6:=this.2.2;split at h6
   ·have:=eq_of_beq h6;omega
   simp only[aT,bB]at h6;omega
  refine⟨⟨⟨⟨h1,aa⟩,aa⟩,(yT 1 us).2 ⟨fac,h5⟩⟩,λi hi=>?_⟩;obtain⟨x,hx,hxd⟩:=Q0 i hi;have h6:=h4 i hi;rw[hxd]at h6 |-;unfold nZ at h6;unfold okU;simp only[aT,bB]at h6;have h7:=(Fm 0 us i x hx).1 (by rw[Nat.zero_add];exact h6.2.1);rw[h6.1,h7];have h8:=h6.2.2;by_cases T5:i=0
  ·rw[ad T5]at h8;rw[h8,T5];rfl
  rw[ab T5]at h8;simp only[aT,bB]at h8;rw[aW (by omega:x.2≠1),aW (by omega:(i:Int)≠0)];rfl
 rintro⟨⟨⟨⟨h1,h2⟩,h3⟩,h4⟩,h5⟩;obtain⟨fac,hv⟩:=(yT 1 us).1 h4;refine⟨⟨⟨⟨h1,aa⟩,aa⟩,λi hi=>?_⟩,hv⟩;obtain⟨x,hx,hxd⟩:=Q0 i hi;have h6:=h5 i hi;rw[hxd]at h6 |-;unfold okU at h6;unfold nZ;simp only[aT,wv]at h6;have h7:=(Fm 0 us i x hx).2 h6.1.2;rw[Nat.zero_add]at h7;have hfx:=fac x (iY hx);rw[h6.1.1,h7,aL rfl];have h8:=eq_of_beq h6.2;by_cases T5:i=0
 ·rw[ad T5,h8,T5];rfl
 rw[ab T5];rw[aW (by omega:(i:Int)≠0)]at h8;have:x.2≠1:=λh=>by rw[h]at h8;cases h8
 rw[aL (by omega:2<=x.2),aL (by omega:x.2<=60)];rfl
def FU(H:Hp)(n:List UInt8)(u:AC)(us:List Pr)(hu:SlP H u us):
  Con E2 45 [.agg [.o (.str n),u]] H (λ_=>False) λr _=>r=.one (.i .i64 (aR n us)):=by
 refine Con.qw (λH=>SlP H u us) hu λH hu=>?_;unfold aR;rw[<-DW];refine C1.jf 77 [.tmp 2] Tryz.func45 λtm h0=>?_;have fin:=Ax E2 H 2 ((if jo n us=true then 0 else 10));refine qG (qA aw h0) λK hK=>?_;apply hK;refine R1.gen (λA1 H1=>Gr H H1/\H.nx<H1.nx/\H1.get H.nx=some (.arr [.o (.str n),u] 51 0 0)/\ea A1 H.nx (A1.nt=77/\A1.dfr=[]))
  ⟨(Fr.refl _).new _,?_⟩ ?_
 ·exact qU
 rintro A1 H1 ⟨g1,lb,rb,t1,A0,B0⟩;clear h0 tm;refine qG (zDi aw t1 A0 rb lb jE cB zR) λK hK=>?_;refine WE.con (xS H1 n) λw H2 g2 hw=>?_;subst hw;have g2':=g1.gr g2;have J6:=hu.gr g2';have rb:H2.get H.nx=some (.arr [.o (.str n),u] 51 0 0):=by rw[g2.get _ lb aF];exact rb
 have lb:H.nx<H2.nx:=ay lb g2.nx;cases hnm:nmB n with
 |false=>refine qS (qA aw A0) ?_;apply hK;refine qY ?_;refine qW A0 ?_;exact fin 10 _ _ qp (qd B0) g2' (by unfold jo;rw[hnm];rfl)
 |true=>
  by_cases h1:(us.length:Int)<1
  ·have c1:((us.length:Int)<1)=True:=cK h1;refine qS (zDl aw t1 A0 rb lb cX cY eR J6.len J6.lt c1) ?_;apply hK;refine qY ?_;refine qW A0 ?_;exact fin 10 _ _ qp (qd B0) g2' (by unfold jo;rw[aV (by omega:¬1<=us.length)];simp)
  have c1:((us.length:Int)<1)=False:=bT h1;by_cases h12:(12:Int)<us.length
  ·have c12:((12:Int)<us.length)=True:=cK h12;refine qS (zDm aw t1 A0 rb lb cX cY eR J6.len J6.lt c1 c12) ?_;apply hK;refine qY ?_;refine qW A0 ?_;exact fin 10 _ _ qp (qd B0) g2' (by unfold jo;rw[aV (by omega:¬us.length<=12)];simp)
  have c12:((12:Int)<us.length)=False:=bT h12;refine qS (zDm aw t1 A0 rb lb cX cY eR J6.len J6.lt c1 c12) ?_;apply hK;refine qY ?_;refine qW A0 ?_;refine R1.bJ λK k1 k2 k3 k4=>?_;refine R1.loop (λk A H3=>∃i:Nat,k=us.length-i/\i<=us.length/\Gr H2 H3/\(∀j,j<i->nZ us j (us.getD j ([],0))=true)/\ea A H.nx (dw A i (A.nt=77/\A.dfr=[]))) ?_ us.length
   ⟨0,rfl,Nat.zero_le _,Fr.refl _,λj hj=>absurd hj (Nat.not_lt_zero j),?_⟩
  ·clear t1 A0 B0 A1;rintro k A H3 ⟨i,rfl,hi,g3,L2,t1,t3,A0,B0⟩;have hu3:=J6.gr g3;have rb:H3.get H.nx=some (.arr [.o (.str n),u] 51 0 0):=by rw[g3.get _ lb aF];exact rb
   have lb:H.nx<H3.nx:=ay lb g3.nx;refine qW (zDl aw t1 t3 A0 rb lb cX cY eR hu3.len hu3.lt) ?_;refine qE λKx Ky hx hy=>?_;refine kG (λhc=>hx ?_) (λhc=>hy ?_)
   ·clear hx hy Kx Ky;have D0:i<us.length:=aa;have N2:=bw i;obtain⟨id,g,off,cells,rfl,hid,B2,Q0⟩:=hu3.open aa;have ex:=aO D0;generalize us[i]=x at ex;have Y0:=Q0 i x ex;refine qV ?_;refine R1.bJ λK2 q1 q2 q3 q4=>?_;refine qG (zDm aw t1 t3 A0 rb lb cX cY jD vh sF (zDh pt (ixC D0) hid B2 Y0.all Y0.le fF)) λK hK=>?_;apply hK;refine R1.gen (λA4 H4=>Gr H3 H4/\H3.nx<H4.nx/\H4.get H3.nx=some (.arr (prC x) 133 0 0)/\ea A4 H.nx (dw A4 i (eK A4 4 (.o (.ptr H3.nx 0 0 2)) 77 [])))
     ⟨((Fr.refl _).new _).mod _ (.inl (ai _)),?_⟩ ?_
    ·exact qZ (zDf t1 t3 A0 B0 fF)
    clear t1 t3 A0 B0 A;rintro A H4 ⟨g4,lx,rx,t1,t3,t4,A0,B0⟩;have rb:H4.get H.nx=some (.arr [.o (.str n),.o (.sl id g off us.length 2)] 51 0 0):=by rw[g4.get _ lb aF];exact rb
    have lb:H.nx<H4.nx:=ay lb g4.nx;refine qG (zDj aw t4 A0 rx lx cF cB fF zR) λK hK=>?_;refine WE.con (xS H4 x.1) λw H5 g5 hw=>?_;subst hw;have rb:H5.get H.nx=some (.arr [.o (.str n),.o (.sl id g off us.length 2)] 51 0 0):=by rw[g5.get _ lb aF];exact rb
    have lb:H.nx<H5.nx:=ay lb g5.nx;have rx:H5.get H3.nx=some (.arr (prC x) 133 0 0):=by rw[g5.get _ lx aF];exact rx
    have lx:H3.nx<H5.nx:=ay lx g5.nx;have g25:Gr H2 H5:=(g3.gr g4).gr g5;cases V1:nmB x.1 with
    |false=>refine qS (zDm aw t1 t3 t4 A0 rx lx rb lb cF cW (zDe cB cA fF V1)) ?_;apply hK;refine qY ?_;refine qW A0 ?_;exact q4 _ _ (k4 _ _ (fin 10 _ _ qp (qd B0) (g2'.gr g25) (by rw[nY ex (by unfold nZ;rw[V1];rfl)])))
    |true=>
     have R5:=J6.gr g25;refine qS (zDm aw t1 t3 t4 A0 rx lx rb lb cF cW (zDf cB cA fF gM Py)) ?_;refine WE.con (Mc H5 n _ us x.1 R5 aa) λw H6 g6 hw=>?_;subst hw;have rx:H6.get H3.nx=some (.arr (prC x) 133 0 0):=by rw[g6.get _ lx aF];exact rx
     have lx:H3.nx<H6.nx:=ay lx g6.nx;have g26:=g25.gr g6;by_cases hix:qy 0 us x.1=(i:Int)
     ·have cix:(qy 0 us x.1==(i:Int))=true:=by rw[gP];exact hix
      by_cases T5:i=0
      ·have ci0:((i:Int)==0)=true:=by rw[gP];omega
       have ci1:(0<(i:Int))=False:=bT aa;cases J7:(x.2==1)with
       |false=>refine qS (zDm aw t1 t3 t4 A0 rx lx rb lb cF cW (zDg cB cA fF cix ci0 J7)) ?_;apply hK;refine qY ?_;refine qW A0 ?_;exact q4 _ _ (k4 _ _ (fin 10 _ _ qp (qd B0) (g2'.gr g26) (by rw[nY ex (by unfold nZ;rw[ad T5,J7,Bool.and_false,Bool.and_false])])))
       |true=>
        have G0:nZ us i x=true:=by unfold nZ;rw[V1,aL hix,ad T5,J7];rfl
        refine qS (zDm aw t1 t3 t4 A0 rx lx rb lb cF cW (zDh cB cA fF cix ci0 J7 ci1)) ?_;apply hK;refine qY ?_;refine qW A0 ?_;refine q1 _ _ ?_;refine qW (zDd A0 t3 N2) ?_;refine⟨us.length-(i+1),aa,i+1,rfl,D0,g26,λj hj=>?_,?_,?_,?_,?_⟩
        ·rcases cO j i with h|h
         ·exact L2 j h
         have:j=i:=aa;subst this;rw[bt,ex];exact G0
        ·simp only[an,Nat.reduceEqDiff,reduceIte,t1]
        ·simp only[an,Nat.reduceEqDiff,reduceIte]
        ·simp only[bE,A0]
        simp only[aS,B0]
      have ci0:((i:Int)==0)=false:=aW aa;have ci1:(0<(i:Int))=True:=cK aa;by_cases hf2:x.2<2
      ·have cf2:(x.2<2)=True:=cK hf2;refine qS (zDm aw t1 t3 t4 A0 rx lx rb lb cF cW (zDh cB cA fF cix ci0 ci1 cf2)) ?_;apply hK;refine qY ?_;refine qW A0 ?_;exact q4 _ _ (k4 _ _ (fin 10 _ _ qp (qd B0) (g2'.gr g26) (by rw[nY ex (by unfold nZ;rw[ab T5,aV (by omega:¬2<=x.2),Bool.false_and,Bool.and_false,Bool.and_false])])))
      have cf2:(x.2<2)=False:=bT hf2;by_cases hf60:60<x.2
      ·have cf60:(60<x.2)=True:=cK hf60;refine qS (zDm aw t1 t3 t4 A0 rx lx rb lb cF cW (zDi cB cA fF cix ci0 ci1 cf2 cf60)) ?_;apply hK;refine qY ?_;refine qW A0 ?_;exact q4 _ _ (k4 _ _ (fin 10 _ _ qp (qd B0) (g2'.gr g26) (by rw[nY ex (by unfold nZ;rw[ab T5,aV (by omega:¬x.2<=60),Bool.and_false,Bool.and_false,Bool.and_false])])))
      have cf60:(60<x.2)=False:=bT hf60;have G0:nZ us i x=true:=by unfold nZ;rw[V1,aL hix,ab T5,aL (by omega:2<=x.2),aL (by omega:x.2<=60)];rfl
      refine qS (zDm aw t1 t3 t4 A0 rx lx rb lb cF cW (zDi cB cA fF cix ci0 ci1 cf2 cf60)) ?_;apply hK;refine qY ?_;refine qW A0 ?_;refine q1 _ _ ?_;refine qW (zDd A0 t3 N2) ?_;refine⟨us.length-(i+1),aa,i+1,rfl,D0,g26,λj hj=>?_,?_,?_,?_,?_⟩
      ·rcases cO j i with h|h
       ·exact L2 j h
       have:j=i:=aa;subst this;rw[bt,ex];exact G0
      ·simp only[an,Nat.reduceEqDiff,reduceIte,t1]
      ·simp only[an,Nat.reduceEqDiff,reduceIte]
      ·simp only[bE,A0]
      simp only[aS,B0]
     have cix:(qy 0 us x.1==(i:Int))=false:=aW hix;refine qS (zDm aw t1 t3 t4 A0 rx lx rb lb cF cW (zDe cB cA fF cix)) ?_;apply hK;refine qY ?_;refine qW A0 ?_;exact q4 _ _ (k4 _ _ (fin 10 _ _ qp (qd B0) (g2'.gr g26) (by rw[nY ex (by unfold nZ;rw[aV hix,Bool.false_and,Bool.and_false])])))
   clear hx hy Kx Ky;have U2:i=us.length:=aa;have hall':((List.range us.length).all λi=>nZ us i (us.getD i ([],0)))=true:=List.all_eq_true.2 λj hj=>L2 j (by have:=List.mem_range.1 hj;omega);have fac:∀x∈us,1<=x.2/\x.2<=60:=λx hx=>by
    obtain⟨j,hj,rfl⟩:=Gw hx;have:=L2 j aa;rw[bt,aO hj]at this;unfold nZ at this;simp only[GI,aT]at this;have h6:=this.2.2;split at h6
    ·have:=eq_of_beq h6;omega
    simp only[aT,bB]at h6;omega
   refine qW A0 ?_;refine k2 _ _ ?_;refine qG (zDh aw t1 A0 rb lb gM PC) λK hK=>?_;refine WE.con (Mw H3 n u us hu3 aa fac) λw H5 g5⟨c,hw,_⟩=>?_;subst hw;refine qS (qA aw A0) ?_;apply hK;have g5':=(g2'.gr g3).gr g5;cases T4:(rJ 1 us).isSome with
   |true=>
    refine qW A0 ?_;refine qY ?_;refine qW A0 ?_;refine fin 0 _ _ qp (qd B0) g5' ?_;have:jo n us=true:=by unfold jo;rw[hnm,hall',T4,aL (by omega:1<=us.length),aL (by omega:us.length<=12)];rfl
    rw[this];rfl
   |false=>
    refine qW A0 ?_;refine qY ?_;refine qW A0 ?_;refine fin 10 _ _ qp (qd B0) g5' ?_;have:jo n us=false:=by unfold jo;rw[T4,Bool.and_false]
    rw[this];rfl
  simp only[an,mE,Nat.reduceEqDiff,reduceIte,bE,aS,t1,A0,B0,and_self,true_and];exact⟨rfl,trivial⟩
def VS:(ba prog 123).map (λz=>(ofValue z).cells)=some [.o .nilS,.o .nilS]:=ae
def oD:bK prog 123 0=some (0,22,1):=ae
def UM:Nat->Option (Nat×Nat):=λi=>(#[(0,1),(1,1)]:Array (Nat×Nat))[i]?
def UQ:iR prog 123=some UM:=ae
def KW:aq prog 47=true:=ae
def Zf:aq prog 46=true:=ae
def Wp:aq prog 22=true:=ae
def HQ(H:Hp)(n:List UInt8)(u:AC)(us:List Pr)(hu:SlP H u us)(hL:us.length<=1000000):
  Con E2 47 [.agg [.o (.str n),u]] H (λ_=>False) λr H'=>∃u',r=.agg [.o (.str n),u']/\SlP H' u' us/\∀id∈(AV.one u').ids,H.nx<=id:=by
 refine Con.Iw (λH=>SlP H u us) hu λH e hu=>?_;rw[<-e];clear e;refine C1.jf 11 [.cell 2 51] Tryz.func47 λtm h0=>?_;refine qG (zDd aw h0 iA) λK hK=>?_;apply hK;refine R1.gen (λA1 H1=>Gr H H1/\H.nx+1<H1.nx/\H1.get H.nx=some (.arr [.o (.str n),u] 51 0 0)/\H1.get (H.nx+1)=some (.arr [.o (.str []),.o .nilS] 51 0 0)/\ea A1 H.nx (iB A1 (H.nx+1) (A1.nt=11/\A1.dfr=[])))
  ⟨((Fr.refl _).new _).new _,?_⟩ ?_
 ·exact qU
 rintro A1 H1 ⟨g1,n1,r1,r2,t1,t2,A0,B0⟩;clear h0 tm;have V2:SlP H1 u us:=hu.gr g1;have l1:H.nx<H1.nx:=aa;have hlu:ltV (.one u) H1.nx:=V2.lt;obtain⟨z,hz,S2⟩:=Pm;refine qG (qA aw A0) λK hK=>?_;apply hK;obtain⟨v,H2,X2,hv,hvn,g2⟩:=MZ jD Nq hz S2 aE V2 aa;clear hz S2 z;have r2:H2.get (H.nx+1)=some (.arr [.o (.str []),.o .nilS] 51 0 0):=by rw[g2.get _ n1 aF];exact r2
 have n2:H.nx+1<H2.nx:=ay n1 g2.nx;have hfl:FrL H1.nx H1 H2:=FrL.of g2 λ_ h=>h.elim;have hv3:SlP (H2.mod (H.nx+1) (.arr [.o (.str n),v] 51 0 0)) v us:=SlC.fr hv (X:=λk=>k=H.nx+1) ((Fr.refl _).mod _ (.inr rfl)) λid h hh=>by have:=hvn id h;omega
 have hv4:∀id∈(AV.one v).ids,H.nx<=id:=λid h=>by have:=hvn id h;omega
 clear hvn;replace hv3:=ah hv3;replace hv4:=ah hv4;refine R1.s_q 7 ae λK hK=>?_;refine zQ (zDk aw jE cX cB cY iA FT JD JE mO) ?_;apply hK.out;refine qV ?_;exact⟨_,_,tc (id:=H.nx+1) (g:=0) gM (.inr rfl) (by simp only[aS,B0];rfl) (by simp only[an,Nat.reduceEqDiff,reduceIte,t2]) (by rw[ao rfl];exact de (ai _) (ai _)) (ai _) rfl,(g1.gr g2).mod _ (.inl (Nat.le_succ _)),λ_=>⟨v,rfl,hv3.out,hv4.out⟩⟩
def RBk(H:Hp)(p:AC)(ls:List Lad):Prop:=∃kb lad,p=.o (.ptr kb 0 0 2)/\kb<H.nx/\H.get kb=some (.arr [lad,.o .nilS] 123 0 0)/\gH H lad ls
def atN:Nat->List Lad->List UInt8->Int
 |_,[],_=>-1
 |n,x::l,s=>if x.1=s then(n:Int)else atN (n+1) l s
def EL:∀(n:Nat)(ls:List Lad)(s:List UInt8),atN n ls s=(jH n ls s).elim (-1) λi=>(i:Int)
 |_,[],_=>rfl
 |n,x::l,s=>by
  unfold atN jH;by_cases h:x.1=s
  ·rw[ad h,ad h];rfl
  rw[ab h,ab h];exact EL (n+1) l s
def XX(H:Hp)(p:AC)(ls:List Lad)(s:List UInt8)(hp:RBk H p ls)(hL:ls.length<=1000000):
  Con E2 46 [.one p,.one (.o (.str s))] H (λ_=>False) λr _=>r=.one (.i .i64 (atN 0 ls s)):=by
 refine Con.qw (λH=>RBk H p ls) hp λH hp=>?_;refine C1.fK 26 [.tmp 4] Tryz.func46 λtm h0 h1=>?_;obtain⟨kb,lad,rfl,k1,k2,hl⟩:=hp;generalize E0:atN 0 ls s=r0;refine qV ?_;refine R1.bJ λK k1' k2' k3 k4=>?_;refine R1.loop (λk A H2=>∃i:Nat,k=ls.length-i/\i<=ls.length/\H2=H/\atN i (ls.drop i) s=r0/\pF A 0 1 5 (.o (.ptr kb 0 0 2)) (.o (.str s)) (.i .i64 (i:Int)) 26 []) ?_ ls.length
  ⟨0,rfl,Nat.zero_le _,rfl,E0,?_⟩
 ·clear h0 h1 tm;rintro k A H2 ⟨i,rfl,hi,rfl,hr,t0,t1,t5,A0,B0⟩;refine qW (zDl aw t0 t5 A0 k1 k2 oD oH oL hl.len hl.lt) ?_;refine qE λKx Ky hx hy=>?_;refine kG (λhc=>hx ?_) (λhc=>hy ?_)
  ·clear hx hy Kx Ky;have D0:i<ls.length:=aa;obtain⟨id,g,off,cells,rfl,hid,B2,Q0⟩:=hl.open aa;have ex:=aO D0;have S0:=List.drop_eq_getElem_cons D0;generalize ls[i]=x at ex S0;obtain⟨u,hu,L4,Y0,U7,hx3,hx4,hx5⟩:=Q0 i x ex;have N2:=bw i;rw[S0,atN]at hr;refine qV ?_;refine R1.bJ λK2 q1 q2 q3 q4=>?_;refine qG (zDm aw t0 t1 t5 A0 k1 k2 oD oH gm jE (zDg cB (ixC D0) hid B2 U7 hx4)) λK hK=>?_;apply hK;by_cases Y5:x.1=s
   ·rw[ad Y5]at hr;have ce:lEq x.1 s=true:=by rw[iN,Y5,fl]
    refine qX ce ?_;refine qW (qA A0 t5) ?_;exact q4 _ _ (k4 _ _ ⟨_,_,au (.i .i64 (i:Int)) (.inr rfl) (qd B0) qp,Fr.refl _,λ_=>by rw[<-hr]⟩)
   rw[ab Y5]at hr;have ce:lEq x.1 s=false:=by rw[iN];exact aW Y5
   refine qX ce ?_;refine qW A0 ?_;refine q1 _ _ ?_;refine qW (zDd A0 t5 N2) ?_;refine⟨ls.length-(i+1),aa,i+1,rfl,D0,rfl,hr,?_,?_,?_,?_,?_⟩
   ·simp only[an,Nat.reduceEqDiff,reduceIte,t0]
   ·simp only[an,Nat.reduceEqDiff,reduceIte,t1]
   ·simp only[an,Nat.reduceEqDiff,reduceIte]
   ·simp only[bE,A0]
   simp only[aS,B0]
  clear hx hy Kx Ky;have U2:i=ls.length:=aa;rw[U2,dD,atN]at hr;refine qW A0 ?_;refine k2' _ _ ?_;refine qW A0 ?_;exact⟨_,_,au (.i .i64 (-1)) (.inr rfl) (qd B0) qp,Fr.refl _,λ_=>by rw[<-hr]⟩
 simp only[an,mE,Nat.reduceEqDiff,reduceIte,bE,aS,h0,h1,and_self,true_and];exact⟨rfl,trivial⟩
structure RB(n0 kb:Nat)(ll:List Lad)(H1:Hp)(lad:AC)(r1:Option Nat):Prop where
 kbg:H1.get kb=some (.arr [lad,.o .nilS] 123 0 0)
 o1:∃css:List (List AC),dz H1 lad 51 2 ll.length (css.flatMap id) r1/\Al (λc x=>c.length=2/\∃u,c=[.o (.str x.1),u]/\SlP H1 u x.2/\∀id∈(AV.one u).ids,id≠kb/\some id≠r1) css ll
 kn:n0<=kb/\kb<H1.nx
 n1:∀q,r1=some q->n0<=q/\q<H1.nx/\q≠kb
section
variable{n0 kb:Nat}{ll:List Lad}{H1 H2:Hp}{lad:AC}{r1:Option Nat}
def RB.LL(h:RB n0 kb ll H1 lad r1)(hg:Gr H1 H2):RB n0 kb ll H2 lad r1 where
 kbg:=by rw[hg.get _ h.kn.2 aF];exact h.kbg
 o1:=let ⟨css,a,b⟩:=h.o1;⟨css,a.fr hg λ_ _ h=>h,b.mono λc x⟨hc,u,e,hu,hi⟩=>⟨hc,u,e,hu.gr hg,hi⟩⟩
 kn:=⟨h.kn.1,ay h.kn.2 hg.nx⟩
 n1:=λq hq=>let ⟨a,b,c⟩:=h.n1 q hq;⟨a,ay b hg.nx,c⟩
def RB.YY(h:RB n0 kb ll H1 lad r1){x:Lad}{u v5:AC}{r5:Nat}{H5:Hp}(hu:SlP H1 u x.2)(hi:∀id∈(AV.one u).ids,id≠kb/\some id≠r1)
  {css:List (List AC)} (hal:Al (λc x=>c.length=2/\∃u,c=[.o (.str x.1),u]/\SlP H1 u x.2/\∀id∈(AV.one u).ids,id≠kb/\some id≠r1) css ll)
  (ho:dz H5 v5 51 2 (ll.length+1) (css.flatMap id++[.o (.str x.1),u]) (some r5)) (hf:Fr (λi=>r1=some i) H1 H5) (hr:r1=some r5\/H1.nx<=r5):
  RB n0 kb (ll++[x]) (H5.mod kb (.arr [v5,.o .nilS] 123 0 0)) v5 (some r5):=by
 have r5kb:r5≠kb:=by
  rcases hr with e|e
  ·exact(h.n1 _ e).2.2
  have:=h.kn.2;omega
 have n0le:n0<=H1.nx:=aD h.kn.1 (sK h.kn.2);have lt5:r5<H5.nx:=by
  rcases ho with⟨_,_,_,e⟩|⟨id,lo,gen,e,_,_,_,_,hl⟩
  ·cases e
  cases e;exact hl
 have keep:∀{c:List AC}{x:Lad},(c.length=2/\∃u,c=[.o (.str x.1),u]/\SlP H1 u x.2/\∀id∈(AV.one u).ids,id≠kb/\some id≠r1) ->
   c.length=2/\∃u,c=[.o (.str x.1),u]/\SlP (H5.mod kb (.arr [v5,.o .nilS] 123 0 0)) u x.2/\∀id∈(AV.one u).ids,id≠kb/\some id≠some r5:=by
  rintro c x ⟨hc,u,e,hu,hi⟩;refine⟨hc,u,e,SlC.fr (SlC.fr hu hf λi h' e=>(hi i h').2 e.symm) eT λi h' e=>(hi i h').1 e,λi h'=>⟨(hi i h').1,λe=>?_⟩⟩;cases e
  rcases hr with e|e
  ·exact(hi _ h').2 e.symm
  have:=hu.lt _ h';omega
 refine⟨ao rfl,⟨css++[[.o (.str x.1),u]],?_,?_⟩,⟨h.kn.1,ay h.kn.2 hf.nx⟩,?_⟩
 ·rw[bA,List.length_singleton,pk];exact ho.fr eT λi hi e=>by cases hi;exact r5kb e
 ·exact Al.app (hal.mono λc x hc=>keep hc) (keep ⟨rfl,u,rfl,hu,hi⟩)
 intro q hq;cases hq
 refine⟨?_,lt5,r5kb⟩;rcases hr with e|e
 ·exact(h.n1 _ e).1
 omega
def RB.book(h:RB n0 kb ll H1 lad r1):RBk H1 (.o (.ptr kb 0 0 2)) ll:=by obtain⟨css,a,b⟩:=h.o1;exact⟨kb,lad,rfl,h.kn.2,h.kbg,css,a.slc,b.mono λc x⟨hc,u,e,hu,_⟩=>⟨hc,u,e,hu⟩⟩
end
def UU(H:Hp)(v:AC)(ls:List Lad)(hl:gH H v ls):
  Con E2 22 [.one v,.one (.o .nilS)] H (λ_=>False) λr H'=>∃p,r=.tup [(false,[p]),(false,[.i .i64 (oP ls)])]/\(oP ls=0->RBk H' p ls)/\(oP ls≠0->p=.o .nilP):=by
 refine Con.qw (λH=>gH H v ls) hl λH hl=>?_;refine C1.fK 86 [.tmp 4,.tmp 5] Tryz.func22 λtm h0 h1=>?_;have lnB:kI prog 112=some 1:=ae;by_cases h32:(32:Int)<ls.length
 ·have c32:((32:Int)<ls.length)=True:=cK h32;refine qW aw ?_;refine qG (zDh aw h0 h1 oL hl.len hl.lt c32) λK hK=>?_;apply hK;refine qY ?_;refine qV ?_;refine⟨_,_,bC (.o .nilP) (.i .i64 3) (.inr rfl) rfl (by simp only[an,Nat.reduceEqDiff,reduceIte,uO]) qp,Fr.refl _,λ_=>?_⟩;have:oP ls=3:=ad h32;rw[this];exact⟨_,rfl,λh=>(by cases h),λ_=>rfl⟩
 have c32:((32:Int)<ls.length)=False:=bT h32;refine qW aw ?_;refine qG (zDi aw h0 h1 oL hl.len hl.lt c32 lnB) λK hK=>?_;apply hK;refine qY ?_;refine R1.cq ?_;refine qG (zDd aw VS UQ) λK hK=>?_;apply hK;refine R1.gen (λA1 H1=>Gr H H1/\RB H.nx H.nx [] H1 (.o .nilS) none/\pF A1 0 1 6 v (.o .nilS) (.o (.ptr H.nx 0 0 2)) 86 [])
  ⟨(Fr.refl _).new _,⟨aJ rfl,⟨[],.inl ⟨rfl,rfl,rfl,rfl⟩,trivial⟩,⟨ai _,aZ _⟩,λq h=>(by cases h)⟩,?_⟩ ?_
 ·exact qZ (qA h0 h1)
 clear h0 h1 tm;rintro A1 H1 ⟨g1,nb,t0,t1,t6,A0,B0⟩;obtain⟨kb,hkb⟩:=dZ H.nx;rw[<-hkb]at t6;have nb:RB H.nx kb [] H1 (.o .nilS) none:=by rw[hkb];exact nb
 clear hkb;have D5:oP ls=vw [] ls:=ab h32;rw[D5];generalize E0:vw [] ls=r0;refine qW A0 ?_;refine R1.bJ λK k1 k2 k3 k4=>?_;refine R1.loop (λk A2 H2=>∃(i:Nat)(lad:AC)(r1:Option Nat),k=ls.length-i/\i<=ls.length/\RB H.nx kb (ls.take i) H2 lad r1/\Gr H H2/\vw (ls.take i) (ls.drop i)=r0 /\
  slot A2.tm 0=.one v/\slot A2.tm 1=.one (.o .nilS)/\slot A2.tm 6=.one (.o (.ptr kb 0 0 2))/\slot A2.tm 7=.one (.i .i64 (i:Int))/\A2.nt=86/\A2.dfr=[]) ?_ ls.length
  ⟨0,_,_,rfl,Nat.zero_le _,nb,g1,E0,?_⟩
 ·clear t0 t1 t6 A0 B0 A1;rintro k A H1 ⟨i,lad,r1,rfl,hi,nb,g1,hr,t0,t1,t6,t7,A0,B0⟩;have hl1:=hl.gr g1;refine qW (zDh aw t0 t7 A0 oL hl1.len hl1.lt) ?_;refine qE λKx Ky hx hy=>?_;refine kG (λhc=>hx ?_) (λhc=>hy ?_)
  ·clear hx hy Kx Ky;have D0:i<ls.length:=aa;obtain⟨id,g,off,cells,rfl,J3,k8,Q0⟩:=hl.open aa;have hid:id<H1.nx:=ay J3 g1.nx;have hg:rowOf (H1.get id) g=some cells:=by rw[g1.get _ J3 aF];exact k8
   have ex:=aO D0;have S0:=List.drop_eq_getElem_cons D0;have Y2:=dK D0;generalize ls[i]=x at ex S0 Y2;obtain⟨u,hu0,L4,Y0,U7,hx3,hx4,hx5⟩:=Q0 i x ex;have hu:SlP H1 u x.2:=hu0.gr g1;have W6:(ls.take i).length=i:=by rw[dY];omega
   have hi32:ls.length<=32:=aa;have N2:=bw i;rw[S0,vw]at hr;refine qV ?_;refine R1.bJ λK2 q1 q2 q3 q4=>?_;refine qG (zDm aw t0 t7 A0 gm gM (ixC D0) hid hg L4 Y0 Hv) λK hK=>?_;refine WE.con (FU H1 x.1 u x.2 hu) λw H4 g4 hv=>?_;subst hv;have nb4:=nb.LL g4;have g4':=g1.gr g4;have P7:id<H4.nx:=ay hid g4.nx;have hg4:rowOf (H4.get id) g=some cells:=by rw[g4.get _ hid aF];exact hg
   refine qS (qA aw A0) ?_;apply hK;refine qW (qA aw A0) ?_;refine qE λKx Ky hx hy=>?_;refine kG (λhd=>hx ?_) (λhd=>hy ?_)
   ·clear hx hy Kx Ky;have I1:aR x.1 x.2≠0:=by simpa using hd
    rw[ad I1]at hr;subst hr;refine qW (qA aw A0) ?_;refine q4 _ _ (k4 _ _ ⟨_,_,bC (.o .nilP) (.i .i64 (aR x.1 x.2)) (.inr rfl) (qd B0) (by simp only[an,Nat.reduceEqDiff,reduceIte,uO]) qp,g4',λ_=>⟨_,rfl,λh=>absurd h I1,λ_=>rfl⟩⟩)
   clear hx hy Kx Ky;have hz:aR x.1 x.2=0:=by simpa using hd
   rw[ab (λh=>h hz)]at hr;have hL12:=kZ hz;refine R1.cq ?_;refine qG (zDm aw t0 t6 t7 A0 gm jE cB (ixC D0) P7 hg4 (zDd U7 hx4 Zf)) λK hK=>?_;refine WE.con (XX H4 _ (ls.take i) x.1 nb4.book aa) λw H5 g5 hw=>?_;subst hw;have nb5:=nb4.LL g5;have g5':=g4'.gr g5;have hid5:id<H5.nx:=ay P7 g5.nx;have hg5:rowOf (H5.get id) g=some cells:=by rw[g5.get _ P7 aF];exact hg4
   cases Q5:jH 0 (ls.take i) x.1 with
   |some j=>have cge:(0<=atN 0 (ls.take i) x.1)=True:=cK (by rw[EL,Q5,Gz];omega);rw[ad (by rw[Q5];rfl)]at hr;subst hr;refine qS (zDd aw A0 cge) ?_;apply hK;refine qY ?_;refine qW (qA aw A0) ?_;refine q4 _ _ (k4 _ _ ⟨_,_,bC (.o .nilP) (.i .i64 2) (.inr rfl) (qd B0) (by simp only[an,Nat.reduceEqDiff,reduceIte,uO]) qp,g5',λ_=>⟨_,rfl,λh=>(by cases h),λ_=>rfl⟩⟩)
   |none=>
    have cge:(0<=atN 0 (ls.take i) x.1)=False:=bT (by rw[EL,Q5,Option.elim_none];omega);rw[ab (by rw[Q5];decide)]at hr;refine qS (zDd aw A0 cge) ?_;apply hK;refine qY ?_;refine R1.cq ?_;have hkn:H.nx<=kb:=nb5.kn.1;have lkb:=nb5.kn.2;have rkb:=nb5.kbg;have R5:SlP H5 u x.2:=hu0.gr g5';refine qH (zDm aw t0 t6 t7 A0 rkb lkb oD oH gM gm (zDg (ixC D0) hid5 hg5 L4 Y0 KW)) λK hK=>?_;refine WE.BT (HQ H5 x.1 u x.2 R5 aa) λw H6 g6⟨u',hv,hu',Q7⟩=>?_;subst hv;have nb6:=nb5.LL g6;obtain⟨css,ho1,hal⟩:=nb6.o1;obtain⟨zl,S2,hzll⟩:=MF;obtain⟨hlt7,v7,H7,r7,X2,ho7,hf7,hr7⟩:=gZ gm Lf S2 hzll aE ho1 [.o (.str x.1),u'] rfl (by rw[W6];omega);have rk7:H7.get kb=some (.arr [lad,.o .nilS] 123 0 0):=by rw[hf7.get _ nb6.kn.2 (λe=>(nb6.n1 _ e).2.2 rfl)];exact nb6.kbg
    have lk7:kb<H7.nx:=ay nb6.kn.2 hf7.nx;have hui:∀k∈(AV.one u').ids,k≠kb/\some k≠r1:=λk h=>by have h5:=Q7 k h;refine⟨aa,λe=>?_⟩;have:=(nb5.n1 _ e.symm).2.1;omega
    have nb8:=nb6.YY hu' hui hal ho7 hf7 hr7;have g8:Gr H (H7.mod kb (.arr [v7,.o .nilS] 123 0 0)):=((g5'.gr g6).then hf7 λk hk=>.inl (nb6.n1 _ hk).1).mod _ (.inl hkn);refine qS (zDm aw t6 A0 gm iA rq hlt7 X2 rk7 lk7 oD yP) ?_;refine⟨hlt7,?_⟩;apply hK;refine q1 _ _ ?_;refine qW (zDd A0 t7 N2) ?_;rw[<-Y2]at nb8 hr;refine⟨ls.length-(i+1),aa,i+1,_,_,rfl,D0,nb8,g8,hr,?_,?_,?_,?_,?_,?_⟩
    ·simp only[an,Nat.reduceEqDiff,reduceIte,t0]
    ·simp only[an,Nat.reduceEqDiff,reduceIte,t1]
    ·simp only[an,Nat.reduceEqDiff,reduceIte,t6]
    ·simp only[an,Nat.reduceEqDiff,reduceIte]
    ·simp only[bE,A0]
    simp only[aS,B0]
  clear hx hy Kx Ky;have U2:i=ls.length:=aa;rw[U2,dD,vw]at hr;rw[U2,pn]at nb;refine qW A0 ?_;refine k2 _ _ ?_;refine qW (qA aw A0) ?_;refine R1.bJ λK2 q1 q2 q3 q4=>?_;refine R1.round ?_;refine qW (zDe aw A0 t1 lnB) ?_;refine qY ?_;refine qW A0 ?_;refine q2 _ _ ?_;refine qW (zDd aw A0 t6) ?_;refine⟨_,_,bC (.o (.ptr kb 0 0 2)) (.i .i64 0) (.inr rfl) (qd B0) qp qp,g1,λ_=>⟨_,by rw[<-hr],λ_=>nb.book,λh=>absurd hr.symm h⟩⟩
 simp only[an,mE,Nat.reduceEqDiff,reduceIte,bE,aS,t0,t1,t6,A0,B0,and_self,true_and];exact⟨rfl,trivial⟩
def RE(H:Hp)(p:AC):Option (List Lad)->Prop
 |some ls=>RBk H p ls
 |none=>p=.o .nilP
def Sh:aq prog 6=true:=ae
def FM:∀(acc ls:List Lad),vw acc ls=0->∀x∈ls,aR x.1 x.2=0
 |_,[],_=>λ_ h=>absurd h (List.not_mem_nil)
 |acc,y::ls,h=>by
  rw[vw]at h;by_cases hc:aR y.1 y.2≠0
  ·rw[ad hc]at h;exact absurd h hc
  rw[ab hc]at h;by_cases hi:(jH 0 acc y.1).isSome=true
  ·rw[ad hi]at h;cases h
  rw[ab hi]at h;intro x hx;rcases List.mem_cons.1 hx with rfl|hx
  ·exact Classical.not_not.1 hc
  exact FM _ ls h x hx
def Xs{ls:List Lad}(h:oP ls=0):ls.length<=32/\∀x∈ls,x.2.length<=12:=by
 unfold oP at h;by_cases hc:(32:Int)<ls.length
 ·rw[ad hc]at h;cases h
 rw[ab hc]at h;exact⟨aa,λx hx=>kZ (FM [] ls h x hx)⟩
def bkO(ls:List Lad):Option (List Lad):=if oP ls=0 then some ls else none
def Zk{ls l:List Lad}(h:bkO ls=some l):l.length<=32/\∀x∈l,x.2.length<=12:=by
 unfold bkO at h;by_cases hc:oP ls=0
 ·rw[ad hc]at h;cases h;exact Xs hc
 rw[ab hc]at h;cases h
def RE.same{H H':Hp}{p:AC}{o:Option (List Lad)}(ht:H'.t=H.t)(hn:H'.nx=H.nx)(h:RE H p o):RE H' p o:=by
 obtain⟨t,nx,l⟩:=H;obtain⟨t',nx',l'⟩:=H';cases ht;cases hn
 cases o<;>exact h
def PF(H:Hp)(v:AC)(ls:List Lad)(hl:gH H v ls):
  Con E2 6 [.one v] H (λ_=>False) λr H'=>∃p q,r=.tup [(false,[p]),(false,[q])]/\cM H' p (bkO ls)/\RE H' q (bkO ls)/\(bkO ls=none->p=.o .nilP):=by
 refine Con.qw (λH=>gH H v ls) hl λH hl=>?_;refine C1.jf 20 [.tmp 2,.tmp 3] Tryz.func6 λtm h0=>?_;refine qW aw ?_;refine qG (zDd aw h0 KZ) λK hK=>?_;refine WE.con (Jm H v ls hl) λw H1 g1⟨p,hw,hp1,j6⟩=>?_;subst hw;refine qT ?_;apply hK;refine qG (zDd aw h0 Wp) λK hK=>?_;refine WE.con (UU H1 v ls (hl.gr g1)) λw H2 g2⟨q,hw,P6,q6⟩=>?_;subst hw;refine qT ?_;apply hK;refine qV ?_;refine⟨_,_,bC p q (.inr rfl) rfl qp qp,g1.gr g2,λ_=>⟨p,q,rfl,?_,?_,?_⟩⟩
 ·refine cM.same (H:=H2) rfl rfl ?_;unfold bkO;by_cases hc:oP ls=0
  ·rw[ad hc];exact(hp1 hc).gr g2
  rw[ab hc];exact .inl (j6 hc)
 ·refine RE.same (H:=H2) rfl rfl ?_;unfold bkO;by_cases hc:oP ls=0
  ·rw[ad hc];exact P6 hc
  rw[ab hc];exact q6 hc
 unfold bkO;by_cases hc:oP ls=0
 ·rw[ad hc];intro h;cases h
 exactλ_=>j6 hc
open Go Go.Eng Go.ChangeShapes Go.WideShapes
abbrev YT:=lM Mo (Ly .i64)
abbrev Gt:=Gg prog 133 2 YT
abbrev aaU:=lM Mo Gt
abbrev NZ:=Gg prog 51 2 aaU
def Dz:kU Gt:=sn (fC ib jx)
def UH{W:World}:Opn prog W 2 YT 133:=fU Tryz.underlying133 ae rfl (eh (vE Tryz.underlying9) ib (jJ (vD Tryz.underlying3)))
def QI{W:World}(hB:sQ W):Opn prog W 1 Gt 49:=kR Tryz.underlying49 ae aE (fC ib jx) hB UH
def XF{W:World}(hB:sQ W):Opn prog W 2 aaU 51:=fU Tryz.underlying51 ae rfl (eh (vE Tryz.underlying9) ib (jJ (QI hB)))
def UE{W:World}(hB:sQ W):Opn prog W 1 NZ 22:=kR Tryz.underlying22 ae aE (fC ib Dz) hB (XF hB)
def HJ:prog.bytesOf 51=40:=ae
def VK{B:Nat}{H:Hp}{c:List AC}{us:List Pr}(h:Gt B H c us):∃u,c=[u]/\SlP H u us:=by obtain⟨u,rfl,⟨css,h1,h2⟩,_⟩:=h;refine⟨u,rfl,?_⟩;have:=yh (f:=prC) (h2.mono λc x⟨_,c1,c2,e,a,b⟩=>by rw[e,a.1,b.1];rfl);rw[this]at h1;exact h1
def Xf{B:Nat}{H:Hp}{u:AC}{ls:List Lad}(h:NZ B H [u] ls):gH H u ls/\ls.length*40<=B:=by
 obtain⟨u,e,⟨css,h1,h2⟩,h3⟩:=h;cases e
 refine⟨⟨css,h1,h2.mono λc x⟨hl,c1,c2,e,a,b⟩=>⟨hl,?_⟩⟩,by rwa [HJ]at h3⟩;obtain⟨u,rfl,hu⟩:=VK b;exact⟨u,by rw[e,a.1];rfl,hu⟩
open Go.ChangeShapes Go.WideShapes Go.ChangeAt Go.RowKit Go.Eng
def tj{H:Type}{enc:TypeId×Value->H}{P:Program}(hl:laidOutB P=true){W W':World}(hb:Below W.heap.size W W'){sp:Nat->Bool}:∀{ts:List TypeId}{vs:List Value}{ds:List (DataW H)}{ps:List MemPlace},(∀t∈ts,P.readableRec t=true/\t<P.types.size) ->
  DataW.TrodAll enc P W 0 (λ_=>true) true ts vs ds ps->(∀p∈ps,p.block<W.heap.size)->(∀p∈ps,sp p.block=true)->DataW.TrodAll enc P W' 0 sp true ts vs ds ps
 |[],vs,ds,ps,_,h,_,_=>by obtain⟨rfl,rfl,rfl⟩:=trodAll_nil h;exact trodAll_mk0
 |t::ts,vs,ds,ps,hr,h,D0,j8=>by obtain⟨v,vs1,d,ds1,a,b,rfl,rfl,rfl,h1,h2⟩:=trodAll_cons h;refine⟨a,b,?_,tj hl hb (λt ht=>hr t (aU _ ht)) h2 (λp hp=>D0 p (dM _ hp)) (λp hp=>j8 p (dM _ hp)),rfl⟩;exact WideElems.Trod_stays hl (hr t (bh ..)).1 (hr t (bh ..)).2 h1 (λx hx=>hb.same (D0 x (ef _ hx))) (λx hx=>j8 x (ef _ hx))
def Tryz.laidOut:laidOutB prog=true:=ae
def JM:reachBytes<=140737488355328:=aE
def wT:loadT prog 26=some (true,2):=ae
def er:bK prog 26 0=some (0,23,1):=ae
def jG:bK prog 26 1=some (1,24,1):=ae
def iO:loadT prog 23=some (false,1):=ae
def lj:bV prog 23=some (58,5):=ae
def lD:kI prog 23=some 1:=ae
def Fy:loadT prog 58=some (true,5):=ae
def Gj:cD prog 58=some 5:=ae
def GL:(ba prog 58).map (λz=>(ofValue z).cells)=some [.i .i64 0,.o (.str []),.o (.str []),.o .nilS,.o .nilS]:=ae
def nJ:bK prog 58 0=some (0,3,1):=ae
def CQ:bK prog 58 1=some (1,9,1):=ae
def nK:bK prog 58 2=some (2,9,1):=ae
def Qa:bK prog 58 3=some (3,56,2):=ae
def qK:loadT prog 24=some (false,1):=ae
def Am:bV prog 24=some (82,2):=ae
def qM:kI prog 24=some 1:=ae
def FA:loadT prog 82=some (true,2):=ae
def Gl:cD prog 82=some 2:=ae
def GN:(ba prog 82).map (λz=>(ofValue z).cells)=some [.i .i64 0,.o .nilS]:=ae
def iF:bK prog 82 0=some (0,3,1):=ae
def nM:bK prog 82 1=some (1,27,1):=ae
def ZN:loadT prog 56=some (true,2):=ae
def jF:bK prog 56 0=some (0,54,1):=ae
def qh:bK prog 56 1=some (1,54,1):=ae
def kH:loadT prog 54=some (false,1):=ae
def uL:bV prog 54=some (209,3):=ae
def iP:kI prog 54=some 1:=ae
def oG:loadT prog 209=some (true,3):=ae
def Mq:cD prog 209=some 3:=ae
def GM:(ba prog 209).map (λz=>(ofValue z).cells)=some [.i .i64 0,.o (.str []),.b false]:=ae
def Au:bK prog 209 0=some (0,3,1):=ae
def Av:bK prog 209 1=some (1,9,1):=ae
def Aw:bK prog 209 2=some (2,4,1):=ae
def ZV:Nat->Option (Nat×Nat):=λi=>(#[(0,1),(1,1),(2,1)]:Array (Nat×Nat))[i]?
def ZW:iR prog 209=some ZV:=ae
def nF:bV prog 232=some (4,1):=ae
def Ug:kI prog 232=some 1:=ae
def Zy:eqK prog 209=some [.i,.s,.b]:=ae
def zM:aq prog 178=true:=ae
def Pu:aq prog 155=true:=ae
def tb:aq prog 168=true:=ae
def Hu:aq prog 141=true:=ae
abbrev Gp:=Int×List UInt8×Bool
def gpC(x:Gp):List AC:=[.i .i64 x.1,.o (.str x.2.1),.b x.2.2]
def iG(x:Gp):gpC x=[.i .i64 x.1,.o (.str x.2.1),.b x.2.2]:=by unfold gpC;rfl
def WW(x:Gp):(gpC x).length=3:=rfl
def jA(H:Hp)(v:AC)(l:List Gp):Prop:=SlC H v 3 l.length (l.flatMap gpC)
def jA.gr{H H':Hp}{v:AC}{l:List Gp}(h:jA H v l)(hg:Gr H H'):jA H' v l:=SlC.gr h hg
def jA.len{H:Hp}{v:AC}{l:List Gp}(h:jA H v l):eo H 1 (.one v)=.val (.one (.i .i64 (l.length:Int))) H:=SlC.len h
def jA.lt{H:Hp}{v:AC}{l:List Gp}(h:jA H v l):ltV (.one v) H.nx:=sj h
def jA.nil{H:Hp}:jA H (.o .nilS) []:=⟨by simp,.inl ⟨rfl,rfl⟩⟩
structure GpAt(cells:List AC)(o:Nat)(x:Gp):Prop where
 all:(cells.drop o).take 3=gpC x
 le:o+3<=cells.length
 le1:o+1<=cells.length
 le2:o+1+1<=cells.length
 le3:o+2+1<=cells.length
 f1:(cells.drop o).headD (.b false)=.i .i64 x.1
 f2:(cells.drop (o+1)).headD (.b false)=.o (.str x.2.1)
 f3:(cells.drop (o+2)).headD (.b false)=.b x.2.2
def jA.open{H:Hp}{v:AC}{l:List Gp}(h:jA H v l)(hn:0<l.length):∃id g off cells,v=.o (.sl id g off l.length 3)/\id<H.nx/\rowOf (H.get id) g=some cells/\∀(i:Nat)(x:Gp),l[i]?=some x->GpAt cells (off+i*3) x:=by
 obtain⟨id,g,off,h1,h2,hr⟩:=SlC.pos h hn;have T3:=hr;obtain⟨cells,h3,h6,h7⟩:=hr;refine⟨id,g,off,cells,h1,h2,h3,λi x hx=>?_⟩;obtain⟨cells',k3,k6,k7⟩:=Rd.at (c:=gpC) WW T3 hx;rw[h3]at k3;cases k3
 obtain⟨a,b,c⟩:=Yz k7;exact⟨k7,k6,aa,aa,aa,a,b,c⟩
def BU(x:Gp):Bool:=x.1==0&&(x.2.1==[]&&(x.2.2==false&&true))
def HF(l:List Gp):Bool:=l.any λx=>BU x||x.2.2
def uU(H:Hp)(x:Gp):Con E2 178 [.agg (gpC x)] H (λ_=>False) λr _=>r=.one (.b (BU x)):=by
 refine Con.nO λH=>?_;refine C1.jf 6 [.tmp 2] Tryz.func178 λtm h0=>?_;repeat' first|refine R1.ret ?_|refine R1.exit ?_|refine R1.skip ?_|refine R1.Bu ?_|refine R1.tT ?_|refine R1.aM ?_|refine R1.cq ?_|refine R1.oU ?_|((first|refine R1.Lk λK hK=>?_|refine R1.wY λK hK=>?_|refine R1.Ll ae λK hK=>?_|refine R1.JR ae λK hK=>?_);simp only[qB,bc,Nat.reduceLT,Nat.reduceEqDiff,Nat.reduceLeDiff,reduceIte,Nat.reduceAdd,Nat.reduceSub,Nat.reduceMul,Int.reduceLT,Int.reduceLE,Int.reduceBEq,aw,h0,gpC,oG,GM,ZW,QQ Zy,EG,EH,EF,wA];apply hK;clear hK K)
 exact⟨_,_,au (.b (BU x)) (.inr rfl) rfl (by simp only[an,Nat.reduceEqDiff,reduceIte,BU,id_eq]),(Fr.refl _).new _,λ_=>rfl⟩
def Lc(H:Hp)(v:AC)(l:List Gp)(hv:jA H v l)(hL:l.length<=1000000):
  Con E2 155 [.one v] H (λ_=>False) λr _=>r=.one (.b (HF l)):=by
 refine Con.qw (λH=>jA H v l) hv λH hv=>?_;refine C1.jf 18 [.tmp 2] Tryz.func155 λtm h0=>?_;have fin:∀(b:Bool)(A:ag)(H3:Hp),slot A.tm 2=.one (.b b)->A.dfr=[]->Gr H H3->b=HF l->∃w H4,aH E2 [.tmp 2] (.ret,A,H3)=.ok [(w,H4)]/\Gr H H4/\∀_:List Nat,w=.one (.b (HF l)):=λb A H3 h1 h2 h3 h4=>⟨_,H3,au (.b b) (.inr rfl) h2 h1,h3,λ_=>by rw[h4]⟩;generalize E0:HF l=r0 at fin;refine qW (zDf aw h0 iP hv.len hv.lt) ?_;refine R1.bJ λK k1 k2 k3 k4=>?_;refine R1.loop (λk A H1=>∃i:Nat,k=l.length-i/\i<=l.length/\Gr H H1/\HF (l.drop i)=r0/\ko A.tm 5 6 v (.i .i64 (l.length:Int)) (gT A i (A.nt=18/\A.dfr=[]))) ?_ l.length
  ⟨0,rfl,Nat.zero_le _,Fr.refl _,E0,?_⟩
 ·clear h0 tm;rintro k A H1 ⟨i,rfl,hi,g1,hr,t5,t6,t7,A0,B0⟩;have b8:=hv.gr g1;refine qW (zDe aw t6 t7 A0) ?_;refine qE λKx Ky hx hy=>?_;refine kG (λhc=>hx ?_) (λhc=>hy ?_)
  ·clear hx hy Kx Ky;have D0:i<l.length:=aa;obtain⟨id,g,off,cells,rfl,hid,B2,Q0⟩:=b8.open aa;have ex:=aO D0;have S0:=List.drop_eq_getElem_cons D0;generalize l[i]=x at ex S0;have Y0:=Q0 i x ex;have N2:=bw i;rw[S0,HF,List.any_cons]at hr;refine qV ?_;refine R1.bJ λK2 q1 q2 q3 q4=>?_;refine qG (zDm aw t5 t7 A0 uL oG Mq GM (ixC D0) hid B2 (zDd Y0.all Y0.le iG)) λK hK=>?_;apply hK;refine R1.gen (λA3 H3=>Gr H1 H3/\H1.nx<H3.nx/\H3.get H1.nx=some (.arr (gpC x) 209 0 0)/\gU A3.tm 4 5 6 (.o (.ptr H1.nx 0 0 3)) (.o (.sl id g off l.length 3)) (.i .i64 (l.length:Int)) (gT A3 i (A3.nt=18/\A3.dfr=[])))
    ⟨((Fr.refl _).new _).mod _ (.inl (ai _)),?_⟩ ?_
   ·exact qZ (zDg t5 t6 t7 A0 B0 iG)
   clear t5 t6 t7 A0 B0 A;rintro A H3 ⟨g3,n3,rx,t4,t5,t6,t7,A0,B0⟩;refine qG (zDi aw t4 A0 rx n3 oG iG zM) λK hK=>?_;refine WE.con (uU H3 x) λw H4 g4 hw=>?_;subst hw;have rx:H4.get H1.nx=some (.arr (gpC x) 209 0 0):=by rw[g4.get _ n3 aF];exact rx
   have n4:H1.nx<H4.nx:=ay n3 g4.nx;have g4':=g1.gr (g3.gr g4);cases hgp:BU x with
   |true=>rw[hgp,Bool.true_or,Bool.true_or]at hr;refine qS (qA aw A0) ?_;apply hK;refine qY ?_;refine qW A0 ?_;exact q4 _ _ (k4 _ _ (fin true _ _ qp (qd B0) g4' hr))
   |false=>
    rw[hgp,Bool.false_or]at hr;refine qS (zDi aw A0 t4 rx n4 iG Aw sf) ?_;apply hK;cases hbr:x.2.2 with
    |true=>rw[hbr,Bool.true_or]at hr;refine qY ?_;refine qW A0 ?_;exact q4 _ _ (k4 _ _ (fin true _ _ qp (qd B0) g4' hr))
    |false=>
     rw[hbr,Bool.false_or]at hr;refine qY ?_;refine qW A0 ?_;refine q1 _ _ ?_;refine qW (zDd A0 t7 N2) ?_;refine⟨l.length-(i+1),aa,i+1,rfl,D0,g4',hr,?_,?_,?_,?_,?_⟩
     ·simp only[an,Nat.reduceEqDiff,reduceIte,t5]
     ·simp only[an,Nat.reduceEqDiff,reduceIte,t6]
     ·simp only[an,Nat.reduceEqDiff,reduceIte]
     ·simp only[bE,A0]
     simp only[aS,B0]
  clear hx hy Kx Ky;have U2:i=l.length:=aa;rw[U2,dD]at hr;refine qW A0 ?_;refine k2 _ _ ?_;refine qW A0 ?_;exact fin false _ _ qp (qd B0) g1 hr
 simp only[an,mE,Nat.reduceEqDiff,reduceIte,bE,aS,h0,and_self,true_and];exact⟨rfl,trivial⟩
def WX(l:List Gp)(s:List UInt8):Bool:=l.any λx=>x.2.1==s
end Go.Proofs.YtgepceljhelekaaGreat
