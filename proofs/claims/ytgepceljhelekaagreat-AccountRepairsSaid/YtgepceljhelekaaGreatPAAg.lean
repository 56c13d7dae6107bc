/- A part of the proof. -/
import Derived.Test.YtgepceljhelekaaGreatPAAf
import Derived.Test.YtgepceljhelekaaGreatPAAd
import Derived.KernelRfl
import Derived.Carry
set_option maxRecDepth 100000
set_option maxHeartbeats 64000000
set_option linter.all false
open Go.Proofs.Tryz (prog)
namespace Go.Proofs.YtgepceljhelekaaGreat
open Go Go.Eng
def bS:loadT prog 9=some (false,1):=ae
def GO:ly prog 9=some 0:=ae
def BG:rN prog 9=true:=ae
def bF:loadT prog 3=some (false,1):=ae
def Cx:cM prog 3=some 1:=ae
def mB:dB prog 3=some 8:=ae
def xS:(aW prog 3).map (λz=>(ofValue z).cells)=some [.i .i64 0]:=ae
def sH:∃z,aW prog 3=some z/\(ofValue z).cells.length=1:=by
 have h:=xS;cases hz:aW prog 3 with
 |none=>rw[hz]at h;cases h
 |some z=>rw[hz]at h;exact⟨z,rfl,by have:(ofValue z).cells=_:=eh h;rw[this];rfl⟩
def CI:aW prog 3=some (.int .i64 0):=ae
def oh:prog.underlying 3=some (.int .i64):=ae
def Tc:dE prog 3=4:=ae
def lW:loadT prog 4=some (false,1):=ae
def Qc:cM prog 4=some 1:=ae
def Yg:dB prog 4=some 1:=ae
def jO:aW prog 4=some (.bool false):=ae
def ZL:prog.underlying 4=some .bool:=ae
def vV:loadT prog 35=some (false,1):=ae
def jf:cM prog 35=some 1:=ae
def xd:(aW prog 35).map (λz=>(ofValue z).cells)=some [.i .i64 0]:=ae
def Io:dE prog 35=4:=ae
def vX:loadT prog 133=some (true,2):=ae
def tt:cM prog 133=some 2:=ae
def Oo:dB prog 133=some 24:=ae
def qg:(aW prog 133).map (λz=>(ofValue z).cells)=some [.o (.str []),.i .i64 0]:=ae
def Qr:∃z,aW prog 133=some z/\(ofValue z).cells.length=2:=by
 have h:=qg;cases hz:aW prog 133 with
 |none=>rw[hz]at h;cases h
 |some z=>rw[hz]at h;exact⟨z,rfl,by have:(ofValue z).cells=_:=eh h;rw[this];rfl⟩
def cV:bG prog 133 0=some (0,9,1):=ae
def dw:bG prog 133 1=some (1,3,1):=ae
def dG:loadT prog 49=some (false,1):=ae
def kO:cG prog 49=some (133,2):=ae
def fG:ly prog 49=some 1:=ae
def fW:loadT prog 51=some (true,2):=ae
def kr:cM prog 51=some 2:=ae
def Ma:dB prog 51=some 40:=ae
def gO:(aW prog 51).map (λz=>(ofValue z).cells)=some [.o (.str []),.o .nilS]:=ae
def ND:∃z,aW prog 51=some z/\(ofValue z).cells.length=2:=by
 have h:=gO;cases hz:aW prog 51 with
 |none=>rw[hz]at h;cases h
 |some z=>rw[hz]at h;exact⟨z,rfl,by have:(ofValue z).cells=_:=eh h;rw[this];rfl⟩
def kP:bG prog 51 0=some (0,9,1):=ae
def dF:bG prog 51 1=some (1,49,1):=ae
def ML:Nat->Option (Nat×Nat):=λi=>(#[(0,1),(1,1)]:Array (Nat×Nat))[i]?
def Cf:jm prog 51=some ML:=ae
def Kt:ML 0=some (0,1):=rfl
def Ku:ML 1=some (1,1):=rfl
def nH:loadT prog 22=some (false,1):=ae
def zX:cM prog 22=some 1:=ae
def gQ:cG prog 22=some (51,2):=ae
def pC:ly prog 22=some 1:=ae
def GL:loadT prog 150=some (false,1):=ae
def abw:cM prog 150=some 1:=ae
def abD:(aW prog 150).map (λz=>(ofValue z).cells)=some [.o .nilM]:=ae
def Vv:ly prog 150=some 2:=ae
def MD:kg prog 150=some (9,4):=ae
def Vb:bY prog 9=0:=ae
def BL:loadT prog 103=some (false,1):=ae
def ME:kg prog 103=some (9,3):=ae
def Vc:bY prog 9=0:=ae
def Td:dE prog 103=2:=ae
def Az:dE prog 31=0:=ae
def ZP:(aW prog 106).map (λz=>(ofValue z).cells)=some [.o .nilS,.o .nilM,.o .nilS,.o .nilS]:=ae
def xt:bG prog 106 0=some (0,22,1):=ae
def oP:bG prog 106 1=some (1,103,1):=ae
def Rc:bG prog 106 2=some (2,27,1):=ae
def Re:bG prog 106 3=some (3,104,1):=ae
def PF:Nat->Option (Nat×Nat):=λi=>(#[(0,1),(1,1),(2,1),(3,1)]:Array (Nat×Nat))[i]?
def Zu:jm prog 106=some PF:=ae
def RP:PF 1=some (1,1):=rfl
def jE:loadT prog 27=some (false,1):=ae
def Hz:cM prog 27=some 1:=ae
def Qo:(aW prog 27).map (λz=>(ofValue z).cells)=some [.o .nilS]:=ae
def dp:cG prog 27=some (3,1):=ae
def sY:ly prog 27=some 1:=ae
def NZ:dE prog 27=1:=ae
def Vl:loadT prog 104=some (false,1):=ae
def Xi:cM prog 104=some 1:=ae
def IW:cG prog 104=some (116,2):=ae
def Yh:dB prog 116=some 48:=ae
def Qp:(aW prog 116).map (λz=>(ofValue z).cells)=some [.o .nilS,.o .nilS]:=ae
def ZS:∃z,aW prog 116=some z/\(ofValue z).cells.length=2:=by
 have h:=Qp;cases hz:aW prog 116 with
 |none=>rw[hz]at h;cases h
 |some z=>rw[hz]at h;exact⟨z,rfl,by have:(ofValue z).cells=_:=eh h;rw[this];rfl⟩
def Zp:Nat->Option (Nat×Nat):=λi=>(#[(0,1),(1,1)]:Array (Nat×Nat))[i]?
def Zv:jm prog 116=some Zp:=ae
def aj:E2.P=prog:=rfl
def oI:ao prog 63=true:=ae
def TH:ao prog 11=true:=ae
def IB:ao prog 64=true:=ae
def DA:ao prog 115=true:=ae
def AE:ao prog 39=true:=ae
def vm:ao prog 62=true:=ae
def rK(s:List UInt8):E2.fJ 63 [.one (.o (.str s))]=some (.one (.b (nmB s))):=by show some (AV.one (.b (Ka s)))=_;rw[Kb]
def ZO:E2.fJ 11 []=some (.one (.b true)):=rfl
def Mq{A:ag}{k:Tmp}{c:AC}(h:slot A.tm k=.one c):A.tm.get k=some (.one c):=by
 unfold slot at h;cases hk:A.tm.get k with
 |none=>rw[hk]at h;cases h
 |some u=>rw[hk]at h;exact congrArg some h
def bP{E:Env}{s t:Tmp}{A:ag}{H:Hp}{e:au}(c d:AC)(he:e=.normal\/e=.ret)(hd:A.dfr=[])(hs:slot A.tm s=.one c)(ht:slot A.tm t=.one d):aK E [.tmp s,.tmp t] (e,A,H)=.ok [(.tup [(false,[c]),(false,[d])],H)]:=by
 have key:(aG (closeAll H A.dfr) (R.bad "marks") λh2=>aG (dq E.P [.tmp s,.tmp t] A.tm h2) (.bad "results") λl=>.ok [(gT l,h2)])=.ok [(.tup [(false,[c]),(false,[d])],H)]:=by
  rw[hd];have hr:dq E.P [.tmp s,.tmp t] A.tm H=some [(false,[c]),(false,[d])]:=by show aG (aG (A.tm.get s) none mS) none (λx=>aG (aG (aG (A.tm.get t) none mS) none λx=>aG (some []) none λl=>some (x::l)) none λl=>some (x::l))=_;rw[Mq hs,Mq ht];rfl
  show aG (dq E.P [.tmp s,.tmp t] A.tm H) (R.bad "results") (λl=>R.ok [(gT l,H)])=_
  rw[hr];rfl
 rcases he with rfl|rfl
 ·exact key
 exact key
def Con.xw{E:Env}{f:FuncId}{args:List AV}{H:Hp}{X:Nat->Prop}{Q:AV->Hp->Prop}(k:∀H':Hp,C1 E f args H' λv h'=>Fr X H' h'/\∀lg',Q v ⟨h'.t,h'.nx,lg'⟩)(hp:E.fJ f args=none:=by exact rfl)(hq:∀lg,E.eN f args ⟨H.t,H.nx,lg⟩=none:=by exactλ_=>rfl):Con E f args H X Q:=Con.of hp (λlg=>k _ ) hq
def Con.lT{E:Env}{f:FuncId}{args:List AV}{H:Hp}{X:Nat->Prop}{Q:AV->Hp->Prop}(P0:Hp->Prop)(h0:P0 H)(k:∀H':Hp,P0 H'->C1 E f args H' λv h'=>Fr X H' h'/\∀lg',Q v ⟨h'.t,h'.nx,lg'⟩)(l0:∀(lg:List Nat) (H:Hp),P0 H->P0 ⟨H.t,H.nx,lg⟩:=by exactλ_ _ h=>h)(hp:E.fJ f args=none:=by exact rfl)(hq:∀lg,E.eN f args ⟨H.t,H.nx,lg⟩=none:=by exactλ_=>rfl):Con E f args H X Q:=Con.of hp (λlg=>k _ (l0 lg _ h0)) hq
def Con.BB{E:Env}{f:FuncId}{args:List AV}{H:Hp}{X:Nat->Prop}{Q:AV->Hp->Prop}(P0:Hp->Prop)(h0:P0 H)(k:∀H':Hp,H'.nx=H.nx->P0 H'->C1 E f args H' λv h'=>Fr X H' h'/\∀lg',Q v ⟨h'.t,h'.nx,lg'⟩)(l0:∀(lg:List Nat) (H:Hp),P0 H->P0 ⟨H.t,H.nx,lg⟩:=by exactλ_ _ h=>h)(hp:E.fJ f args=none:=by exact rfl)(hq:∀lg,E.eN f args ⟨H.t,H.nx,lg⟩=none:=by exactλ_=>rfl):Con E f args H X Q:=Con.of hp (λlg=>k _ rfl (l0 lg _ h0)) hq
def Con.qw{E:Env}{f:FuncId}{args:List AV}{H:Hp}{X:Nat->Prop}{Q:AV->Hp->Prop}(P0:Hp->Prop)(h0:P0 H)(P1:Hp->Prop)(h1:P1 H)(k:∀H':Hp,P0 H'->P1 H'->C1 E f args H' λv h'=>Fr X H' h'/\∀lg',Q v ⟨h'.t,h'.nx,lg'⟩)(l0:∀(lg:List Nat) (H:Hp),P0 H->P0 ⟨H.t,H.nx,lg⟩:=by exactλ_ _ h=>h)(l1:∀(lg:List Nat) (H:Hp),P1 H->P1 ⟨H.t,H.nx,lg⟩:=by exactλ_ _ h=>h)(hp:E.fJ f args=none:=by exact rfl)(hq:∀lg,E.eN f args ⟨H.t,H.nx,lg⟩=none:=by exactλ_=>rfl):Con E f args H X Q:=Con.of hp (λlg=>k _ (l0 lg _ h0) (l1 lg _ h1)) hq
def Con.hdb2{E:Env}{f:FuncId}{args:List AV}{H:Hp}{X:Nat->Prop}{Q:AV->Hp->Prop}(P0:Hp->Prop)(h0:P0 H)(P1:Hp->Prop)(h1:P1 H)(k:∀H':Hp,H'.nx=H.nx->P0 H'->P1 H'->C1 E f args H' λv h'=>Fr X H' h'/\∀lg',Q v ⟨h'.t,h'.nx,lg'⟩)(l0:∀(lg:List Nat) (H:Hp),P0 H->P0 ⟨H.t,H.nx,lg⟩:=by exactλ_ _ h=>h)(l1:∀(lg:List Nat) (H:Hp),P1 H->P1 ⟨H.t,H.nx,lg⟩:=by exactλ_ _ h=>h)(hp:E.fJ f args=none:=by exact rfl)(hq:∀lg,E.eN f args ⟨H.t,H.nx,lg⟩=none:=by exactλ_=>rfl):Con E f args H X Q:=Con.of hp (λlg=>k _ rfl (l0 lg _ h0) (l1 lg _ h1)) hq
def Con.ace{E:Env}{f:FuncId}{args:List AV}{H:Hp}{X:Nat->Prop}{Q:AV->Hp->Prop}(P0:Hp->Prop)(h0:P0 H)(P1:Hp->Prop)(h1:P1 H)(P2:Hp->Prop)(h2:P2 H)(k:∀H':Hp,P0 H'->P1 H'->P2 H'->C1 E f args H' λv h'=>Fr X H' h'/\∀lg',Q v ⟨h'.t,h'.nx,lg'⟩)(l0:∀(lg:List Nat) (H:Hp),P0 H->P0 ⟨H.t,H.nx,lg⟩:=by exactλ_ _ h=>h)(l1:∀(lg:List Nat) (H:Hp),P1 H->P1 ⟨H.t,H.nx,lg⟩:=by exactλ_ _ h=>h)(l2:∀(lg:List Nat) (H:Hp),P2 H->P2 ⟨H.t,H.nx,lg⟩:=by exactλ_ _ h=>h)(hp:E.fJ f args=none:=by exact rfl)(hq:∀lg,E.eN f args ⟨H.t,H.nx,lg⟩=none:=by exactλ_=>rfl):Con E f args H X Q:=Con.of hp (λlg=>k _ (l0 lg _ h0) (l1 lg _ h1) (l2 lg _ h2)) hq
def Con.hda6{E:Env}{f:FuncId}{args:List AV}{H:Hp}{X:Nat->Prop}{Q:AV->Hp->Prop}(P0:Hp->Prop)(h0:P0 H)(P1:Hp->Prop)(h1:P1 H)(P2:Hp->Prop)(h2:P2 H)(P3:Hp->Prop)(h3:P3 H)(P4:Hp->Prop)(h4:P4 H)(P5:Hp->Prop)(h5:P5 H)(k:∀H':Hp,P0 H'->P1 H'->P2 H'->P3 H'->P4 H'->P5 H'->C1 E f args H' λv h'=>Fr X H' h'/\∀lg',Q v ⟨h'.t,h'.nx,lg'⟩)(l0:∀(lg:List Nat) (H:Hp),P0 H->P0 ⟨H.t,H.nx,lg⟩:=by exactλ_ _ h=>h)(l1:∀(lg:List Nat) (H:Hp),P1 H->P1 ⟨H.t,H.nx,lg⟩:=by exactλ_ _ h=>h)(l2:∀(lg:List Nat) (H:Hp),P2 H->P2 ⟨H.t,H.nx,lg⟩:=by exactλ_ _ h=>h)(l3:∀(lg:List Nat) (H:Hp),P3 H->P3 ⟨H.t,H.nx,lg⟩:=by exactλ_ _ h=>h)(l4:∀(lg:List Nat) (H:Hp),P4 H->P4 ⟨H.t,H.nx,lg⟩:=by exactλ_ _ h=>h)(l5:∀(lg:List Nat) (H:Hp),P5 H->P5 ⟨H.t,H.nx,lg⟩:=by exactλ_ _ h=>h)(hp:E.fJ f args=none:=by exact rfl)(hq:∀lg,E.eN f args ⟨H.t,H.nx,lg⟩=none:=by exactλ_=>rfl):Con E f args H X Q:=Con.of hp (λlg=>k _ (l0 lg _ h0) (l1 lg _ h1) (l2 lg _ h2) (l3 lg _ h3) (l4 lg _ h4) (l5 lg _ h5)) hq
def Con.hdb6{E:Env}{f:FuncId}{args:List AV}{H:Hp}{X:Nat->Prop}{Q:AV->Hp->Prop}(P0:Hp->Prop)(h0:P0 H)(P1:Hp->Prop)(h1:P1 H)(P2:Hp->Prop)(h2:P2 H)(P3:Hp->Prop)(h3:P3 H)(P4:Hp->Prop)(h4:P4 H)(P5:Hp->Prop)(h5:P5 H)(k:∀H':Hp,H'.nx=H.nx->P0 H'->P1 H'->P2 H'->P3 H'->P4 H'->P5 H'->C1 E f args H' λv h'=>Fr X H' h'/\∀lg',Q v ⟨h'.t,h'.nx,lg'⟩)(l0:∀(lg:List Nat) (H:Hp),P0 H->P0 ⟨H.t,H.nx,lg⟩:=by exactλ_ _ h=>h)(l1:∀(lg:List Nat) (H:Hp),P1 H->P1 ⟨H.t,H.nx,lg⟩:=by exactλ_ _ h=>h)(l2:∀(lg:List Nat) (H:Hp),P2 H->P2 ⟨H.t,H.nx,lg⟩:=by exactλ_ _ h=>h)(l3:∀(lg:List Nat) (H:Hp),P3 H->P3 ⟨H.t,H.nx,lg⟩:=by exactλ_ _ h=>h)(l4:∀(lg:List Nat) (H:Hp),P4 H->P4 ⟨H.t,H.nx,lg⟩:=by exactλ_ _ h=>h)(l5:∀(lg:List Nat) (H:Hp),P5 H->P5 ⟨H.t,H.nx,lg⟩:=by exactλ_ _ h=>h)(hp:E.fJ f args=none:=by exact rfl)(hq:∀lg,E.eN f args ⟨H.t,H.nx,lg⟩=none:=by exactλ_=>rfl):Con E f args H X Q:=Con.of hp (λlg=>k _ rfl (l0 lg _ h0) (l1 lg _ h1) (l2 lg _ h2) (l3 lg _ h3) (l4 lg _ h4) (l5 lg _ h5)) hq
def C1.jR{E:Env}{H:Hp}{f:FuncId}{fn:Func}{c:Code}{Q:AV->Hp->Prop}{a0:AV}(nt:Nat)(res:List ResultVar)(hf:E.P.funcs[f]?=some fn)(h:∀tm,slot tm 0=a0->R1 E none c ⟨tm,nt,[]⟩ H λe A' H'=>∃v H2,aK E res (e,A',H')=.ok [(v,H2)]/\Q v H2)(hb:fn.body=some c:=by exact rfl)(z0:fn.ntmps=nt:=by exact rfl)(V5:fn.results.toList=res:=by exact rfl)(hn:Nat.ble 1 nt=true:=by exact rfl)(W3:Nat.ble nt 1048576=true:=by exact rfl):C1 E f [a0] H Q:=C1.body hf hb z0 V5 hn W3 λtm g=>h tm (g 0 _ rfl)
def C1.fD{E:Env}{H:Hp}{f:FuncId}{fn:Func}{c:Code}{Q:AV->Hp->Prop}{a0 a1:AV}(nt:Nat)(res:List ResultVar)(hf:E.P.funcs[f]?=some fn)(h:∀tm,slot tm 0=a0->slot tm 1=a1->R1 E none c ⟨tm,nt,[]⟩ H λe A' H'=>∃v H2,aK E res (e,A',H')=.ok [(v,H2)]/\Q v H2)(hb:fn.body=some c:=by exact rfl)(z0:fn.ntmps=nt:=by exact rfl)(V5:fn.results.toList=res:=by exact rfl)(hn:Nat.ble 2 nt=true:=by exact rfl)(W3:Nat.ble nt 1048576=true:=by exact rfl):C1 E f [a0,a1] H Q:=C1.body hf hb z0 V5 hn W3 λtm g=>h tm (g 0 _ rfl) (g 1 _ rfl)
def C1.yV{E:Env}{H:Hp}{f:FuncId}{fn:Func}{c:Code}{Q:AV->Hp->Prop}{a0 a1 a2:AV}(nt:Nat)(res:List ResultVar)(hf:E.P.funcs[f]?=some fn)(h:∀tm,slot tm 0=a0->slot tm 1=a1->slot tm 2=a2->R1 E none c ⟨tm,nt,[]⟩ H λe A' H'=>∃v H2,aK E res (e,A',H')=.ok [(v,H2)]/\Q v H2)(hb:fn.body=some c:=by exact rfl)(z0:fn.ntmps=nt:=by exact rfl)(V5:fn.results.toList=res:=by exact rfl)(hn:Nat.ble 3 nt=true:=by exact rfl)(W3:Nat.ble nt 1048576=true:=by exact rfl):C1 E f [a0,a1,a2] H Q:=C1.body hf hb z0 V5 hn W3 λtm g=>h tm (g 0 _ rfl) (g 1 _ rfl) (g 2 _ rfl)
def C1.QJ{E:Env}{H:Hp}{f:FuncId}{fn:Func}{c:Code}{Q:AV->Hp->Prop}{a0 a1 a2 a3:AV}(nt:Nat)(res:List ResultVar)(hf:E.P.funcs[f]?=some fn)(h:∀tm,slot tm 0=a0->slot tm 1=a1->slot tm 2=a2->slot tm 3=a3->R1 E none c ⟨tm,nt,[]⟩ H λe A' H'=>∃v H2,aK E res (e,A',H')=.ok [(v,H2)]/\Q v H2)(hb:fn.body=some c:=by exact rfl)(z0:fn.ntmps=nt:=by exact rfl)(V5:fn.results.toList=res:=by exact rfl)(hn:Nat.ble 4 nt=true:=by exact rfl)(W3:Nat.ble nt 1048576=true:=by exact rfl):C1 E f [a0,a1,a2,a3] H Q:=C1.body hf hb z0 V5 hn W3 λtm g=>h tm (g 0 _ rfl) (g 1 _ rfl) (g 2 _ rfl) (g 3 _ rfl)
def C1.QK{E:Env}{H:Hp}{f:FuncId}{fn:Func}{c:Code}{Q:AV->Hp->Prop}{a0 a1 a2 a3 a4:AV}(nt:Nat)(res:List ResultVar)(hf:E.P.funcs[f]?=some fn)(h:∀tm,slot tm 0=a0->slot tm 1=a1->slot tm 2=a2->slot tm 3=a3->slot tm 4=a4->R1 E none c ⟨tm,nt,[]⟩ H λe A' H'=>∃v H2,aK E res (e,A',H')=.ok [(v,H2)]/\Q v H2)(hb:fn.body=some c:=by exact rfl)(z0:fn.ntmps=nt:=by exact rfl)(V5:fn.results.toList=res:=by exact rfl)(hn:Nat.ble 5 nt=true:=by exact rfl)(W3:Nat.ble nt 1048576=true:=by exact rfl):C1 E f [a0,a1,a2,a3,a4] H Q:=C1.body hf hb z0 V5 hn W3 λtm g=>h tm (g 0 _ rfl) (g 1 _ rfl) (g 2 _ rfl) (g 3 _ rfl) (g 4 _ rfl)
def C1.bdy7{E:Env}{H:Hp}{f:FuncId}{fn:Func}{c:Code}{Q:AV->Hp->Prop}{a0 a1 a2 a3 a4 a5 a6:AV}(nt:Nat)(res:List ResultVar)(hf:E.P.funcs[f]?=some fn)(h:∀tm,slot tm 0=a0->slot tm 1=a1->slot tm 2=a2->slot tm 3=a3->slot tm 4=a4->slot tm 5=a5->slot tm 6=a6->R1 E none c ⟨tm,nt,[]⟩ H λe A' H'=>∃v H2,aK E res (e,A',H')=.ok [(v,H2)]/\Q v H2)(hb:fn.body=some c:=by exact rfl)(z0:fn.ntmps=nt:=by exact rfl)(V5:fn.results.toList=res:=by exact rfl)(hn:Nat.ble 7 nt=true:=by exact rfl)(W3:Nat.ble nt 1048576=true:=by exact rfl):C1 E f [a0,a1,a2,a3,a4,a5,a6] H Q:=C1.body hf hb z0 V5 hn W3 λtm g=>h tm (g 0 _ rfl) (g 1 _ rfl) (g 2 _ rfl) (g 3 _ rfl) (g 4 _ rfl) (g 5 _ rfl) (g 6 _ rfl)
def C1.bdy8{E:Env}{H:Hp}{f:FuncId}{fn:Func}{c:Code}{Q:AV->Hp->Prop}{a0 a1 a2 a3 a4 a5 a6 a7:AV}(nt:Nat)(res:List ResultVar)(hf:E.P.funcs[f]?=some fn)(h:∀tm,slot tm 0=a0->slot tm 1=a1->slot tm 2=a2->slot tm 3=a3->slot tm 4=a4->slot tm 5=a5->slot tm 6=a6->slot tm 7=a7->R1 E none c ⟨tm,nt,[]⟩ H λe A' H'=>∃v H2,aK E res (e,A',H')=.ok [(v,H2)]/\Q v H2)(hb:fn.body=some c:=by exact rfl)(z0:fn.ntmps=nt:=by exact rfl)(V5:fn.results.toList=res:=by exact rfl)(hn:Nat.ble 8 nt=true:=by exact rfl)(W3:Nat.ble nt 1048576=true:=by exact rfl):C1 E f [a0,a1,a2,a3,a4,a5,a6,a7] H Q:=C1.body hf hb z0 V5 hn W3 λtm g=>h tm (g 0 _ rfl) (g 1 _ rfl) (g 2 _ rfl) (g 3 _ rfl) (g 4 _ rfl) (g 5 _ rfl) (g 6 _ rfl) (g 7 _ rfl)
def rC(E:Env)(H:Hp)(k:Nat)(s:Int):∀(e:Int)(A:ag)(H3:Hp),slot A.tm k=.one (.i .i64 e)->A.dfr=[]->Gr H H3->e=s->∃w H4,aK E [.tmp k] (.ret,A,H3)=.ok [(w,H4)]/\Gr H H4/\∀_:List Nat,w=.one (.i .i64 s):=λe A H3 h1 h2 h3 h4=>⟨_,H3,aw (.i .i64 e) (.inr rfl) h2 h1,h3,λ_=>by rw[h4]⟩
def CW(E:Env)(H:Hp)(k:Nat)(s:Bool):∀(e:Bool)(A:ag)(H3:Hp),slot A.tm k=.one (.b e)->A.dfr=[]->Gr H H3->e=s->∃w H4,aK E [.tmp k] (.ret,A,H3)=.ok [(w,H4)]/\Gr H H4/\∀_:List Nat,w=.one (.b s):=λe A H3 h1 h2 h3 h4=>⟨_,H3,aw (.b e) (.inr rfl) h2 h1,h3,λ_=>by rw[h4]⟩
def finF{α:Type}(E:Env)(R:Hp->AC->α->Prop)(H:Hp)(k l:Nat)(r:α×Int)(hR:∀(H:Hp) c x lg,R H c x->R ⟨H.t,H.nx,lg⟩ c x:=by exactλ_ _ _ _ h=>h):∀(c:AC)(e:Int)(A:ag)(H3:Hp),slot A.tm k=.one c->slot A.tm l=.one (.i .i64 e)->A.dfr=[]->Gr H H3->R H3 c r.1/\e=r.2/\(∀id∈(AV.one c).ids,H.nx<=id)->∃w H4,aK E [.tmp k,.tmp l] (.ret,A,H3)=.ok [(w,H4)]/\Gr H H4/\∀lg':List Nat,∃c,w=.tup [(false,[c]),(false,[.i .i64 r.2])]/\R ⟨H4.t,H4.nx,lg'⟩ c r.1/\∀id∈(AV.one c).ids,H.nx<=id:=λc e A H3 h1 h2 h3 h4 h5=>⟨_,H3,bP c (.i .i64 e) (.inr rfl) h3 h1 h2,h4,λ_=>⟨c,by rw[h5.2.1],hR _ _ _ _ h5.1,h5.2.2⟩⟩
def finS{α:Type}(E:Env)(R:Hp->AC->α->Prop)(H:Hp)(k l:Nat)(r:α×Int)(hR:∀(H:Hp) c x lg,R H c x->R ⟨H.t,H.nx,lg⟩ c x:=by exactλ_ _ _ _ h=>h):∀(c:AC)(e:Int)(A:ag)(H3:Hp),slot A.tm k=.one c->slot A.tm l=.one (.i .i64 e)->A.dfr=[]->Gr H H3->R H3 c r.1/\e=r.2->∃w H4,aK E [.tmp k,.tmp l] (.ret,A,H3)=.ok [(w,H4)]/\Gr H H4/\∀lg':List Nat,∃c,w=.tup [(false,[c]),(false,[.i .i64 r.2])]/\R ⟨H4.t,H4.nx,lg'⟩ c r.1:=λc e A H3 h1 h2 h3 h4 h5=>⟨_,H3,bP c (.i .i64 e) (.inr rfl) h3 h1 h2,h4,λ_=>⟨c,by rw[h5.2],hR _ _ _ _ h5.1⟩⟩
def bD{H H':Hp}{i:Nat}{o:Option aX}(g:Gr H H')(m:i<H.nx)(r:H.get i=o):H'.get i=o/\i<H'.nx:=⟨(g.get _ m aE).trans r,ax m g.nx⟩
def eo{p q:Prop}(f:q)(e:q->p:=by intro f;repeat' (first|(simp only[ak,lj,Nat.reduceEqDiff,reduceIte,bq,aM,f];first|done|rfl)|refine⟨?_,?_⟩)):p:=e f
def ay{p:Prop}(h:p):Hd p:=h
def cS{E:Env}{A:ag}{H:Hp}{e:au}(he:e=.normal\/e=.ret)(hd:A.dfr=[]):aK E [] (e,A,H)=.ok [(.tup [],H)]:=by
 have key:(aG (closeAll H A.dfr) (R.bad "marks") λh2=>aG (dq E.P [] A.tm h2) (.bad "results") λl=>.ok [(gT l,h2)])=.ok [(.tup [],H)]:=by rw[hd];rfl
 rcases he with rfl|rfl
 ·exact key
 exact key
def vt{E:Env}{s:Tmp}{t:TypeId}{A:ag}{H H2:Hp}{e:au}{id g off lim:Nat}{cells:List AC}{c:AC}(ht:loadT E.P t=some (false,1))(he:e=.normal\/e=.ret)(hd:closeAll H A.dfr=some H2)(hs:slot A.tm s=.one (.o (.ptr id g off lim)))
  (hg:rowOf (H2.get id) g=some cells) (hl:1<=lim) (ho:off+1<=cells.length) (hc:(cells.drop off).headD (.b false)=c):aK E [.cell s t] (e,A,H)=.ok [(.one c,H2)]:=by
 have key:(aG (closeAll H A.dfr) (R.bad "marks") λh2=>aG (dq E.P [.cell s t] A.tm h2) (.bad "results") λl=>.ok [(gT l,h2)])=.ok [(.one c,H2)]:=by
  rw[hd];have hr:dq E.P [.cell s t] A.tm H2=some [(false,[c])]:=by
   have e1:ph E.P (.cell s t) A.tm H2=some (false,[c]):=by
    have e0:ph E.P (.cell s t)=match loadT E.P t with|some p=>λtm h=>aG (tm.get s) none λv=>ah.rec (motive:=λ_=>Option (Bool×List AC)) (λv _=>mS v) (λ_=>none) (λ_ _=>none) (λ_ _=>none) (λ_=>none) (eu h p.1 p.2 v)|none=>λ_ _=>none:=rfl
    rw[e0,ht];show aG (A.tm.get s) none (λv=>ah.rec (motive:=λ_=>Option (Bool×List AC)) (λv _=>mS v) (λ_=>none) (λ_ _=>none) (λ_ _=>none) (λ_=>none) (eu H2 false 1 v))=_;rw[Mq hs];show ah.rec (motive:=λ_=>Option (Bool×List AC)) (λv _=>mS v) (λ_=>none) (λ_ _=>none) (λ_ _=>none) (λ_=>none) (eu H2 false 1 (.one (.o (.ptr id g off lim))))=_;rw[jW,hg,zv hl ho,hc];rfl
   show aG (ph E.P (.cell s t) A.tm H2) none (λx=>aG (some []) none λl=>some (x::l))=_;rw[e1];rfl
  show aG (dq E.P [.cell s t] A.tm H2) (R.bad "results") (λl=>R.ok [(gT l,H2)])=_
  rw[hr];rfl
 rcases he with rfl|rfl
 ·exact key
 exact key
def iF{H:Hp}{d:Nat}(h:H.get d=some (.oth (.dfr true))):closeAll H [d]=some (H.mod d (.oth (.dfr false))):=by show(match H.get d with|some (.oth (.dfr true))=>closeAll (H.mod d (.oth (.dfr false))) []|_=>none)=_;rw[h];rfl
def SlC.fr{H H':Hp}{v:AC}{sz n:Nat}{c:List AC}{X:Nat->Prop}(h:SlC H v sz n c)(hf:Fr X H H')(hx:∀id∈(AV.one v).ids,¬X id):SlC H' v sz n c:=by refine⟨h.1,h.2.imp id ?_⟩;rintro⟨id,g,off,h1,h2,h3⟩;subst h1;exact⟨id,g,off,rfl,ax h2 hf.nx,h3.fI (hf.get _ h2 (hx id (List.mem_singleton.2 rfl)))⟩
abbrev Pr:=List UInt8×Int
def prC(x:Pr):List AC:=[.o (.str x.1),.i .i64 x.2]
def gS(x:Pr):prC x=[.o (.str x.1),.i .i64 x.2]:=by unfold prC;rfl
def Zs(x:Pr):(prC x).length=2:=rfl
def SlP(H:Hp)(v:AC)(l:List Pr):Prop:=SlC H v 2 l.length (l.flatMap prC)
def SlP.gr{H H':Hp}{v:AC}{l:List Pr}(h:SlP H v l)(hg:Gr H H'):SlP H' v l:=SlC.gr h hg
def SlP.len{H:Hp}{v:AC}{l:List Pr}(h:SlP H v l):eD H 1 (.one v)=.val (.one (.i .i64 (l.length:Int))) H:=SlC.len h
def SlP.lt{H:Hp}{v:AC}{l:List Pr}(h:SlP H v l):ltV (.one v) H.nx:=pD h
def SlP.nil{H:Hp}:SlP H (.o .nilS) []:=⟨by simp,.inl ⟨rfl,rfl⟩⟩
structure abQ(cells:List AC)(o:Nat)(x:Pr):Prop where
 all:(cells.drop o).take 2=prC x
 le:o+2<=cells.length
 le1:o+1<=cells.length
 le2:o+1+1<=cells.length
 fst:(cells.drop o).headD (.b false)=.o (.str x.1)
 snd:(cells.drop (o+1)).headD (.b false)=.i .i64 x.2
def Zr{cells:List AC}{o:Nat}{x:Pr}(h:(cells.drop o).take 2=prC x)(hl:o+2<=cells.length):abQ cells o x:=by
 refine⟨h,hl,aa,aa,?_,?_⟩
 ·cases hd:cells.drop o with
  |nil=>have:=congrArg List.length hd;simp at this;omega
  |cons a r=>
   rw[hd]at h;cases r with
   |nil=>cases h
   |cons b r=>cases h;rfl
 rw[<-js];cases hd:cells.drop o with
 |nil=>have:=congrArg List.length hd;simp at this;omega
 |cons a r=>
  rw[hd]at h;cases r with
  |nil=>cases h
  |cons b r=>cases h;rfl
def SlP.open{H:Hp}{v:AC}{l:List Pr}(h:SlP H v l)(hn:0<l.length):∃id g off cells,v=.o (.sl id g off l.length 2)/\id<H.nx/\rowOf (H.get id) g=some cells/\∀(i:Nat)(x:Pr),l[i]?=some x->abQ cells (off+i*2) x:=by
 obtain⟨id,g,off,h1,h2,hr⟩:=SlC.pos h hn;have T3:=hr;obtain⟨cells,h3,h6,h7⟩:=hr;refine⟨id,g,off,cells,h1,h2,h3,λi x hx=>?_⟩;obtain⟨cells',k3,k6,k7⟩:=Rd.at (c:=prC) Zs T3 hx;rw[h3]at k3;cases k3
 exact Zr k7 k6
def yv:Int->List Pr->List (Pr×Int)
 |_,[]=>[]
 |v,u::us=>if u.2<1\/60<u.2\/1099511627776<v*u.2 then[]else(u,v*u.2)::yv (v*u.2) us
def Nz:∀(v:Int)(us:List Pr),(yv v us).length<=us.length
 |_,[]=>ai _
 |v,u::us=>by
  unfold yv;split
  ·exact Nat.zero_le _
  exact Nat.succ_le_succ (Nz _ us)
def XC:∀(v:Int)(us:List Pr)(i:Nat)(y:Pr×Int),(yv v us)[i]?=some y->us[i]?=some y.1
 |_,[],_,_,h=>by simp[yv]at h
 |v,u::us,i,y,h=>by
  unfold yv at h;split at h
  ·simp at h
  cases i with
  |zero=>simp only[List.getElem?_cons_zero,tI]at h |-;rw[<-h]
  |succ i=>rw[List.getElem?_cons_succ]at h |-;exact XC _ us i y h
def yA(ys:List (Pr×Int))(i:Nat):List AV:=
 match ys[i]? with
 |some y=>[.agg (prC y.1),.one (.i .i64 y.2)]
 |none=>[.any,.any]
def XB(ys:List (Pr×Int))(i:Nat):(yA ys i).length=2:=by unfold yA;split<;>rfl
def XA{ys:List (Pr×Int)}{i:Nat}{y:Pr×Int}(h:ys[i]?=some y):yA ys i=[.agg (prC y.1),.one (.i .i64 y.2)]:=by unfold yA;rw[h]
def DL(il:Nat)(u:AC)(k:Nat):Prop:=k=il\/k∈(AV.one u).ids
def FI(H:Hp)(il:Nat)(n:AC)(u:AC)(us:List Pr)(U3:il<H.nx)(hg:H.get il=some (.arr [n,u] 51 0 0))(hu:SlP H u us)(hL:us.length<=1000000)(ys:List (Pr×Int))(hys:yv 1 us=ys):
  ItC E2 115 [(il,0,0,2)] ys.length (yA ys) (DL il u) H:=by
 intro σ L B s H1 J3 O5 hj;refine Con.of rfl λlg=>?_;have hj:B.J 0 s ⟨H1.t,H1.nx,lg⟩:=B.hJ hj (ai _) λ_ _=>rfl;have J3:H.nx<=(⟨H1.t,H1.nx,lg⟩:Hp).nx:=J3;have O5:∀k,k<H.nx->(⟨H1.t,H1.nx,lg⟩:Hp).get k=H.get k:=O5;have e0:H1.nx=(⟨H1.t,H1.nx,lg⟩:Hp).nx:=rfl;rw[e0];clear e0;generalize(⟨H1.t,H1.nx,lg⟩:Hp)=H1 at hj J3 O5 |-
 have U':H1.get il=some (.arr [n,u] 51 0 0):=by rw[O5 _ U3];exact hg
 have hil1:il<H1.nx:=ax U3 J3;have J2:SlP H1 u us:=SlC.fI hu J3 O5;have hnu:∀id∈(AV.one u).ids,¬B.fp s id:=λid h hf=>(B.hl hj hf).2 (.inr h);have jend:∀(j:Nat)(s3:σ)(H3:Hp),j=ys.length->B.J j s3 H3->B.J ys.length s3 H3:=λj s3 H3 e h=>by subst e;exact h
 refine C1.fD 35 [] Tryz.func115 λtm h0 h1=>?_;refine qW (zDk aj h0 h1 dF dG U' hil1 fG J2.len J2.lt) ?_;refine R1.lS λK k1 k2 k3 k4=>?_;refine R1.loop (λk A H2=>∃(i:Nat)(s2:σ)(val:Int),k=us.length-i/\i<=us.length/\i<=ys.length/\ys.drop i=yv val (us.drop i)/\1<=val/\val<=1099511627776/\B.J i s2 H2/\Fr (B.fp s) H1 H2/\(∀k,B.fp s2 k->B.fp s k\/H1.nx<=k) /\
  slot A.tm 0=.one (.o (.yl L))/\slot A.tm 3=.one (.i .i64 val)/\slot A.tm 7=.one u/\slot A.tm 8=.one (.i .i64 (us.length:Int))/\slot A.tm 9=.one (.i .i64 (i:Int))/\A.nt=35/\A.dfr=[]) ?_ us.length
  ⟨0,s,1,rfl,Nat.zero_le _,Nat.zero_le _,hys.symm,aa,aa,hj,Fr.refl _,λ_ h=>.inl h,?_⟩
 ·clear h0 h1 tm;rintro k A H2 ⟨i,s2,val,rfl,hi,hiy,hdy,G7,G5,hj2,hf2,M7,t0,t3,t7,t8,t9,z0,A0⟩;have o7:SlP H2 u us:=SlC.fr J2 hf2 hnu;have fin:∀(e:au),e=.normal\/e=.ret->∀s3 H3 A3,B.J ys.length s3 H3\/B.F s3 H3->Fr (B.fp s) H1 H3->(∀k,B.fp s3 k->B.fp s k\/H1.nx<=k)->A3.dfr=[]->∃v H4,aK E2 [] (e,A3,H3)=.ok [(v,H4)]/\Fr (B.fp s) H1 H4/\∀lg',∃s',(B.J ys.length s' ⟨H4.t,H4.nx,lg'⟩\/B.F s' ⟨H4.t,H4.nx,lg'⟩)/\∀k,B.fp s' k->B.fp s k\/H1.nx<=k:=λe he s3 H3 A3 hjf hf M7 hd=>
   ⟨_,H3,cS he hd,hf,λlg'=>⟨s3,hjf.imp (λh=>B.hJ (H:=H3) h (ai _) λ_ _=>rfl) (λh=>B.hF (H:=H3) h (ai _) λ_ _=>rfl),M7⟩⟩
  have stop:ys.drop i=[]->i=ys.length:=λh=>by have:=congrArg List.length h;rw[iW,List.length_nil]at this;omega
  refine qW (zDe aj t8 t9 z0) ?_;refine qE λKx Ky hx hy=>?_;refine iI (λhc=>hx ?_) (λhc=>hy ?_)
  ·clear hx hy Kx Ky;have B0:i<us.length:=aa;obtain⟨id,g,off,cells,rfl,hid,hg,J0⟩:=o7.open aa;have ex:=aA B0;have M0:=List.drop_eq_getElem_cons B0;generalize us[i]=x at ex M0;have O0:=J0 i x ex;rw[M0,yv]at hdy;refine qV ?_;refine R1.bj λK2 q1 q2 q3 q4=>?_;repeat refine R1.aJ ?_
   refine qG (zDm aj t7 t9 z0 kO vX tt qg (ixC B0) hid hg (zDd O0.all O0.le gS)) λK hK=>?_;apply hK;refine R1.gen (λA3 H3=>Gr H2 H3/\H2.nx<H3.nx/\H3.get H2.nx=some (.arr (prC x) 133 0 0)/\slot A3.tm 0=.one (.o (.yl L))/\iB A3 val (eQ A3.tm 5 7 (.o (.ptr H2.nx 0 0 2)) (.o (.sl id g off us.length 2)) (lK A3 us.length (eO A3 9 (.i .i64 (i:Int)) 35 []))))
    ⟨((Fr.refl _).new _).mod _ (.inl (ai _)),?_⟩ ?_
   ·exact qZ (zDi t0 t3 t7 t8 t9 z0 A0 gS)
   clear t0 t3 t7 t8 t9 z0 A0 A;rintro A H3 ⟨g3,n3,gx,t0,t3,t5,t7,t8,t9,z0,A0⟩;have hj3:B.J i s2 H3:=B.hJ hj2 g3.nx λk hk=>g3.get k hk aE;have hf3:Fr (B.fp s) H1 H3:=hf2.gr g3;have X1:=bB i;repeat refine R1.aJ ?_
   by_cases D2:x.2<1
   ·have c1:(x.2<1)=True:=bH D2;rw[ad (.inl D2)]at hdy;refine qG (zDj aj t5 z0 gx n3 dw bF gS c1) λK hK=>?_;apply hK;refine qY ?_;refine qW z0 ?_;refine q4 _ _ (k4 _ _ (fin .ret (.inr rfl) s2 H3 _ (.inl (jend _ _ _ (stop hdy) hj3)) hf3 M7 (qd A0)))
   have c1:(x.2<1)=False:=bh D2;by_cases Z6:60<x.2
   ·have c2:(60<x.2)=True:=bH Z6;rw[ad (.inr (.inl Z6))]at hdy;refine qG (zDk aj t5 z0 gx n3 dw bF gS c1 c2) λK hK=>?_;apply hK;refine qY ?_;refine qW z0 ?_;refine q4 _ _ (k4 _ _ (fin .ret (.inr rfl) s2 H3 _ (.inl (jend _ _ _ (stop hdy) hj3)) hf3 M7 (qd A0)))
   have c2:(60<x.2)=False:=bh Z6;have hmul1:1<=val*x.2:=by have:=sC G7 (by omega:1<=x.2) aa aa;omega
   have hmul2:val*x.2<=1099511627776*60:=sC G5 aa aa aa;have hwm:=cB (val*x.2);refine qG (zDk aj t5 z0 gx n3 dw bF gS c1 c2) λK hK=>?_;apply hK;refine qY ?_;refine R1.bT ?_;repeat refine R1.aJ ?_
   refine qG (zDk aj t3 t5 z0 gx n3 dw bF gS hwm) λK hK=>?_;apply hK;repeat refine R1.aJ ?_
   by_cases Y':1099511627776<val*x.2
   ·have c3:(1099511627776<val*x.2)=True:=bH Y';rw[ad (.inr (.inr Y'))]at hdy;refine qG (zDd aj z0 c3) λK hK=>?_;apply hK;refine qY ?_;refine qW z0 ?_;refine q4 _ _ (k4 _ _ (fin .ret (.inr rfl) s2 H3 _ (.inl (jend _ _ _ (stop hdy) hj3)) hf3 M7 (qd A0)))
   have c3:(1099511627776<val*x.2)=False:=bh Y';rw[ab aa]at hdy;have hiy2:i<ys.length:=by
    rcases cL i ys.length with h|h
    ·exact h
    rw[HN h]at hdy;cases hdy
   have hey:ys[i]?=some (x,val*x.2):=by rw[List.drop_eq_getElem_cons hiy2]at hdy;rw[aA hiy2,(lH hdy).1]
   have hdy2:ys.drop (i+1)=yv (val*x.2) (us.drop (i+1)):=by rw[List.drop_eq_getElem_cons hiy2]at hdy;exact(lH hdy).2
   have hp:=B.pass i s2 H3 hiy2 hj3;rw[XA hey]at hp;refine qG (zDj aj t0 t5 z0 gx n3 vX c3 gS) λK hK=>?_;refine WE.abY hp λv H4 hf4⟨b,s3,hv,N7,p_,X7⟩=>?_;subst hv;have hf34:Fr (B.fp s) H1 H4:=hf3.then hf4 λk hk=>(M7 k hk).symm;have hfp4:∀k,B.fp s3 k->B.fp s k\/H1.nx<=k:=λk hk=>by
    rcases X7 k hk with h|h
    ·exact M7 k h
    exact .inr (aS hf3.nx h)
   cases b with
   |false=>refine qS (qA aj z0) ?_;apply hK;refine qY ?_;refine qW z0 ?_;refine q4 _ _ (k4 _ _ (fin .ret (.inr rfl) s3 H4 _ (.inr (p_ rfl)) hf34 hfp4 (qd A0)))
   |true=>
    refine qS (qA aj z0) ?_;apply hK;refine qY ?_;refine qW z0 ?_;refine q1 _ _ ?_;refine qW (zDd z0 t9 X1) ?_;refine⟨us.length-(i+1),aa,i+1,s3,val*x.2,rfl,B0,hiy2,hdy2,hmul1,aa,N7 rfl,hf34,hfp4,?_,?_,?_,?_,?_,?_,?_⟩
    ·simp only[ak,Nat.reduceEqDiff,reduceIte,t0]
    ·simp only[ak,Nat.reduceEqDiff,reduceIte]
    ·simp only[ak,Nat.reduceEqDiff,reduceIte,t7]
    ·simp only[ak,Nat.reduceEqDiff,reduceIte,t8]
    ·simp only[ak,Nat.reduceEqDiff,reduceIte]
    ·simp only[bq,z0]
    simp only[aM,A0]
  clear hx hy Kx Ky;have U0:i=us.length:=aa;rw[U0,ct,yv]at hdy;refine qW z0 ?_;refine k2 _ _ ?_;refine fin .normal (.inl rfl) s2 H2 _ (.inl (jend _ _ _ (stop (by rw[U0];exact hdy)) hj2)) hf2 M7 (qd A0)
 all_goals simp only[ak,Nat.reduceEqDiff,reduceIte,h0,h1,bq,aM,and_self,true_and]
 all_goals first|rfl|exact⟨rfl,trivial⟩
def FJ(H:Hp)(n u:AC)(hu:ltV (.one u) H.nx):
  Con E2 64 [.agg [n,u]] H (λ_=>False) λr H'=>r=.one (.o (.clo 115 [(H.nx,0,0,2)]))/\H'.get H.nx=some (.arr [n,u] 51 0 0)/\H.nx<H'.nx:=by
 refine Con.of rfl λlg=>?_;have e0:H.nx=(⟨H.t,H.nx,lg⟩:Hp).nx:=rfl;rw[e0];clear e0;generalize(⟨H.t,H.nx,lg⟩:Hp)=H at hu |-
 refine C1.jR 4 [.tmp 2] Tryz.func64 λtm h0=>?_;refine qW (qA aj h0) ?_;refine⟨_,_,aw (.o (.clo 115 [(H.nx,0,0,2)])) (.inr rfl) rfl qp,(Fr.refl _).new _,λ_=>⟨rfl,?_,?_⟩⟩
 ·exact aC (H:=H) (o:=.arr [n,u] 51 0 0) rfl
 exact ba _
def okU(us:List Pr)(i:Nat)(x:Pr):Bool:=nmB x.1&&!((us.take i).any λy=>y.1==x.1)&&((x.2==1)==((i:Int)==0))
def iP(n:List UInt8)(us:List Pr):Bool:=
 nmB n&&!((us.length:Int)==0)&&decide ((us.length:Int)<=12)&&decide ((yv 1 us).length=us.length)&&(List.range us.length).all λi=>okU us i (us.getD i ([],0))
def aP(n:List UInt8)(us:List Pr):Int:=if iP n us=true then 0 else 10
def Vd{n:List UInt8}{us:List Pr}{i:Nat}{x:Pr}(hx:us[i]?=some x)(h:okU us i x=false):iP n us=false:=by
 have B0:i<us.length:=by
  rcases cL i us.length with h|h
  ·exact h
  rw[iY h]at hx;cases hx
 have:((List.range us.length).all λi=>okU us i (us.getD i ([],0)))=false:=List.all_eq_false.2 ⟨i,List.mem_range.2 B0,by rw[bt,hx];show¬okU us i x=true;rw[h];decide⟩;unfold iP;rw[this,Bool.and_false]
def lN(us:List Pr)(i:Nat):List (List UInt8×AC):=(us.take i).map λx=>(x.1,.b true)
def Fu{us:List Pr}{i:Nat}(h:i<=us.length):(lN us i).length=i:=by unfold lN;rw[cP,dM];omega
def KR(us:List Pr)(i:Nat)(s:List UInt8):atK (lN us i) s=if(us.take i).any (λy=>y.1==s)=true then some (.b true)else none:=by
 unfold lN;induction us.take i with
 |nil=>rfl
 |cons x l ih=>
  show(if x.1=s then some (AC.b true)else atK (l.map λx=>(x.1,AC.b true)) s)=_;rw[ih,List.any_cons];by_cases h:x.1=s
  ·rw[ad h,h,dk,Bool.true_or,ad rfl]
  rw[ab h,aF h,Bool.false_or]
def Nf{us:List Pr}{i:Nat}{x:Pr}(hx:us[i]?=some x):lN us (i+1)=lN us i++[(x.1,.b true)]:=by obtain⟨B0,rfl⟩:=List.getElem?_eq_some_iff.1 hx;unfold lN;rw[cK B0,List.map_append];rfl
def Xt{H:Hp}{m:Nat}{us:List Pr}{i:Nat}{x:Pr}(hg:H.get m=some (lA (lN us i)))(hx:us[i]?=some x)(hs:((us.take i).any λy=>y.1==x.1)=false):
  bE prog H 9 (.one (.o (.mp m))) (.one (.o (.str x.1))) (.one (.b true))=.val aQ (H.mod m (lA (lN us (i+1)))):=by
 rw[Nf hx];exact CA Vb hg (by rw[KR,hs];rfl)
def dt(t:PT AV)(d i:Nat)(v:AV):slot (t.set d v) i=if i=d then v else slot t i:=by
 unfold slot;rw[PT.fE];by_cases h:i=d
 ·rw[ad h,ad h];rfl
 rw[ab h,ab h]
def EH{H:Hp}{m:Nat}{us:List Pr}{i:Nat}{s:List UInt8}(hg:H.get m=some (lA (lN us i))):
  bR prog H 9 (.one (.b false)) (.one (.o (.mp m))) (.one (.o (.str s))) false=.val (.one (.b ((us.take i).any λy=>y.1==s))) H:=by
 rw[BO Vb hg,KR];cases(us.take i).any (λy=>y.1==s)<;>rfl
def rY(H:Hp)(b:Bool)(e:Int):Con E2 62 [.one (.b b),.one (.i .i64 e)] H (λ_=>False) λr _=>r=.one (.i .i64 (if b=true then 0 else e)):=by
 refine Con.xw λH=>?_;refine C1.fD 7 [.tmp 4] Tryz.func62 λtm h0 h1=>?_;cases b with
 |true=>refine qW (zDd aj h0 h1) ?_;refine qY ?_;refine qV ?_;exact⟨_,_,aw (.i .i64 0) (.inr rfl) rfl qp,Fr.refl _,λ_=>rfl⟩
 |false=>refine qW (zDd aj h0 h1) ?_;refine qY ?_;refine qW h1 ?_;exact⟨_,_,aw (.i .i64 e) (.inr rfl) rfl qp,Fr.refl _,λ_=>rfl⟩
def xk(H:Hp)(n:List UInt8)(u:AC)(us:List Pr)(hu:SlP H u us):
  Con E2 39 [.agg [.o (.str n),u]] H (λ_=>False) λr _=>r=.one (.i .i64 (aP n us)):=by
 refine Con.lT (λH=>SlP H u us) hu λH hu=>?_;refine C1.jR 55 [.cell 2 35] Tryz.func39 λtm h0=>?_;refine qG (zDd aj h0 xd) λK hK=>?_;apply hK;have W2:∀id∈(AV.one u).ids,id<H.nx:=hu.lt;refine R1.gen (λA1 H1=>Gr H H1/\H.nx+1<H1.nx/\H1.get H.nx=some (.arr [.o (.str n),u] 51 0 0)/\H1.get (H.nx+1)=some (.arr [.i .i64 0] 35 0 0)/\eZ A1 H.nx (eO A1 2 (.o (.ptr (H.nx+1) 0 0 1)) 55 []))
  ⟨((Fr.refl _).new _).new _,?_⟩ ?_
 ·exact qU
 rintro A1 H1 ⟨g1,n1,r1,r2,t1,t2,z0,A0⟩;clear h0 tm;have J2:SlP H1 u us:=hu.gr g1;obtain⟨c1,R7⟩:=dI H.nx;obtain⟨c2,N9⟩:∃c,c=H.nx+1:=⟨_,rfl⟩;have h12:c1<c2:=aa;rw[<-R7]at r1 t1 W2;rw[<-N9]at r2 t2 n1;have l1:c1<H1.nx:=aa;have fin:∀(e:au)(A:ag)(H2 H3:Hp)(v:Int),(e=.normal\/e=.ret)->closeAll H2 A.dfr=some H3->Gr H H3->slot A.tm 2=.one (.o (.ptr c2 0 0 1))->H3.get c2=some (.arr [.i .i64 v] 35 0 0)->v=aP n us ->
   ∃w H4,aK E2 [.cell 2 35] (e,A,H2)=.ok [(w,H4)]/\Gr H H4/\∀_:List Nat,w=.one (.i .i64 (aP n us)):=λe A H2 H3 v he hd hg hs hr hv=>
  ⟨_,H3,vt (c:=.i .i64 v) vV he hd hs (by rw[hr];exact cH (ai _) (ai _)) (ai _) (ai _) rfl,hg,λ_=>by rw[hv]⟩
 repeat refine R1.aJ ?_
 refine qG (zDi aj t1 z0 r1 l1 kP bS oI) λK hK=>?_;refine WE.fJ (rK n) λH2 g2 n2 e2=>?_;have r1:H2.get c1=some (.arr [.o (.str n),u] 51 0 0):=(e2 c1).trans r1;have r2:H2.get c2=some (.arr [.i .i64 0] 35 0 0):=(e2 c2).trans r2;rw[<-n2]at l1 n1;have o7:SlP H2 u us:=J2.gr g2;have g2:Gr H H2:=g1.gr g2;clear g1 e2 n2 J2;have bad:∀(A:ag),slot A.tm 2=.one (.o (.ptr c2 0 0 1))->A.nt=55->A.dfr=[]->aP n us=10->∃w H4,aK E2 [.cell 2 35] (.ret,A,H2.mod c2 (.arr [.i .i64 10] 35 0 0))=.ok [(w,H4)]/\Gr H H4/\∀_:List Nat,w=.one (.i .i64 (aP n us)):=λA hs hn hd hv=>fin .ret A _ _ 10 (.inr rfl) (by rw[hd];rfl) (g2.mod _ (.inl aa)) hs (aq rfl) hv.symm
 cases Y_:nmB n with
 |false=>refine qS (zDd aj t1 z0) ?_;apply hK;refine qY ?_;refine qW (zDg aj t2 z0 jf r2 n1) ?_;exact bad _ (by simp only[ak,Nat.reduceEqDiff,reduceIte,t2]) (by simp only[bq,z0]) (qd A0) (by unfold aP iP;rw[Y_];rfl)
 |true=>
  cases hz:((us.length:Int)==0)with
  |true=>refine qS (zDl aj t1 z0 r1 l1 dF dG fG o7.len o7.lt hz) ?_;apply hK;refine qY ?_;refine qW (zDg aj t2 z0 jf r2 n1) ?_;exact bad _ (by simp only[ak,Nat.reduceEqDiff,reduceIte,t2]) (by simp only[bq,z0]) (qd A0) (by unfold aP iP;rw[hz];simp only[Bool.not_true,Bool.and_false,Bool.false_and,Bool.false_eq_true,if_false])
  |false=>
   by_cases h12':(12:Int)<us.length
   ·have c12:((12:Int)<us.length)=True:=bH h12';refine qS (zDm aj t1 z0 r1 l1 dF dG fG o7.len o7.lt hz c12) ?_;apply hK;refine qY ?_;refine qW (zDg aj t2 z0 jf r2 n1) ?_;exact bad _ (by simp only[ak,Nat.reduceEqDiff,reduceIte,t2]) (by simp only[bq,z0]) (qd A0) (by unfold aP iP;rw[bJ (by omega:¬(us.length:Int)<=12)];simp only[Bool.and_false,Bool.false_and,Bool.false_eq_true,if_false])
   have c12:((12:Int)<us.length)=False:=bh h12';refine qS (zDm aj t1 z0 r1 l1 dF dG fG o7.len o7.lt hz c12) ?_;apply hK;refine qE λKx Ky hx hy=>?_;refine hy ?_;clear hx hy Kx Ky bad;refine R1.bT ?_;repeat refine R1.aJ ?_
   refine qG (zDe aj z0 abD abw) λK hK=>?_;apply hK;refine R1.gen (λA3 H3=>Gr H H3/\H3.nx=H2.nx+2/\H3.get c1=some (.arr [.o (.str n),u] 51 0 0)/\H3.get c2=some (.arr [.i .i64 0] 35 0 0)/\H3.get H2.nx=some (lA (lN us 0))/\H3.get (H2.nx+1)=some (.arr [.o (.mp H2.nx)] 150 0 0) /\
    slot A3.tm 1=.one (.o (.ptr c1 0 0 2))/\slot A3.tm 2=.one (.o (.ptr c2 0 0 1))/\slot A3.tm 3=.one (.o (.ptr (H2.nx+1) 0 0 1))/\A3.nt=55/\A3.dfr=[])
    ⟨((g2.new _).new _).mod _ (.inl (by have:=g2.nx;omega)),rfl,?_,?_,?_,?_,?_⟩ ?_
   ·rw[aB aa,bw (by rw[wx];omega),bw l1];exact r1
   ·rw[aB aa,bw (by rw[wx];omega),bw n1];exact r2
   ·rw[aB aa,bw (by rw[wx];omega),aC rfl];rfl
   ·exact aq rfl
   ·simp only[qB,aZ,Nat.reduceLT,Nat.reduceEqDiff,Nat.reduceLeDiff,reduceIte,Nat.reduceAdd,Nat.reduceSub,Nat.reduceMul,Int.reduceLT,Int.reduceLE,Int.reduceBEq,t1,t2,z0,A0,and_self]
   rintro A H3 ⟨g3,n3,q1,q2,qm,q3,t1,t2,t3,z0,A0⟩;have t_:SlP H3 u us:=hu.gr g3;obtain⟨m,hm⟩:=dI H2.nx;obtain⟨c3,V8⟩:∃c,c=H2.nx+1:=⟨_,rfl⟩;rw[<-V8]at q3 t3;rw[<-hm]at qm q3;have o1:c2<m:=aa;have o2:m<c3:=aa;have o3:c3<H3.nx:=aa;clear hm V8 n3 r1 r2 o7 l1 n1;have l1:c1<H3.nx:=aa;repeat refine R1.aJ ?_
   refine qG (zDh aj t1 z0 q1 l1 fW IB) λK hK=>?_;refine WE.con (FJ H3 (.o (.str n)) u t_.lt) λv H5 g5⟨hv,U3,I9⟩=>?_;subst hv;refine qS (qA aj z0) ?_;apply hK;refine R1.lq (λA4=>eZ A4 c1 (ox A4 c2 c3 (eO A4 23 (.o (.clo 115 [(H3.nx,0,0,2)])) 55 [])))
    ⟨by simp only[ak,Nat.reduceEqDiff,reduceIte,t1],by simp only[ak,Nat.reduceEqDiff,reduceIte,t2],by simp only[ak,Nat.reduceEqDiff,reduceIte,t3],by simp only[ak,Nat.reduceEqDiff,reduceIte],by simp only[bq,z0],by simp only[aM,A0]⟩ ?_
   clear t1 t2 t3 z0 A0 A;rintro A ⟨t1,t2,t3,t23,z0,A0⟩;have gg:Gr H H5:=g3.gr g5;have q1:H5.get c1=some (.arr [.o (.str n),u] 51 0 0):=by rw[g5.get _ l1 aE];exact q1
   have q2:H5.get c2=some (.arr [.i .i64 0] 35 0 0):=by rw[g5.get _ aa aE];exact q2
   have q3:H5.get c3=some (.arr [.o (.mp m)] 150 0 0):=by rw[g5.get _ o3 aE];exact q3
   have qm:H5.get m=some (lA (lN us 0)):=by rw[g5.get _ aa aE];exact qm
   have o6:SlP H5 u us:=t_.gr g5;have o4:c3<H5.nx:=ax o3 g5.nx;have l3:c1<H3.nx:=l1;obtain⟨il,F_⟩:=dI H3.nx;rw[<-F_]at U3 I9 t23 o3 l3;clear F_ l1;generalize hys:yv 1 us=ys;have B8:ys.length<=us.length:=by rw[<-hys];exact Nz 1 us
   refine R1.bj λK k1 k2 k3 k4=>?_;refine R1.range (σ:=Unit) (g:=115) (caps:=[(il,0,0,2)]) (n:=ys.length) (ar:=yA ys) (D:=DL il u) (by simp only[DU,t23]) DA (λ_=>rfl)
    (FI H5 il (.o (.str n)) u us I9 U3 o6 aa ys hys) (λk hk=>by
     rcases hk with h|h
     ·omega
     exact wY (W2 k h) aa) (by rw[z0];rfl) (λi _=>XB ys i)
    (λi _ H6=>H6.get m=some (lA (lN us i))/\H6.get c3=some (.arr [.o (.mp m)] 150 0 0)/\H6.get c2=some (.arr [.i .i64 0] 35 0 0)/\(∀j,j<i->okU us j (us.getD j ([],0))=true)/\H5.nx<=H6.nx)
    (λe _ H6=>e=.ret/\H6.get c2=some (.arr [.i .i64 10] 35 0 0)/\iP n us=false/\H5.nx<=H6.nx)
    (λ_ k=>k=m\/k=c2) ?_ ?_ ?_ () ?_ ?_ ?_ ?_
   ·rintro i s H6 H7 ⟨a1,a2,a3,a4,a5⟩ hs;exact⟨by rw[hs.get _ aa aa];exact a1,by rw[hs.get _ aa aa];exact a2,by rw[hs.get _ aa aa];exact a3,a4,aS a5 hs.nx⟩
   ·rintro e s H6 H7 ⟨a1,a2,a3,a5⟩ hs;exact⟨a1,by rw[hs.get _ aa aa];exact a2,a3,aS a5 hs.nx⟩
   ·rintro i s H6 k ⟨a1,a2,a3,a4,a5⟩ hk;have:k<H5.nx/\c1<k/\k<il:=by rcases hk with rfl|rfl<;>omega
    refine⟨aa,aa,aa,λh=>?_⟩;rcases h with h|h
    ·omega
    have:=W2 k h;omega
   ·intro H6 g6 n6;exact⟨by rw[g6.get _ aa aE];exact qm,by rw[g6.get _ o4 aE];exact q3,by rw[g6.get _ aa aE];exact q2,λj hj=>absurd hj (Nat.not_lt_zero j),g6.nx⟩
   ·rintro i _ H6 hi ⟨a1,a2,a3,a4,a5⟩ n6;have hy:=aA hi;generalize ys[i]=y at hy;have L4:us[i]?=some y.1:=XC 1 us i y (by rw[hys];exact hy);rw[XA hy];obtain⟨x,yval⟩:=y;have L4:us[i]?=some x:=L4;refine R1.lq (λA7=>eZ A7 c1 (ox A7 c2 c3 (slot A7.tm 24=.agg (prC x)/\A7.nt=55/\A7.dfr=[]))) ⟨?_,?_,?_,?_,z0,rfl⟩ ?_
    ·show slot ((A.tm.set 24 _).set 25 _) 1=_;simp only[dt,Nat.reduceEqDiff,reduceIte,t1]
    ·show slot ((A.tm.set 24 _).set 25 _) 2=_;simp only[dt,Nat.reduceEqDiff,reduceIte,t2]
    ·show slot ((A.tm.set 24 _).set 25 _) 3=_;simp only[dt,Nat.reduceEqDiff,reduceIte,t3]
    ·show slot ((A.tm.set 24 _).set 25 _) 24=_;simp only[dt,Nat.reduceEqDiff,reduceIte]
    rintro A7 ⟨u1,u2,u3,u24,unt,udf⟩;refine qG (zDg aj u24 unt qg tt gS) λK hK=>?_;apply hK;refine⟨rfl,((Fr.refl _).new _).mod _ (.inl (ai _)),λH8 n8 s8=>?_⟩;have gu:H8.get H6.nx=some (.arr (prC x) 133 0 0):=by rw[s8.get _ (by show H6.nx<H6.nx+1;omega) aa];exact aq rfl
    have kR:∀k,k<H5.nx->H8.get k=H6.get k:=λk hk=>by rw[s8.get _ (by show k<H6.nx+1;omega) aa,aB aa,bw aa]
    have n8':H8.nx=H6.nx+1:=n8;have b1:H8.get m=some (lA (lN us i)):=(kR m aa).trans a1;have b3:H8.get c3=some (.arr [.o (.mp m)] 150 0 0):=(kR c3 o4).trans a2;have b2:H8.get c2=some (.arr [.i .i64 0] 35 0 0):=(kR c2 aa).trans a3;have lu:H6.nx<H8.nx:=aa;clear kR n8 n8' s8 a1 a2 a3;refine R1.lS λK2 p1 p2 p3 p4=>?_;repeat refine R1.aJ ?_
    refine qG (zDi aj unt gu lu cV bS gS oI) λK hK=>?_;refine WE.fJ (rK x.1) λH9 g9 n9 e9=>?_;have gu:H9.get H6.nx=some (.arr (prC x) 133 0 0):=(e9 _).trans gu;have b1:H9.get m=some (lA (lN us i)):=(e9 m).trans b1;have b3:H9.get c3=some (.arr [.o (.mp m)] 150 0 0):=(e9 c3).trans b3;have b2:H9.get c2=some (.arr [.i .i64 0] 35 0 0):=(e9 c2).trans b2;rw[<-n9]at lu;have n59:H5.nx<=H9.nx:=aa;have lc2:c2<H9.nx:=aa;have lc3:c3<H9.nx:=aa;have lm:m<H9.nx:=aa;have bad:∀(e:au)(A2:ag),e=.ret->A2.dfr=[]->okU us i x=false->A2.dfr=[]/\Fr (λk=>(k=m\/k=c2)\/H6.nx<=k) H8 (H9.mod c2 (.arr [.i .i64 10] 35 0 0))/\∃s':Unit,
      (e=au.normal->(H9.mod c2 (.arr [.i .i64 10] 35 0 0)).get m=some (lA (lN us (i+1)))/\(H9.mod c2 (.arr [.i .i64 10] 35 0 0)).get c3=some (.arr [.o (.mp m)] 150 0 0)/\(H9.mod c2 (.arr [.i .i64 10] 35 0 0)).get c2=some (.arr [.i .i64 0] 35 0 0)/\(∀(j:Nat),j<i+1->okU us j (us.getD j ([],0))=true)/\H5.nx<=(H9.mod c2 (.arr [.i .i64 10] 35 0 0)).nx) /\
      (e≠au.normal->e=au.ret/\(H9.mod c2 (.arr [.i .i64 10] 35 0 0)).get c2=some (.arr [.i .i64 10] 35 0 0)/\iP n us=false/\H5.nx<=(H9.mod c2 (.arr [.i .i64 10] 35 0 0)).nx) /\
      ∀(k:Nat),k=m\/k=c2->(k=m\/k=c2)\/H6.nx<=k:=λe A2 he hd hb=>
     ⟨hd,(g9.none).mod _ (.inr (.inl (.inr rfl))),(),λh=>(by rw[he]at h;cases h),λ_=>⟨he,aq rfl,Vd L4 hb,n59⟩,λk hk=>.inl hk⟩
    cases hq:nmB x.1 with
    |false=>refine qS (qA aj unt) ?_;apply hK;refine qY ?_;refine qW (zDg aj u2 unt jf b2 lc2) ?_;exact p4 _ _ (bad _ _ rfl (by simp only[aM,udf]) (by unfold okU;rw[hq];rfl))
    |true=>
     cases C':((us.take i).any λy=>y.1==x.1)with
     |true=>simp only[qB,aZ,Nat.reduceLT,Nat.reduceEqDiff,Nat.reduceLeDiff,reduceIte,Nat.reduceAdd,Nat.reduceSub,Nat.reduceMul,Int.reduceLT,Int.reduceLE,Int.reduceBEq,aj,u3,unt,b3,lc3,gu,lu,GL,MD,jO,EH b1,lm,cV,bS,prC,C'];apply hK;refine qY ?_;refine qW (zDg aj u2 unt jf b2 lc2) ?_;exact p4 _ _ (bad _ _ rfl (by simp only[aM,udf]) (by unfold okU;rw[C',Bool.not_true,Bool.and_false,Bool.false_and]))
     |false=>
      have hlm:eD H9 2 (.one (.o (.mp m)))=.val (.one (.i .i64 (i:Int))) H9:=by rw[Vp b1,Fu (by have:=Nz 1 us;rw[hys]at this;omega)]
      simp only[qB,aZ,Nat.reduceLT,Nat.reduceEqDiff,Nat.reduceLeDiff,reduceIte,Nat.reduceAdd,Nat.reduceSub,Nat.reduceMul,Int.reduceLT,Int.reduceLE,Int.reduceBEq,aj,u3,unt,b3,lc3,gu,lu,GL,MD,jO,EH b1,lm,cV,dw,bS,bF,prC,C',Vv,hlm,MQ ZL];apply hK;refine qE λKx Ky hx hy=>?_;refine iI (λhd=>hx ?_) (λhd=>hy ?_)
      ·clear hx hy Kx Ky;refine qW (zDg aj u2 unt jf b2 lc2) ?_;exact p4 _ _ (bad _ _ rfl (by simp only[aM,udf]) (by unfold okU;rw[hq,C'];simpa using hd))
      clear hx hy Kx Ky bad;have E0:okU us i x=true:=by unfold okU;rw[hq,C'];simpa using hd
      refine R1.bT ?_;refine R1.Gn λK hK=>?_;simp only[qB,aZ,Nat.reduceLT,Nat.reduceEqDiff,Nat.reduceLeDiff,reduceIte,Nat.reduceAdd,Nat.reduceSub,Nat.reduceMul,Int.reduceLT,Int.reduceLE,Int.reduceBEq,aj,u3,unt,b3,lc3,gu,lu,GL,MD,cV,bS,prC,lm,Xt b1 L4 C'];apply hK;refine p1 _ _ ⟨by simp only[aM,udf],(g9.none).mod _ (.inr (.inl (.inl rfl))),(),λ_=>⟨aq rfl,?_,?_,λj hj=>?_,n59⟩,λh=>absurd rfl h,λk hk=>.inl hk⟩
      ·rw[aB aa];exact b3
      ·rw[aB aa];exact b2
      rcases cL j i with h|h
      ·exact a4 j h
      have:j=i:=aa;subst this;rw[bt,L4];exact E0
   ·rintro s' H6 ⟨a1,a2,a3,a4,a5⟩ n6 hd6 X6 M7;have g6:Gr H H6:=gg.then X6 λk hk=>.inl (by rcases hk with rfl|rfl<;>omega);have q1:H6.get c1=some (.arr [.o (.str n),u] 51 0 0):=by rw[X6.get _ aa (λh=>by rcases h with h|h<;>omega)];exact q1
    have I7:SlP H6 u us:=hu.gr g6;have hlm:eD H6 2 (.one (.o (.mp m)))=.val (.one (.i .i64 (ys.length:Int))) H6:=by rw[Vp a1,Fu B8]
    have lc1:c1<H6.nx:=aa;have lc2:c2<H6.nx:=aa;have lc3:c3<H6.nx:=aa;have lm:m<H6.nx:=aa;refine k1 _ _ ?_;refine R1.lq (λA7=>eZ A7 c1 (ox A7 c2 c3 (A7.nt=55/\A7.dfr=[H5.nx]))) ⟨t1,t2,t3,z0,by show H5.nx::A.dfr=_;rw[A0]⟩ ?_;rintro A7 ⟨u1,u2,u3,unt,udf⟩;refine qG (zDm aj u1 u3 unt a2 lc3 lc1 lm q1 dF dG (zDh fG GL Vv hlm I7.len I7.lt vm)) λK hK=>?_;refine WE.con (rY H6 _ 10) λv H7 g7 hv=>?_;subst hv;have b2:H7.get c2=some (.arr [.i .i64 0] 35 0 0):=by rw[g7.get _ lc2 aE];exact a3
    have lc2:c2<H7.nx:=ax lc2 g7.nx;have hd7:H7.get H5.nx=some (.oth (.dfr true)):=by rw[g7.get _ aa aE];exact hd6
    have g67:Gr H H7:=g6.gr g7;refine qS (zDg aj u2 unt jf b2 lc2) ?_;apply hK;refine qV ?_;refine fin .ret _ _ _ _ (.inr rfl) (by simp only[aM,udf];exact iF (by rw[aB aa];exact hd7)) ((g67.mod _ (.inl aa)).mod _ (.inl (by have:=gg.nx;omega))) (by simp only[ak,Nat.reduceEqDiff,reduceIte,u2]) (by rw[aB aa];exact aq rfl) ?_;unfold aP;by_cases hlen:(ys.length:Int)=us.length
    ·have V2:iP n us=true:=by unfold iP;rw[Y_,hz,hys,bp (by omega:(us.length:Int)<=12),bp (by omega:ys.length=us.length)];simp only[Bool.not_false,Bool.true_and,om];intro j hj;exact a4 j (by have:=List.mem_range.1 hj;omega)
     rw[V2,hlen,dk]
    have V2:iP n us=false:=by unfold iP;rw[hys,bJ (by omega:¬ys.length=us.length),Bool.and_false,Bool.false_and]
    rw[V2,aF hlen]
   rintro e s' H6 Q0 ⟨rfl,a2,a3,a5⟩ n6 hd6 X6 M7;have g6:Gr H H6:=gg.then X6 λk hk=>.inl (by rcases hk with rfl|rfl<;>omega);refine k4 _ _ (fin .ret _ _ _ 10 (.inr rfl) (by show closeAll H6 (H5.nx::A.dfr)=_;rw[A0];exact iF hd6) (g6.mod _ (.inl (by have:=gg.nx;omega))) t2 (by rw[aB aa];exact a2) ?_);unfold aP;rw[a3];rfl
def Dx:ao prog 38=true:=ae
def kC{E:Env}{s:Tmp}{t:TypeId}{n:Nat}{A:ag}{H H2:Hp}{e:au}{id g lim:Nat}{cells:List AC}(ht:loadT E.P t=some (true,n))(he:e=.normal\/e=.ret)(hd:closeAll H A.dfr=some H2)(hs:slot A.tm s=.one (.o (.ptr id g 0 lim)))
  (hg:rowOf (H2.get id) g=some cells) (hl:n<=lim) (ho:cells.length=n):aK E [.cell s t] (e,A,H)=.ok [(.agg cells,H2)]:=by
 have key:(aG (closeAll H A.dfr) (R.bad "marks") λh2=>aG (dq E.P [.cell s t] A.tm h2) (.bad "results") λl=>.ok [(gT l,h2)])=.ok [(.agg cells,H2)]:=by
  rw[hd];have e1:ph E.P (.cell s t) A.tm H2=some (true,cells):=by
   have e0:ph E.P (.cell s t)=match loadT E.P t with|some p=>λtm h=>aG (tm.get s) none λv=>ah.rec (motive:=λ_=>Option (Bool×List AC)) (λv _=>mS v) (λ_=>none) (λ_ _=>none) (λ_ _=>none) (λ_=>none) (eu h p.1 p.2 v)|none=>λ_ _=>none:=rfl
   rw[e0,ht];show aG (A.tm.get s) none (λv=>ah.rec (motive:=λ_=>Option (Bool×List AC)) (λv _=>mS v) (λ_=>none) (λ_ _=>none) (λ_ _=>none) (λ_=>none) (eu H2 true n v))=_;rw[Mq hs];show ah.rec (motive:=λ_=>Option (Bool×List AC)) (λv _=>mS v) (λ_=>none) (λ_ _=>none) (λ_ _=>none) (λ_=>none) (eu H2 true n (.one (.o (.ptr id g 0 lim))))=_;rw[jW,hg,zu hl aa,List.drop_zero,iy aa];rfl
  have hr:dq E.P [.cell s t] A.tm H2=some [(true,cells)]:=by show aG (ph E.P (.cell s t) A.tm H2) none (λx=>aG (some []) none λl=>some (x::l))=_;rw[e1];rfl
  show aG (dq E.P [.cell s t] A.tm H2) (R.bad "results") (λl=>R.ok [(gT l,H2)])=_
  rw[hr];rfl
 rcases he with rfl|rfl
 ·exact key
 exact key
def AX(H:Hp)(n:List UInt8)(u:AC)(us:List Pr)(hu:SlP H u us)(hL:us.length<=1000000):
  Con E2 38 [.agg [.o (.str n),u]] H (λ_=>False) λr H'=>∃u',r=.agg [.o (.str n),u']/\SlP H' u' us/\∀id∈(AV.one u').ids,H.nx<=id:=by
 refine Con.BB (λH=>SlP H u us) hu λH e hu=>?_;rw[<-e];clear e;refine C1.jR 9 [.cell 2 51] Tryz.func38 λtm h0=>?_;refine qG (zDd aj h0 gO) λK hK=>?_;apply hK;refine R1.gen (λA1 H1=>Gr H H1/\H.nx+1<H1.nx/\H1.get H.nx=some (.arr [.o (.str n),u] 51 0 0)/\H1.get (H.nx+1)=some (.arr [.o (.str []),.o .nilS] 51 0 0)/\eZ A1 H.nx (fb A1 (H.nx+1) (A1.nt=9/\A1.dfr=[])))
  ⟨((Fr.refl _).new _).new _,?_⟩ ?_
 ·exact qU
 rintro A1 H1 ⟨g1,n1,r1,r2,t1,t2,z0,A0⟩;clear h0 tm;have J2:SlP H1 u us:=hu.gr g1;have l1:H.nx<H1.nx:=aa;have hlu:ltV (.one u) H1.nx:=J2.lt;obtain⟨z,hz,Q1⟩:=Qr;obtain⟨v,H2,B1,hv,hvn,g2⟩:=Oe kO Oo hz Q1 aU J2 aa;clear hz Q1 z;have r2:H2.get (H.nx+1)=some (.arr [.o (.str []),.o .nilS] 51 0 0):=by rw[g2.get _ n1 aE];exact r2
 have n2:H.nx+1<H2.nx:=ax n1 g2.nx;have Q8:FrL H1.nx H1 H2:=FrL.of g2 λ_ h=>h.elim;have hv3:SlP (H2.mod (H.nx+1) (.arr [.o (.str n),v] 51 0 0)) v us:=SlC.fr hv (X:=λk=>k=H.nx+1) ((Fr.refl _).mod _ (.inr rfl)) λid h hh=>by have:=hvn id h;omega
 have hv4:∀id∈(AV.one v).ids,H.nx<=id:=λid h=>by have:=hvn id h;omega
 clear hvn;replace hv3:=ay hv3;replace hv4:=ay hv4;refine R1.s_q 6 ae λK hK=>?_;refine zQ (zDk aj kP dF bS dG gO Cf Kt Ku kr) ?_;apply hK.out;refine qV ?_;exact⟨_,_,kC (id:=H.nx+1) (g:=0) fW (.inr rfl) (by simp only[aM,A0];rfl) (by simp only[ak,Nat.reduceEqDiff,reduceIte,t2]) (by rw[aq rfl];exact cH (ai _) (ai _)) (ai _) rfl,(g1.gr g2).mod _ (.inl (Nat.le_succ _)),λ_=>⟨v,rfl,hv3.out,hv4.out⟩⟩
abbrev Lad:=List UInt8×List Pr
def uV(H:Hp)(c:List AC)(x:Lad):Prop:=∃u,c=[.o (.str x.1),u]/\SlP H u x.2
def uV.gr{H H':Hp}{c:List AC}{x:Lad}(h:uV H c x)(hg:Gr H H'):uV H' c x:=let ⟨u,h1,h2⟩:=h;⟨u,h1,h2.gr hg⟩
def iN(H:Hp)(v:AC)(ls:List Lad):Prop:=SlR uV 2 H v ls
def iN.gr{H H':Hp}{v:AC}{ls:List Lad}(h:iN H v ls)(hg:Gr H H'):iN H' v ls:=SlR.fI h hg.nx (λi hi=>hg.get i hi aE) λ_ _ h=>h.gr hg
def iN.len{H:Hp}{v:AC}{l:List Lad}(h:iN H v l):eD H 1 (.one v)=.val (.one (.i .i64 (l.length:Int))) H:=SlR.len h
def iN.lt{H:Hp}{v:AC}{l:List Lad}(h:iN H v l):ltV (.one v) H.nx:=SlR.lt h
def iN.open{H:Hp}{v:AC}{l:List Lad}(h:iN H v l)(hn:0<l.length):∃id g off cells,v=.o (.sl id g off l.length 2)/\id<H.nx/\rowOf (H.get id) g=some cells /\
  ∀(i:Nat)(x:Lad),l[i]?=some x->∃u,SlP H u x.2/\(cells.drop (off+i*2)).take 2=[.o (.str x.1),u]/\off+i*2+2<=cells.length/\off+i*2+1<=cells.length/\off+i*2+1+1<=cells.length /\
   (cells.drop (off+i*2)).headD (.b false)=.o (.str x.1)/\(cells.drop (off+i*2+1)).headD (.b false)=u:=by
 obtain⟨id,g,off,cells,e1,hid,hg,J0⟩:=SlR.open h hn;refine⟨id,g,off,cells,e1,hid,hg,λi x hx=>?_⟩;obtain⟨hle,c,hc,S1,u,rfl,hu⟩:=J0 i x hx;refine⟨u,hu,hc,hle,aa,aa,?_,?_⟩
 ·cases hd:cells.drop (off+i*2)with
  |nil=>rw[hd]at hc;cases hc
  |cons a r=>
   rw[hd]at hc;cases r with
   |nil=>cases hc
   |cons b r=>cases hc;rfl
 rw[<-js];cases hd:cells.drop (off+i*2)with
 |nil=>rw[hd]at hc;cases hc
 |cons a r=>
  rw[hd]at hc;cases r with
  |nil=>cases hc
  |cons b r=>cases hc;rfl
def plN:Nat->List Lad->List (List UInt8×AC)
 |_,[]=>[]
 |n,x::ls=>(x.1,.i .i64 (n:Int))::plN (n+1) ls
def jX:Nat->List Lad->List UInt8->Option Nat
 |_,[],_=>none
 |n,x::ls,s=>if x.1=s then some n else jX (n+1) ls s
def LN:∀(n:Nat)(ls:List Lad)(s:List UInt8),atK (plN n ls) s=(jX n ls s).map λi=>.i .i64 (i:Int)
 |_,[],_=>rfl
 |n,x::ls,s=>by
  show(if x.1=s then some (AC.i .i64 (n:Int))else atK (plN (n+1) ls) s)=Option.map _ (if x.1=s then some n else jX (n+1) ls s);by_cases h:x.1=s
  ·rw[ad h,ad h];rfl
  rw[ab h,ab h];exact LN (n+1) ls s
def PE:∀(n:Nat)(ls:List Lad)(x:Lad),plN n (ls++[x])=plN n ls++[(x.1,.i .i64 ((n+ls.length:Nat):Int))]
 |n,[],x=>rfl
 |n,y::ls,x=>by
  show _::plN (n+1) (ls++[x])=_::(plN (n+1) ls++_);rw[PE (n+1) ls x];have:n+1+ls.length=n+(y::ls).length:=by rw[List.length_cons];omega
  rw[this]
def Ph{H:Hp}{m:Nat}{ls:List Lad}{s:List UInt8}(hg:H.get m=some (lA (plN 0 ls))):
  bR prog H 9 (.one (.i .i64 0)) (.one (.o (.mp m))) (.one (.o (.str s))) true=.val (.tup [(false,[.i .i64 (((jX 0 ls s).getD 0:Nat):Int)]),(false,[.b (jX 0 ls s).isSome])]) H:=by
 rw[BO Vc hg,LN];cases jX 0 ls s<;>rfl
def OT:∀(n:Nat)(ls:List Lad)(s:List UInt8)(i:Nat),jX n ls s=some i->n<=i/\i<n+ls.length/\∃x,ls[i-n]?=some x/\x.1=s
 |_,[],_,_,h=>by cases h
 |n,x::ls,s,i,h=>by
  unfold jX at h;by_cases hx:x.1=s
  ·rw[ad hx]at h;cases h
   refine⟨ai _,by rw[List.length_cons];omega,x,by rw[ga];rfl,hx⟩
  rw[ab hx]at h;obtain⟨h1,h2,y,h3,h4⟩:=OT (n+1) ls s i h;refine⟨aa,by rw[List.length_cons];omega,y,?_,h4⟩;have:i-n=(i-(n+1))+1:=aa;rw[this,List.getElem?_cons_succ];exact h3
def wm:List Lad->List Lad->Int
 |_,[]=>0
 |acc,x::ls=>if aP x.1 x.2≠0 then aP x.1 x.2 else if(jX 0 acc x.1).isSome=true then 2 else wm (acc++[x]) ls
def pJ(ls:List Lad):Int:=if(32:Int)<ls.length then 3 else wm [] ls
def tO(H:Hp)(p:AC)(ls:List Lad):Prop:=
 ∃kb m lad gr fc,p=.o (.ptr kb 0 0 4)/\kb<H.nx/\m<H.nx/\H.get kb=some (.arr [lad,.o (.mp m),gr,fc] 106 0 0)/\H.get m=some (lA (plN 0 ls))/\iN H lad ls
def tO.gr{H H':Hp}{p:AC}{ls:List Lad}(h:tO H p ls)(hg:Gr H H'):tO H' p ls:=by obtain⟨kb,m,lad,gr,fc,h1,h2,h3,h4,h5,h6⟩:=h;exact⟨kb,m,lad,gr,fc,h1,ax h2 hg.nx,ax h3 hg.nx,by rw[hg.get _ h2 aE];exact h4,by rw[hg.get _ h3 aE];exact h5,h6.gr hg⟩
def LQ:ao prog 21=true:=ae
structure NB(n0 kb m:Nat)(lm ll:List Lad)(k2 k3:Nat)(H1:Hp)(lad gr fc:AC)(r1 r2 r3:Option Nat):Prop where
 kbg:H1.get kb=some (.arr [lad,.o (.mp m),gr,fc] 106 0 0)
 mg:H1.get m=some (lA (plN 0 lm))
 o1:∃css:List (List AC),dA H1 lad 51 2 ll.length (css.flatMap id) r1/\Al (λc x=>c.length=2/\∃u,c=[.o (.str x.1),u]/\SlP H1 u x.2/\∀id∈(AV.one u).ids,id≠kb/\id≠m/\some id≠r1/\some id≠r2/\some id≠r3) css ll
 o2:∃cg,dA H1 gr 3 1 k2 cg r2
 o3:∃cf,dA H1 fc 116 2 k3 cf r3
 kn:n0<=kb/\kb<H1.nx
 mn:n0<=m/\m<H1.nx
 km:kb≠m
 n1:∀q,r1=some q->n0<=q/\q<H1.nx/\q≠kb/\q≠m/\r2≠some q/\r3≠some q
 n2:∀q,r2=some q->n0<=q/\q<H1.nx/\q≠kb/\q≠m/\r3≠some q
 n3:∀q,r3=some q->n0<=q/\q<H1.nx/\q≠kb/\q≠m
section
variable{n0 kb m k2 k3:Nat}{lm ll:List Lad}{H1 H2:Hp}{lad gr fc:AC}{r1 r2 r3:Option Nat}
def NB.MH(h:NB n0 kb m lm ll k2 k3 H1 lad gr fc r1 r2 r3)(hg:Gr H1 H2):NB n0 kb m lm ll k2 k3 H2 lad gr fc r1 r2 r3 where
 kbg:=by rw[hg.get _ h.kn.2 aE];exact h.kbg
 mg:=by rw[hg.get _ h.mn.2 aE];exact h.mg
 o1:=let ⟨css,a,b⟩:=h.o1;⟨css,a.fr hg λ_ _ h=>h,b.mono λc x⟨hc,u,e,hu,hi⟩=>⟨hc,u,e,hu.gr hg,hi⟩⟩
 o2:=let ⟨c,a⟩:=h.o2;⟨c,a.fr hg λ_ _ h=>h⟩
 o3:=let ⟨c,a⟩:=h.o3;⟨c,a.fr hg λ_ _ h=>h⟩
 kn:=⟨h.kn.1,ax h.kn.2 hg.nx⟩
 mn:=⟨h.mn.1,ax h.mn.2 hg.nx⟩
 km:=h.km
 n1:=λq hq=>let ⟨a,b,c⟩:=h.n1 q hq;⟨a,ax b hg.nx,c⟩
 n2:=λq hq=>let ⟨a,b,c⟩:=h.n2 q hq;⟨a,ax b hg.nx,c⟩
 n3:=λq hq=>let ⟨a,b,c⟩:=h.n3 q hq;⟨a,ax b hg.nx,c⟩
def fh{H:Hp}{k:Nat}{o:aX}:Fr (λi=>i=k) H (H.mod k o):=(Fr.refl _).mod _ (.inr rfl)
def NB.addM(h:NB n0 kb m lm ll k2 k3 H1 lad gr fc r1 r2 r3)(lm':List Lad):NB n0 kb m lm' ll k2 k3 (H1.mod m (lA (plN 0 lm'))) lad gr fc r1 r2 r3 where
 kbg:=by rw[aB h.km];exact h.kbg
 mg:=aq rfl
 o1:=let ⟨css,a,b⟩:=h.o1;⟨css,a.fr fh λi hi e=>(h.n1 i hi).2.2.2.1 e,b.mono λc x⟨hc,u,e,hu,hi⟩=>⟨hc,u,e,SlC.fr hu fh λi hi' e=>(hi i hi').2.1 e,hi⟩⟩
 o2:=let ⟨c,a⟩:=h.o2;⟨c,a.fr fh λi hi e=>(h.n2 i hi).2.2.2.1 e⟩
 o3:=let ⟨c,a⟩:=h.o3;⟨c,a.fr fh λi hi e=>(h.n3 i hi).2.2.2 e⟩
 kn:=h.kn
 mn:=h.mn
 km:=h.km
 n1:=h.n1
 n2:=h.n2
 n3:=h.n3
def NB.aay(h:NB n0 kb m lm ll k2 k3 H1 lad gr fc r1 r2 r3){x:Lad}{u v5:AC}{r5:Nat}{H5:Hp}(hu:SlP H1 u x.2)(hi:∀id∈(AV.one u).ids,id≠kb/\id≠m/\some id≠r1/\some id≠r2/\some id≠r3)
  {css:List (List AC)} (A_:Al (λc x=>c.length=2/\∃u,c=[.o (.str x.1),u]/\SlP H1 u x.2/\∀id∈(AV.one u).ids,id≠kb/\id≠m/\some id≠r1/\some id≠r2/\some id≠r3) css ll)
  (ho:dA H5 v5 51 2 (ll.length+1) (css.flatMap id++[.o (.str x.1),u]) (some r5)) (hf:Fr (λi=>r1=some i) H1 H5) (hr:r1=some r5\/H1.nx<=r5):
  NB n0 kb m lm (ll++[x]) k2 k3 (H5.mod kb (.arr [v5,.o (.mp m),gr,fc] 106 0 0)) v5 gr fc (some r5) r2 r3:=by
 have r5kb:r5≠kb:=by
  rcases hr with e|e
  ·exact(h.n1 _ e).2.2.1
  have:=h.kn.2;omega
 have r5m:r5≠m:=by
  rcases hr with e|e
  ·exact(h.n1 _ e).2.2.2.1
  have:=h.mn.2;omega
 have n0le:n0<=H1.nx:=aS h.kn.1 (mY h.kn.2);have lt5:r5<H5.nx:=by
  rcases ho with⟨_,_,_,e⟩|⟨id,lo,gen,e,_,_,_,_,hl⟩
  ·cases e
  cases e;exact hl
 have kR:∀{c:List AC}{x:Lad},(c.length=2/\∃u,c=[.o (.str x.1),u]/\SlP H1 u x.2/\∀id∈(AV.one u).ids,id≠kb/\id≠m/\some id≠r1/\some id≠r2/\some id≠r3) ->
   c.length=2/\∃u,c=[.o (.str x.1),u]/\SlP (H5.mod kb (.arr [v5,.o (.mp m),gr,fc] 106 0 0)) u x.2/\∀id∈(AV.one u).ids,id≠kb/\id≠m/\some id≠some r5/\some id≠r2/\some id≠r3:=by
  rintro c x ⟨hc,u,e,hu,hi⟩;refine⟨hc,u,e,SlC.fr (SlC.fr hu hf λi h' e=>(hi i h').2.2.1 e.symm) fh λi h' e=>(hi i h').1 e,λi h'=>⟨(hi i h').1,(hi i h').2.1,λe=>?_,(hi i h').2.2.2.1,(hi i h').2.2.2.2⟩⟩;cases e
  rcases hr with e|e
  ·exact(hi _ h').2.2.1 e.symm
  have:=hu.lt _ h';omega
 refine⟨aq rfl,?_,⟨css++[[.o (.str x.1),u]],?_,?_⟩,?_,?_,⟨h.kn.1,ax h.kn.2 hf.nx⟩,⟨h.mn.1,ax h.mn.2 hf.nx⟩,h.km,?_,?_,?_⟩
 ·rw[aB (λe=>h.km e.symm),hf.get _ h.mn.2 λe=>(h.n1 _ e).2.2.2.1 rfl];exact h.mg
 ·rw[aI,List.length_singleton,iX];exact ho.fr fh λi hi e=>by cases hi;exact r5kb e
 ·exact Al.app (A_.mono λc x hc=>kR hc) (kR ⟨rfl,u,rfl,hu,hi⟩)
 ·obtain⟨c,a⟩:=h.o2;exact⟨c,(a.fr hf λi hi e=>(h.n1 i e).2.2.2.2.1 hi).fr fh λi hi e=>(h.n2 i hi).2.2.1 e⟩
 ·obtain⟨c,a⟩:=h.o3;exact⟨c,(a.fr hf λi hi e=>(h.n1 i e).2.2.2.2.2 hi).fr fh λi hi e=>(h.n3 i hi).2.2.1 e⟩
 ·intro q hq;cases hq
  refine⟨?_,lt5,r5kb,r5m,λe=>?_,λe=>?_⟩
  ·rcases hr with e|e
   ·exact(h.n1 _ e).1
   omega
  ·rcases hr with e'|e'
   ·exact(h.n1 _ e').2.2.2.2.1 e
   have:=(h.n2 _ e).2.1;omega
  rcases hr with e'|e'
  ·exact(h.n1 _ e').2.2.2.2.2 e
  have:=(h.n3 _ e).2.1;omega
 ·intro q hq;obtain⟨a,b,c⟩:=h.n2 q hq;exact⟨a,ax b hf.nx,c⟩
 intro q hq;obtain⟨a,b,c⟩:=h.n3 q hq;exact⟨a,ax b hf.nx,c⟩
def NB.grp(h:NB n0 kb m lm ll k2 k3 H1 lad gr fc r1 r2 r3){v5:AC}{r5:Nat}{H5:Hp}{c5:List AC}(ho:dA H5 v5 3 1 (k2+1) c5 (some r5))(hf:Fr (λi=>r2=some i) H1 H5)(hr:r2=some r5\/H1.nx<=r5):
  NB n0 kb m lm ll (k2+1) k3 (H5.mod kb (.arr [lad,.o (.mp m),v5,fc] 106 0 0)) lad v5 fc r1 (some r5) r3:=by
 have r5kb:r5≠kb:=by
  rcases hr with e|e
  ·exact(h.n2 _ e).2.2.1
  have:=h.kn.2;omega
 have r5m:r5≠m:=by
  rcases hr with e|e
  ·exact(h.n2 _ e).2.2.2.1
  have:=h.mn.2;omega
 have n0le:n0<=H1.nx:=aS h.kn.1 (mY h.kn.2);have lt5:r5<H5.nx:=by
  rcases ho with⟨_,_,_,e⟩|⟨id,lo,gen,e,_,_,_,_,hl⟩
  ·cases e
  cases e;exact hl
 refine⟨aq rfl,?_,?_,⟨c5,?_⟩,?_,⟨h.kn.1,ax h.kn.2 hf.nx⟩,⟨h.mn.1,ax h.mn.2 hf.nx⟩,h.km,?_,?_,?_⟩
 ·rw[aB (λe=>h.km e.symm),hf.get _ h.mn.2 λe=>(h.n2 _ e).2.2.2.1 rfl];exact h.mg
 ·obtain⟨css,a,b⟩:=h.o1;refine⟨css,(a.fr hf λi hi e=>(h.n1 i hi).2.2.2.2.1 e).fr fh λi hi e=>(h.n1 i hi).2.2.1 e,b.mono λc x⟨hc,u,e,hu,hi⟩=>⟨hc,u,e,SlC.fr (SlC.fr hu hf λi h' e=>(hi i h').2.2.2.1 e.symm) fh λi h' e=>(hi i h').1 e,λi h'=>⟨(hi i h').1,(hi i h').2.1,(hi i h').2.2.1,λe=>?_,(hi i h').2.2.2.2⟩⟩⟩;cases e
  rcases hr with e|e
  ·exact(hi _ h').2.2.2.1 e.symm
  have:=hu.lt _ h';omega
 ·exact ho.fr fh λi hi e=>by cases hi;exact r5kb e
 ·obtain⟨c,a⟩:=h.o3;exact⟨c,(a.fr hf λi hi e=>(h.n2 i e).2.2.2.2 hi).fr fh λi hi e=>(h.n3 i hi).2.2.1 e⟩
 ·intro q hq;obtain⟨a,b,c,d,e,f⟩:=h.n1 q hq;refine⟨a,ax b hf.nx,c,d,λe'=>?_,f⟩;cases e'
  rcases hr with e'|e'
  ·exact e e'
  omega
 ·intro q hq;cases hq
  refine⟨?_,lt5,r5kb,r5m,λe=>?_⟩
  ·rcases hr with e|e
   ·exact(h.n2 _ e).1
   omega
  rcases hr with e'|e'
  ·exact(h.n2 _ e').2.2.2.2 e
  have:=(h.n3 _ e).2.1;omega
 intro q hq;obtain⟨a,b,c⟩:=h.n3 q hq;exact⟨a,ax b hf.nx,c⟩
def NB.fac(h:NB n0 kb m lm ll k2 k3 H1 lad gr fc r1 r2 r3){v5:AC}{r5:Nat}{H5:Hp}{c5:List AC}(ho:dA H5 v5 116 2 (k3+1) c5 (some r5))(hf:Fr (λi=>r3=some i) H1 H5)(hr:r3=some r5\/H1.nx<=r5):
  NB n0 kb m lm ll k2 (k3+1) (H5.mod kb (.arr [lad,.o (.mp m),gr,v5] 106 0 0)) lad gr v5 r1 r2 (some r5):=by
 have r5kb:r5≠kb:=by
  rcases hr with e|e
  ·exact(h.n3 _ e).2.2.1
  have:=h.kn.2;omega
 have r5m:r5≠m:=by
  rcases hr with e|e
  ·exact(h.n3 _ e).2.2.2
  have:=h.mn.2;omega
 have n0le:n0<=H1.nx:=aS h.kn.1 (mY h.kn.2);have lt5:r5<H5.nx:=by
  rcases ho with⟨_,_,_,e⟩|⟨id,lo,gen,e,_,_,_,_,hl⟩
  ·cases e
  cases e;exact hl
 refine⟨aq rfl,?_,?_,?_,⟨c5,?_⟩,⟨h.kn.1,ax h.kn.2 hf.nx⟩,⟨h.mn.1,ax h.mn.2 hf.nx⟩,h.km,?_,?_,?_⟩
 ·rw[aB (λe=>h.km e.symm),hf.get _ h.mn.2 λe=>(h.n3 _ e).2.2.2 rfl];exact h.mg
 ·obtain⟨css,a,b⟩:=h.o1;refine⟨css,(a.fr hf λi hi e=>(h.n1 i hi).2.2.2.2.2 e).fr fh λi hi e=>(h.n1 i hi).2.2.1 e,b.mono λc x⟨hc,u,e,hu,hi⟩=>⟨hc,u,e,SlC.fr (SlC.fr hu hf λi h' e=>(hi i h').2.2.2.2 e.symm) fh λi h' e=>(hi i h').1 e,λi h'=>⟨(hi i h').1,(hi i h').2.1,(hi i h').2.2.1,(hi i h').2.2.2.1,λe=>?_⟩⟩⟩;cases e
  rcases hr with e|e
  ·exact(hi _ h').2.2.2.2 e.symm
  have:=hu.lt _ h';omega
 ·obtain⟨c,a⟩:=h.o2;exact⟨c,(a.fr hf λi hi e=>(h.n2 i hi).2.2.2.2 e).fr fh λi hi e=>(h.n2 i hi).2.2.1 e⟩
 ·exact ho.fr fh λi hi e=>by cases hi;exact r5kb e
 ·intro q hq;obtain⟨a,b,c,d,e,f⟩:=h.n1 q hq;refine⟨a,ax b hf.nx,c,d,e,λe'=>?_⟩;cases e'
  rcases hr with e'|e'
  ·exact f e'
  omega
 ·intro q hq;obtain⟨a,b,c,d,e⟩:=h.n2 q hq;refine⟨a,ax b hf.nx,c,d,λe'=>?_⟩;cases e'
  rcases hr with e'|e'
  ·exact e e'
  omega
 intro q hq;cases hq
 refine⟨?_,lt5,r5kb,r5m⟩;rcases hr with e|e
 ·exact(h.n3 _ e).1
 omega
def NB.book(h:NB n0 kb m lm lm k2 k3 H1 lad gr fc r1 r2 r3):tO H1 (.o (.ptr kb 0 0 4)) lm:=by obtain⟨css,a,b⟩:=h.o1;exact⟨kb,m,lad,gr,fc,rfl,h.kn.2,h.mn.2,h.kbg,h.mg,css,a.slc,b.mono λc x⟨hc,u,e,hu,_⟩=>⟨hc,u,e,hu⟩⟩
end
def mC{n:List UInt8}{us:List Pr}(h:aP n us=0):us.length<=12:=by
 unfold aP at h;by_cases hl:iP n us=true
 ·unfold iP at hl;simp only[aV,bI]at hl;omega
 rw[ab hl]at h;cases h
def abA{H:Hp}{m:Nat}{ls:List Lad}{x:Lad}(hg:H.get m=some (lA (plN 0 ls)))(hn:(jX 0 ls x.1).isSome=false):
  bE prog H 9 (.one (.o (.mp m))) (.one (.o (.str x.1))) (.one (.i .i64 (ls.length:Int)))=.val aQ (H.mod m (lA (plN 0 (ls++[x])))):=by
 rw[PE,Nat.zero_add];refine CA Vc hg ?_;rw[LN];cases h:jX 0 ls x.1 with
 |none=>rfl
 |some i=>rw[h]at hn;cases hn
def Kc(H:Hp)(v:AC)(ls:List Lad)(hl:iN H v ls):
  Con E2 21 [.one v,.one (.o .nilS)] H (λ_=>False) λr H'=>∃p,r=.tup [(false,[p]),(false,[.i .i64 (pJ ls)])]/\(pJ ls=0->tO H' p ls)/\(pJ ls≠0->p=.o .nilP):=by
 refine Con.lT (λH=>iN H v ls) hl λH hl=>?_;refine C1.fD 102 [.tmp 4,.tmp 5] Tryz.func21 λtm h0 h1=>?_;have lnB:ly prog 112=some 1:=ae;by_cases h32:(32:Int)<ls.length
 ·have c32:((32:Int)<ls.length)=True:=bH h32;refine qW aj ?_;repeat refine R1.aJ ?_
  refine qG (zDh aj h0 h1 pC hl.len hl.lt c32) λK hK=>?_;apply hK;refine qY ?_;refine qV ?_;refine⟨_,_,bP (.o .nilP) (.i .i64 3) (.inr rfl) rfl qp qp,Fr.refl _,λ_=>?_⟩;have:pJ ls=3:=ad h32;rw[this];exact⟨_,rfl,λh=>(by cases h),λ_=>rfl⟩
 have c32:((32:Int)<ls.length)=False:=bh h32;refine qW aj ?_;repeat refine R1.aJ ?_
 refine qG (zDi aj h0 h1 pC hl.len hl.lt c32 lnB) λK hK=>?_;apply hK;refine qY ?_;refine R1.bT ?_;repeat refine R1.aJ ?_
 refine qG (zDe aj ZP Zu RP) λK hK=>?_;apply hK;refine R1.gen (λA1 H1=>Gr H H1/\NB H.nx (H.nx+1) H.nx [] [] 0 0 H1 (.o .nilS) (.o .nilS) (.o .nilS) none none none/\oA A1 0 1 6 v (.o .nilS) (.o (.ptr (H.nx+1) 0 0 4)) 102 [])
  ⟨((Fr.refl _).new _).new _,⟨aC rfl,(bw (by rw[wx];omega)).trans (aC rfl),⟨[],.inl ⟨rfl,rfl,rfl,rfl⟩,trivial⟩,⟨[],.inl ⟨rfl,rfl,rfl,rfl⟩⟩,⟨[],.inl ⟨rfl,rfl,rfl,rfl⟩⟩,⟨Nat.le_succ _,ba _⟩,⟨ai _,tx (ba _)⟩,aa,λq h=>(by cases h),λq h=>(by cases h),λq h=>(by cases h)⟩,?_⟩ ?_
 ·exact qZ (qA h0 h1)
 clear h0 h1 tm;rintro A1 H1 ⟨g1,nb,t0,t1,t6,z0,A0⟩;obtain⟨kb,m_⟩:∃k,k=H.nx+1:=⟨_,rfl⟩;obtain⟨m,hm⟩:=dI H.nx;rw[<-m_]at nb t6;have nb:NB H.nx kb m [] [] 0 0 H1 (.o .nilS) (.o .nilS) (.o .nilS) none none none:=by rw[hm];exact nb
 clear m_ hm;have K9:=hl.gr g1;have L5:pJ ls=wm [] ls:=ab h32;rw[L5];generalize C0:wm [] ls=r0;refine qG (zDg aj t0 z0 pC K9.len K9.lt) λK hK=>?_;apply hK;refine R1.bj λK k1 k2 k3 k4=>?_;refine R1.loop (λk A2 H2=>∃(i:Nat)(lad gr fc:AC)(r1 r2 r3:Option Nat),k=ls.length-i/\i<=ls.length/\NB H.nx kb m (ls.take i) (ls.take i) i i H2 lad gr fc r1 r2 r3/\Gr H H2/\wm (ls.take i) (ls.drop i)=r0 /\
  slot A2.tm 1=.one (.o .nilS)/\slot A2.tm 6=.one (.o (.ptr kb 0 0 4))/\slot A2.tm 26=.one v/\slot A2.tm 27=.one (.i .i64 (ls.length:Int))/\slot A2.tm 28=.one (.i .i64 (i:Int))/\A2.nt=102/\A2.dfr=[]) ?_ ls.length
  ⟨0,_,_,_,_,_,_,rfl,Nat.zero_le _,nb,g1,C0,?_⟩
 ·clear t0 t1 t6 z0 A0 A1;rintro k A H1 ⟨i,lad,gr,fc,r1,r2,r3,rfl,hi,nb,g1,hr,t1,t6,t26,t27,t28,z0,A0⟩;have K9:=hl.gr g1;refine qW (zDe aj t27 t28 z0) ?_;refine qE λKx Ky hx hy=>?_;refine iI (λhc=>hx ?_) (λhc=>hy ?_)
  ·clear hx hy Kx Ky;have B0:i<ls.length:=aa;obtain⟨id,g,off,cells,rfl,W2,J5,J0⟩:=hl.open aa;have hid:id<H1.nx:=ax W2 g1.nx;have hg:rowOf (H1.get id) g=some cells:=by rw[g1.get _ W2 aE];exact J5
   have ex:=aA B0;have M0:=List.drop_eq_getElem_cons B0;have Y1:=cK B0;generalize ls[i]=x at ex M0 Y1;obtain⟨u,hu0,L4,O0,V6,hx3,h_,hx5⟩:=J0 i x ex;have hu:SlP H1 u x.2:=hu0.gr g1;have hidu:∀k∈(AV.one u).ids,k<H.nx:=hu0.lt;have J7:(ls.take i).length=i:=by rw[dM];omega
   have X1:=bB i;rw[M0,wm]at hr;refine qV ?_;refine R1.bj λK2 q1 q2 q3 q4=>?_;repeat refine R1.aJ ?_
   refine qG (zDm aj t26 t28 z0 gQ fW kr gO (ixC B0) hid hg (qA L4 O0)) λK hK=>?_;apply hK;refine R1.gen (λA3 H3=>Gr H1 H3/\H1.nx<H3.nx/\H3.get H1.nx=some (.arr [.o (.str x.1),u] 51 0 0)/\eQ A3.tm 1 6 (.o .nilS) (.o (.ptr kb 0 0 4)) (gU A3 i (slot A3.tm 8=.one (.o (.ptr H1.nx 0 0 2))/\xT A3 id g off ls.length ls.length i)))
    ⟨((Fr.refl _).new _).mod _ (.inl (ai _)),?_⟩ ?_
   ·exact qZ (zDh t1 t6 t26 t27 t28 z0 A0)
   clear t1 t6 t26 t27 t28 z0 A0 A;rintro A H3 ⟨g3,n3,rx,t1,t6,t7,t8,t26,t27,t28,z0,A0⟩;have nb3:=nb.MH g3;have g3':=g1.gr g3;repeat refine R1.aJ ?_
   refine qG (zDh aj t8 z0 rx n3 fW AE) λK hK=>?_;refine WE.con (xk H3 x.1 u x.2 (hu.gr g3)) λw H4 g4 hv=>?_;subst hv;have nb4:=nb3.MH g4;have rx:H4.get H1.nx=some (.arr [.o (.str x.1),u] 51 0 0):=by rw[g4.get _ n3 aE];exact rx
   have n4:H1.nx<H4.nx:=ax n3 g4.nx;have hu4:SlP H4 u x.2:=(hu.gr g3).gr g4;have g4':=g3'.gr g4;refine qS (qA aj z0) ?_;apply hK;refine qW (qA aj z0) ?_;refine qE λKx Ky hx hy=>?_;refine iI (λhd=>hx ?_) (λhd=>hy ?_)
   ·clear hx hy Kx Ky;have Q0:aP x.1 x.2≠0:=by simpa using hd
    rw[ad Q0]at hr;subst hr;refine qW (qA aj z0) ?_;refine q4 _ _ (k4 _ _ ⟨_,_,bP (.o .nilP) (.i .i64 (aP x.1 x.2)) (.inr rfl) (qd A0) qp qp,g4',λ_=>⟨_,rfl,λh=>absurd h Q0,λ_=>rfl⟩⟩)
   clear hx hy Kx Ky;have hz:aP x.1 x.2=0:=by simpa using hd
   rw[ab (λh=>h hz)]at hr;have hL12:=mC hz;refine R1.bT ?_;repeat refine R1.aJ ?_
   have lkb:=nb4.kn.2;have lm:=nb4.mn.2;have rkb:=nb4.kbg;repeat refine R1.aJ ?_
   refine R1.Co ae λK hK=>?_;simp only[qB,aZ,Nat.reduceLT,Nat.reduceEqDiff,Nat.reduceLeDiff,reduceIte,Nat.reduceAdd,Nat.reduceSub,Nat.reduceMul,Int.reduceLT,Int.reduceLE,Int.reduceBEq,aj,t6,t8,z0,rx,n4,rkb,lkb,lm,oP,kP,BL,bS,ME,CI,Ph nb4.mg];apply hK;cases l6:(jX 0 (ls.take i) x.1).isSome with
   |true=>rw[ad l6]at hr;subst hr;refine qW (qA aj z0) ?_;refine qY ?_;refine qW (qA aj z0) ?_;refine q4 _ _ (k4 _ _ ⟨_,_,bP (.o .nilP) (.i .i64 2) (.inr rfl) (qd A0) qp qp,g4',λ_=>⟨_,rfl,λh=>(by cases h),λ_=>rfl⟩⟩)
   |false=>
    rw[ab (by rw[l6];decide)]at hr;have hup:=abA nb4.mg l6;rw[J7]at hup;refine qW (qA aj z0) ?_;refine qY ?_;refine R1.bT ?_;refine qG (zDm aj t6 t7 t8 z0 rx n4 rkb lkb lm oP (zDf kP BL bS ME hup)) λK hK=>?_;apply hK;have nb5:=nb4.addM (ls.take i++[x]);have Z_:H.nx<=m:=nb4.mn.1;have X9:H.nx<=kb:=nb4.kn.1;have m1:m<H1.nx:=nb.mn.2;have o6:SlP (H4.mod m (lA (plN 0 (ls.take i++[x])))) u x.2:=SlC.fr hu4 fh λk h e=>by have:=hidu k h;omega
    have rx:(H4.mod m (lA (plN 0 (ls.take i++[x])))).get H1.nx=some (.arr [.o (.str x.1),u] 51 0 0):=by rw[aB aa];exact rx
    have g5':Gr H (H4.mod m (lA (plN 0 (ls.take i++[x])))):=g4'.mod _ (.inl Z_);have n5:H1.nx<(H4.mod m (lA (plN 0 (ls.take i++[x])))).nx:=n4;refine R1.gen (λA5 H5=>H5=H4.mod m (lA (plN 0 (ls.take i++[x])))/\eQ A5.tm 1 6 (.o .nilS) (.o (.ptr kb 0 0 4)) (gU A5 i (slot A5.tm 8=.one (.o (.ptr H1.nx 0 0 2))/\xT A5 id g off ls.length ls.length i))) ⟨rfl,?_⟩ ?_
    ·exact qZ (zDj t1 t6 t7 t8 t26 t27 t28 z0 A0)
    clear t1 t6 t7 t8 t26 t27 t28 z0 A0 A;rintro A H5 ⟨hH5,t1,t6,t7,t8,t26,t27,t28,z0,A0⟩;rw[<-hH5]at nb5 o6 rx g5' n5;clear hH5 rkb lkb lm;have lkb:=nb5.kn.2;have rkb:=nb5.kbg;refine qH (zDm aj t6 t8 z0 rx n5 rkb lkb xt nH fW Dx) λK hK=>?_;refine WE.po (AX H5 x.1 u x.2 o6 aa) λw H6 g6⟨u',hv,i_,U4⟩=>?_;subst hv;have nb6:=nb5.MH g6;obtain⟨css,ho1,A_⟩:=nb6.o1;obtain⟨zl,Q1,hzll⟩:=ND;obtain⟨R9,v7,H7,r7,B1,ho7,hf7,W_⟩:=gA gQ Ma Q1 hzll aU ho1 [.o (.str x.1),u'] rfl (by rw[J7];omega);have rk7:H7.get kb=some (.arr [lad,.o (.mp m),gr,fc] 106 0 0):=by rw[hf7.get _ nb6.kn.2 (λe=>(nb6.n1 _ e).2.2.1 rfl)];exact nb6.kbg
    have lk7:kb<H7.nx:=ax nb6.kn.2 hf7.nx;have E9:∀k∈(AV.one u').ids,k≠kb/\k≠m/\some k≠r1/\some k≠r2/\some k≠r3:=λk h=>by
     have h5:=U4 k h;refine⟨aa,by have:=nb5.mn.2;omega,λe=>?_,λe=>?_,λe=>?_⟩
     ·have:=(nb5.n1 _ e.symm).2.1;omega
     ·have:=(nb5.n2 _ e.symm).2.1;omega
     have:=(nb5.n3 _ e.symm).2.1;omega
    have nb8:=nb6.aay i_ E9 A_ ho7 hf7 W_;have g7:Gr H H7:=(g5'.gr g6).then hf7 λk hk=>.inl (nb6.n1 _ hk).1;have g8:Gr H (H7.mod kb (.arr [v7,.o (.mp m),gr,fc] 106 0 0)):=g7.mod _ (.inl X9);refine qS (zDm aj t6 z0 gQ gO jU R9 B1 rk7 lk7 xt zX) ?_;refine⟨R9,?_⟩;apply hK;refine R1.gen (λA5 H8=>H8=H7.mod kb (.arr [v7,.o (.mp m),gr,fc] 106 0 0)/\eQ A5.tm 1 6 (.o .nilS) (.o (.ptr kb 0 0 4)) (gU A5 i (xT A5 id g off ls.length ls.length i))) ⟨rfl,?_⟩ ?_
    ·exact qZ (zDi t1 t6 t7 t26 t27 t28 z0 A0)
    clear t1 t6 t7 t8 t26 t27 t28 z0 A0 A;rintro A H8 ⟨hH8,t1,t6,t7,t26,t27,t28,z0,A0⟩;rw[<-hH8]at nb8 g8;clear hH8 rk7 lk7 B1 R9 ho7 g7 A_ ho1 hf7;obtain⟨cg,ho2⟩:=nb8.o2;obtain⟨zi,hzi,T7⟩:=sH;obtain⟨R6,v9,H9,r9,happ9,Q7,j5,P7⟩:=gA dp mB hzi T7 aU ho2 [.i .i64 (i:Int)] rfl aa;have rk9:H9.get kb=some (.arr [v7,.o (.mp m),gr,fc] 106 0 0):=by rw[j5.get _ nb8.kn.2 (λe=>(nb8.n2 _ e).2.2.1 rfl)];exact nb8.kbg
    have lk9:kb<H9.nx:=ax nb8.kn.2 j5.nx;have nb10:=nb8.grp Q7 j5 P7;have g10:Gr H (H9.mod kb (.arr [v7,.o (.mp m),v9,fc] 106 0 0)):=(g8.then j5 λk hk=>.inl (nb8.n2 _ hk).1).mod _ (.inl X9);have rk8:=nb8.kbg;have lk8:=nb8.kn.2;refine qG (zDm aj t6 t7 z0 rk8 lk8 Rc jE dp xS jU (zDf happ9 R6 rk9 lk9 Hz)) λK hK=>?_;refine⟨R6,?_⟩;apply hK;refine R1.gen (λA5 H10=>H10=H9.mod kb (.arr [v7,.o (.mp m),v9,fc] 106 0 0)/\eQ A5.tm 1 6 (.o .nilS) (.o (.ptr kb 0 0 4)) (xT A5 id g off ls.length ls.length i)) ⟨rfl,?_⟩ ?_
    ·exact qZ (zDh t1 t6 t26 t27 t28 z0 A0)
    clear t1 t6 t7 t26 t27 t28 z0 A0 A;rintro A H10 ⟨hH10,t1,t6,t26,t27,t28,z0,A0⟩;rw[<-hH10]at nb10 g10;clear hH10 rk9 lk9 happ9 R6 Q7 j5 rk8 lk8 ho2;obtain⟨cf,X_⟩:=nb10.o3;obtain⟨zp,hzp,hzpl⟩:=ZS;obtain⟨hlt11,v11,H11,r11,happ11,ho11,hf11,hr11⟩:=gA IW Yh hzp hzpl aU X_ [.o .nilS,.o .nilS] rfl aa;have rk11:H11.get kb=some (.arr [v7,.o (.mp m),v9,fc] 106 0 0):=by rw[hf11.get _ nb10.kn.2 (λe=>(nb10.n3 _ e).2.2.1 rfl)];exact nb10.kbg
    have lk11:kb<H11.nx:=ax nb10.kn.2 hf11.nx;have nb12:=nb10.fac ho11 hf11 hr11;have g12:Gr H (H11.mod kb (.arr [v7,.o (.mp m),v9,v11] 106 0 0)):=(g10.then hf11 λk hk=>.inl (nb10.n3 _ hk).1).mod _ (.inl X9);have rk10:=nb10.kbg;have lk10:=nb10.kn.2;refine qG (zDm aj t6 z0 rk10 lk10 Re Vl IW Qp Zv jU (zDf happ11 hlt11 rk11 lk11 Xi)) λK hK=>?_;refine⟨hlt11,?_⟩;apply hK;refine q1 _ _ ?_;refine qW (zDd z0 t28 X1) ?_;rw[<-Y1]at nb12 hr;refine⟨ls.length-(i+1),aa,i+1,_,_,_,_,_,_,rfl,B0,nb12,g12,hr,?_,?_,?_,?_,?_,?_,?_⟩
    ·simp only[ak,Nat.reduceEqDiff,reduceIte,t1]
    ·simp only[ak,Nat.reduceEqDiff,reduceIte,t6]
    ·simp only[ak,Nat.reduceEqDiff,reduceIte,t26]
    ·simp only[ak,Nat.reduceEqDiff,reduceIte,t27]
    ·simp only[ak,Nat.reduceEqDiff,reduceIte]
    ·simp only[bq,z0]
    simp only[aM,A0]
  clear hx hy Kx Ky;have U0:i=ls.length:=aa;rw[U0,ct,wm]at hr;rw[U0,pZ]at nb;refine qW z0 ?_;refine k2 _ _ ?_;refine qW (zDe aj z0 t1 lnB) ?_;refine R1.bj λK2 q1 q2 q3 q4=>?_;refine R1.round ?_;refine qW (qA aj z0) ?_;refine qY ?_;refine qW z0 ?_;refine q2 _ _ ?_;refine qW (zDd aj z0 t6) ?_;refine⟨_,_,bP (.o (.ptr kb 0 0 4)) (.i .i64 0) (.inr rfl) (qd A0) qp qp,g1,λ_=>⟨_,by rw[<-hr],λ_=>nb.book,λh=>absurd hr.symm h⟩⟩
 simp only[ak,lj,Nat.reduceEqDiff,reduceIte,bq,aM,t1,t6,z0,A0,and_self,true_and];exact⟨rfl,trivial⟩
def XZ:ao prog 36=true:=ae
def Ts:ao prog 37=true:=ae
def xj:ao prog 14=true:=ae
def Qz:ao prog 95=true:=ae
def Xr:prog.underlying 31=some (.pointer 106):=ae
def abz:prog.underlying 103=some (.map 9 3):=ae
def dN(H:Hp)(p:AC):Option (List Lad)->Prop
 |some ls=>tO H p ls
 |none=>p=.o .nilP\/∃kb,p=.o (.ptr kb 0 0 4)/\kb<H.nx/\H.get kb=some (.arr [.o .nilS,.o .nilM,.o .nilS,.o .nilS] 106 0 0)
def dN.gr{H H':Hp}{p:AC}{o:Option (List Lad)}(h:dN H p o)(hg:Gr H H'):dN H' p o:=by
 cases o with
 |some ls=>exact tO.gr h hg
 |none=>refine Or.imp id ?_ h;rintro⟨kb,h1,h2,h3⟩;exact⟨kb,h1,ax h2 hg.nx,by rw[hg.get _ h2 aE];exact h3⟩
def dN.same{H H':Hp}{p:AC}{o:Option (List Lad)}(ht:H'.t=H.t)(hn:H'.nx=H.nx)(h:dN H p o):dN H' p o:=
 by
  obtain⟨t,nx,l⟩:=H;obtain⟨t',nx',l'⟩:=H';cases ht;cases hn
  exact h
def VO(H:Hp)(p:AC)(o:Option (List Lad))(hp:dN H p o):Con E2 36 [.one p] H (λ_=>False) λr _=>r=.one (.b o.isNone):=by
 refine Con.of rfl λlg=>?_;have hp:dN ⟨H.t,H.nx,lg⟩ p o:=dN.same (H:=H) rfl rfl hp;generalize(⟨H.t,H.nx,lg⟩:Hp)=H at hp |-
 refine C1.jR 12 [.tmp 2] Tryz.func36 λtm h0=>?_;have fin:∀(b:Bool)(A:ag),slot A.tm 2=.one (.b b)->A.dfr=[]->b=o.isNone->∃w H4,aK E2 [.tmp 2] (.ret,A,H)=.ok [(w,H4)]/\Gr H H4/\∀_:List Nat,w=.one (.b o.isNone):=λb A h1 h2 h3=>⟨_,_,aw (.b b) (.inr rfl) h2 h1,Fr.refl _,λ_=>by rw[h3]⟩;cases o with
 |some ls=>
  obtain⟨kb,m,lad,gr,fc,rfl,h2,h3,h4,h5,h6⟩:=hp;refine qV ?_;repeat refine R1.aJ ?_
  refine R1.sj λK hK=>?_;simp only[qB,aZ,Nat.reduceLT,Nat.reduceEqDiff,Nat.reduceLeDiff,reduceIte,Nat.reduceAdd,Nat.reduceSub,Nat.reduceMul,Int.reduceLT,Int.reduceLE,Int.reduceBEq,aj,h0,Az,rm,h2,h4,oP,BL,Td,Mh];apply hK;refine qV ?_;exact fin false _ qp rfl rfl
 |none=>
  rcases hp with rfl|⟨kb,rfl,h2,h4⟩
  ·refine qV ?_;repeat refine R1.aJ ?_
   refine R1.sj λK hK=>?_;simp only[qB,aZ,Nat.reduceLT,Nat.reduceEqDiff,Nat.reduceLeDiff,reduceIte,Nat.reduceAdd,Nat.reduceSub,Nat.reduceMul,Int.reduceLT,Int.reduceLE,Int.reduceBEq,aj,h0,Az,Je,Cb Xr,Pu];apply hK;refine qV ?_;exact fin true _ qp rfl rfl
  refine qV ?_;repeat refine R1.aJ ?_
  refine R1.sj λK hK=>?_;simp only[qB,aZ,Nat.reduceLT,Nat.reduceEqDiff,Nat.reduceLeDiff,reduceIte,Nat.reduceAdd,Nat.reduceSub,Nat.reduceMul,Int.reduceLT,Int.reduceLE,Int.reduceBEq,aj,h0,Az,rm,h2,h4,oP,BL,Td,Ul,MT abz,YZ];apply hK;refine qV ?_;exact fin true _ qp rfl rfl
def Ri(H:Hp)(p:AC)(ls:List Lad)(s:List UInt8)(hp:tO H p ls):Con E2 37 [.one p,.one (.o (.str s))] H (λ_=>False) λr _=>r=.tup [(false,[.i .i64 (((jX 0 ls s).getD 0:Nat):Int)]),(false,[.i .i64 (if(jX 0 ls s).isSome=true then 0 else 4)])]:=by
 refine Con.lT (λH=>tO H p ls) hp λH hp=>?_;refine C1.fD 20 [.tmp 4,.tmp 5] Tryz.func37 λtm h0 h1=>?_;obtain⟨kb,m,lad,gr,fc,rfl,h2,h3,h4,h5,h6⟩:=hp;refine qV ?_;repeat refine R1.aJ ?_
 refine R1.sj λK hK=>?_;simp only[qB,aZ,Nat.reduceLT,Nat.reduceEqDiff,Nat.reduceLeDiff,reduceIte,Nat.reduceAdd,Nat.reduceSub,Nat.reduceMul,Int.reduceLT,Int.reduceLE,Int.reduceBEq,aj,h0,h1,h2,h3,h4,oP,BL,ME,CI,Ph h5];apply hK;refine qG (qA aj vm) λK hK=>?_;refine WE.con (rY H _ 4) λv H7 g7 hv=>?_;subst hv;refine qS aj ?_;apply hK;refine qV ?_;exact⟨_,_,bP _ _ (.inr rfl) rfl qp qp,g7,λ_=>rfl⟩
def lV:Option (List Lad)->List UInt8->Int
 |none,_=>1
 |some ls,s=>if(jX 0 ls s).isSome=true then 0 else 4
def Ia(H:Hp)(c:List AC)(o:Option (List Lad))(s:List UInt8):Prop:=
 (lV o s≠0->c=[.o (.str []),.o .nilS])/\∀ls i x,o=some ls->jX 0 ls s=some i->ls[i]?=some x->uV H c x
def Rq(s:List UInt8):lV none s=1:=rfl
def jZ(ls:List Lad)(s:List UInt8):lV (some ls) s=if(jX 0 ls s).isSome=true then 0 else 4:=rfl
def GB{ls:List Lad}{s:List UInt8}{i:Nat}(h:jX 0 ls s=some i):∃x,ls[i]?=some x/\x.1=s:=by obtain⟨_,_,x,h3,h4⟩:=OT 0 ls s i h;exact⟨x,h3,h4⟩
def nF{E:Env}{s q:Tmp}{t:TypeId}{n:Nat}{A:ag}{H H2:Hp}{e:au}{id g lim:Nat}{cells:List AC}{c:AC}(ht:loadT E.P t=some (true,n))(he:e=.normal\/e=.ret)(hd:closeAll H A.dfr=some H2)(hs:slot A.tm s=.one (.o (.ptr id g 0 lim)))
  (hg:rowOf (H2.get id) g=some cells) (hl:n<=lim) (ho:cells.length=n) (hq:slot A.tm q=.one c):aK E [.cell s t,.tmp q] (e,A,H)=.ok [(.tup [(true,cells),(false,[c])],H2)]:=by
 have key:(aG (closeAll H A.dfr) (R.bad "marks") λh2=>aG (dq E.P [.cell s t,.tmp q] A.tm h2) (.bad "results") λl=>.ok [(gT l,h2)])=.ok [(.tup [(true,cells),(false,[c])],H2)]:=by
  rw[hd];have e1:ph E.P (.cell s t) A.tm H2=some (true,cells):=by
   have e0:ph E.P (.cell s t)=match loadT E.P t with|some p=>λtm h=>aG (tm.get s) none λv=>ah.rec (motive:=λ_=>Option (Bool×List AC)) (λv _=>mS v) (λ_=>none) (λ_ _=>none) (λ_ _=>none) (λ_=>none) (eu h p.1 p.2 v)|none=>λ_ _=>none:=rfl
   rw[e0,ht];show aG (A.tm.get s) none (λv=>ah.rec (motive:=λ_=>Option (Bool×List AC)) (λv _=>mS v) (λ_=>none) (λ_ _=>none) (λ_ _=>none) (λ_=>none) (eu H2 true n v))=_;rw[Mq hs];show ah.rec (motive:=λ_=>Option (Bool×List AC)) (λv _=>mS v) (λ_=>none) (λ_ _=>none) (λ_ _=>none) (λ_=>none) (eu H2 true n (.one (.o (.ptr id g 0 lim))))=_;rw[jW,hg,zu hl aa,List.drop_zero,iy aa];rfl
  have hr:dq E.P [.cell s t,.tmp q] A.tm H2=some [(true,cells),(false,[c])]:=by show aG (ph E.P (.cell s t) A.tm H2) none (λx=>aG (aG (aG (A.tm.get q) none mS) none λx=>aG (some []) none λl=>some (x::l)) none λl=>some (x::l))=_;rw[e1,Mq hq];rfl
  show aG (dq E.P [.cell s t,.tmp q] A.tm H2) (R.bad "results") (λl=>R.ok [(gT l,H2)])=_
  rw[hr];rfl
 rcases he with rfl|rfl
 ·exact key
 exact key
def uA(H:Hp)(p:AC)(o:Option (List Lad))(s:List UInt8)(hp:dN H p o)(hL:∀ls,o=some ls->∀x∈ls,x.2.length<=1000000):Con E2 14 [.one p,.one (.o (.str s))] H (λ_=>False) λr H'=>
  ∃c,r=.tup [(true,c),(false,[.i .i64 (lV o s)])]/\Ia H' c o s/\c.length=2:=by
 refine Con.of rfl λlg=>?_;have hp:dN ⟨H.t,H.nx,lg⟩ p o:=dN.same (H:=H) rfl rfl hp;generalize(⟨H.t,H.nx,lg⟩:Hp)=H at hp |-
 refine C1.fD 29 [.cell 4 51,.tmp 5] Tryz.func14 λtm h0 h1=>?_;refine qG (qA aj gO) λK hK=>?_;apply hK;refine R1.gen (λA1 H1=>Gr H H1/\H.nx<H1.nx/\H1.get H.nx=some (.arr [.o (.str []),.o .nilS] 51 0 0)/\oA A1 0 1 4 p (.o (.str s)) (.o (.ptr H.nx 0 0 2)) 29 [])
  ⟨(Fr.refl _).new _,?_⟩ ?_
 ·exact qZ (qA h0 h1)
 rintro A1 H1 ⟨g1,n1,r4,t0,t1,t4,z0,A0⟩;clear h0 h1 tm;have hp1:=hp.gr g1;refine qG (zDe aj t0 z0 XZ) λK hK=>?_;refine WE.con (VO H1 p o hp1) λv H2 g2 hv=>?_;subst hv;refine qS (qA aj z0) ?_;apply hK;have u7:=hp1.gr g2;have g2':=g1.gr g2;have r4:H2.get H.nx=some (.arr [.o (.str []),.o .nilS] 51 0 0):=by rw[g2.get _ n1 aE];exact r4
 have n2:H.nx<H2.nx:=ax n1 g2.nx;have fin:∀(A:ag)(H3:Hp)(c:List AC)(e:Int),slot A.tm 4=.one (.o (.ptr H.nx 0 0 2))->slot A.tm 5=.one (.i .i64 e)->A.dfr=[]->Gr H H3->H3.get H.nx=some (.arr c 51 0 0)->c.length=2->e=lV o s->Ia H3 c o s ->
   ∃w H4,aK E2 [.cell 4 51,.tmp 5] (.ret,A,H3)=.ok [(w,H4)]/\Gr H H4/\∀lg':List Nat,∃c,w=.tup [(true,c),(false,[.i .i64 (lV o s)])]/\Ia ⟨H4.t,H4.nx,lg'⟩ c o s/\c.length=2:=λA H3 c e h4 h5 hd hg hr hc he ha=>
  ⟨_,H3,nF (id:=H.nx) (g:=0) fW (.inr rfl) (by rw[hd];rfl) h4 (by rw[hr];exact cH (ai _) (ai _)) (ai _) hc h5,hg,λ_=>⟨c,by rw[he],ha,hc⟩⟩
 cases o with
 |none=>refine qY ?_;refine qW (zDi aj z0 gO Cf t4 kr r4 n2) ?_;exact fin _ _ _ 1 (by simp only[ak,Nat.reduceEqDiff,reduceIte,t4]) qp (qd A0) (g2'.mod _ (.inl (ai _))) (aq rfl) rfl rfl ⟨λ_=>rfl,λls i x h=>by cases h⟩
 |some ls=>
  refine qY ?_;refine R1.bT ?_;have u7:tO H2 p ls:=u7;refine qG (zDf aj t0 t1 z0 Ts) λK hK=>?_;refine WE.con (Ri H2 p ls s u7) λv H3 g3 hv=>?_;subst hv;refine qS (qA aj z0) ?_;apply hK;have hp3:=u7.gr g3;have r4:H3.get H.nx=some (.arr [.o (.str []),.o .nilS] 51 0 0):=by rw[g3.get _ n2 aE];exact r4
  have n3:H.nx<H3.nx:=ax n2 g3.nx;have g3':=g2'.gr g3;cases hfi:jX 0 ls s with
  |none=>
   have hle:lV (some ls) s=4:=by rw[jZ,hfi];rfl
   simp only[Option.isSome_none,Bool.false_eq_true,if_false];refine qW (qA aj z0) ?_;refine qY ?_;refine qW (zDi aj z0 gO Cf t4 kr r4 n3) ?_;exact fin _ _ _ 4 (by simp only[ak,Nat.reduceEqDiff,reduceIte,t4]) qp (qd A0) (g3'.mod _ (.inl (ai _))) (aq rfl) rfl hle.symm ⟨λ_=>rfl,λls' i x h h2=>by cases h;rw[hfi]at h2;cases h2⟩
  |some i=>
   have hle:lV (some ls) s=0:=by rw[jZ,hfi];rfl
   obtain⟨x,hx,B6⟩:=GB hfi;simp only[Option.isSome_some,if_true,Ah];refine qW (qA aj z0) ?_;refine qY ?_;refine R1.bT ?_;obtain⟨kb,m,lad,gr,fc,rfl,k1,k2,k3,k4,k5⟩:=hp3;have B0:i<ls.length:=(List.getElem?_eq_some_iff.1 hx).1;obtain⟨id,g,off,cells,rfl,hid,hg,J0⟩:=k5.open aa;obtain⟨u,hu,L4,O0,_⟩:=J0 i x hx;refine qG (zDm aj t0 z0 k1 k3 xt nH gQ fW (ixC B0) hid (zDe hg L4 O0 Dx)) λK hK=>?_;refine WE.con (AX H3 x.1 u x.2 hu (hL ls rfl x (gN hx))) λw H6 g6⟨u',hv,i_,U4⟩=>?_;subst hv;have r4:H6.get H.nx=some (.arr [.o (.str []),.o .nilS] 51 0 0):=by rw[g6.get _ n3 aE];exact r4
   have n6:H.nx<H6.nx:=ax n3 g6.nx;have I7:SlP (H6.mod H.nx (.arr [.o (.str x.1),u'] 51 0 0)) u' x.2:=SlC.fr i_ fh λk h e=>by have:=U4 k h;omega
   refine qS (zDg aj z0 t4 kr r4 n6) ?_;apply hK;refine qV ?_;exact fin _ _ _ 0 (by simp only[ak,Nat.reduceEqDiff,reduceIte,t4]) qp (qd A0) ((g3'.gr g6).mod _ (.inl (ai _))) (aq rfl) rfl hle.symm ⟨λh=>absurd hle h,λls' j y h h2 h3=>by
    cases h
    rw[hfi]at h2;cases h2
    rw[hx]at h3;cases h3
    exact⟨u',rfl,I7⟩⟩
def LI(H:Hp)(p:AC)(o:Option (List Lad))(hp:dN H p o)(hL:∀ls,o=some ls->∀x∈ls,x.2.length<=1000000):Con E2 95 [.one p] H (λ_=>False) λr _=>r=.one (.b o.isNone):=by
 refine Con.of rfl λlg=>?_;have hp:dN ⟨H.t,H.nx,lg⟩ p o:=dN.same (H:=H) rfl rfl hp;generalize(⟨H.t,H.nx,lg⟩:Hp)=H at hp |-
 refine C1.jR 12 [.tmp 2] Tryz.func95 λtm h0=>?_;refine qV ?_;refine qG (zDd aj h0 xj) λK hK=>?_;refine WE.con (uA H p o [] hp hL) λv H2 g2⟨c,hv,ha,hc⟩=>?_;subst hv;refine qS (zDe aj gO kr hc) ?_;apply hK;refine qV ?_;refine⟨_,_,aw (.b o.isNone) (.inr rfl) rfl ?_,(g2.new _).mod _ (.inl g2.nx),λ_=>rfl⟩;simp only[ak,Nat.reduceEqDiff,reduceIte];have:(lV o []==1)=o.isNone:=by
  cases o with
  |none=>rfl
  |some ls=>rw[jZ];split<;>rfl
 rw[this]
def aac{cells:List AC}{o:Nat}{a b c:AC}(h:(cells.drop o).take 3=[a,b,c]):(cells.drop o).headD (.b false)=a/\(cells.drop (o+1)).headD (.b false)=b/\(cells.drop (o+2)).headD (.b false)=c:=by
 rw[<-js,<-js];cases hd:cells.drop o with
 |nil=>rw[hd]at h;cases h
 |cons x r=>
  rw[hd]at h;cases r with
  |nil=>cases h
  |cons y r=>
   cases r with
   |nil=>cases h
   |cons z r=>cases h;exact⟨rfl,rfl,rfl⟩
section
variable{st:Bool}{E:Env}{A:ag}{H:Hp}{next:ag->Hp->Prop}{d:Option Tmp}{ty:TypeId}{pos:String}{af:Array Edge}{gd:Option (Nat×Bool)}
def qK{t:TypeId}{x i:Operand}:SK st E ⟨d,.index t x i,ty,pos,af,gd⟩ A H next=vN next A d (lQ H (rN E.P t) (ev A.tm x) (ev A.tm i) (aD E.P A.tm H ⟨d,.index t x i,ty,pos,af,gd⟩)):=pQ
def Xc{s:List UInt8}{n:Nat}{b:UInt8}{k:IntKind}{alt:ah}(h:s[n]?=some b):lQ H true (.one (.o (.str s))) (.one (.i k (n:Int))) alt=.val (.one (.i .u8 (b.toNat:Int))) H:=by show nd (Zc n s) _ _=_;rw[Px,h];rfl
def aar{c:UInt8}{s:List UInt8}{k:IntKind}{alt:ah}:lQ H true (.one (.o (.str (c::s)))) (.one (.i k 0)) alt=.val (.one (.i .u8 (c.toNat:Int))) H:=rfl
end
def my:ao prog 87=true:=ae
def PC(c:UInt8):okB c=(decide ((c.toNat:Int)=95)||(decide (97<=(c.toNat:Int))&&decide ((c.toNat:Int)<=122))||(decide (48<=(c.toNat:Int))&&decide ((c.toNat:Int)<=57))):=by rw[ix,GX];simp only[iZ,aV,bI,or_assoc]
def Ki(c:UInt8)(l:List UInt8):nmB (c::l)=(decide (l.length+1<=16)&&(decide (97<=(c.toNat:Int))&&decide ((c.toNat:Int)<=122))&&(c::l).all okB):=by
 unfold nmB;have e1:decide (97<=(c.toNat:Int))=decide ((97:UInt8)<=c):=by rw[decide_eq_decide,sE];show(97:Int)<=c.toNat↔97<=c.toNat;omega
 have e2:decide ((c.toNat:Int)<=122)=decide (c<=(122:UInt8)):=by rw[decide_eq_decide,sE];show(c.toNat:Int)<=122↔c.toNat<=122;omega
 rw[e1,e2];simp only[List.isEmpty_cons,Bool.not_false,Bool.true_and,List.length_cons,Bool.and_assoc]
def kW(H:Hp)(s:List UInt8):Con E2 87 [.one (.o (.str s))] H (λ_=>False) λv _=>v=.one (.b (nmB s)):=by
 refine Con.xw λH=>?_;refine C1.jR 52 [.tmp 2] Tryz.func87 λtm h0=>?_;cases s with
 |nil=>
  refine qW aj ?_;repeat refine R1.aJ ?_
  refine R1.sj λK hK=>?_;simp only[qB,aZ,Nat.reduceLT,Nat.reduceEqDiff,Nat.reduceLeDiff,reduceIte,Nat.reduceAdd,Nat.reduceSub,Nat.reduceMul,Int.reduceLT,Int.reduceLE,Int.reduceBEq,aj,h0,GO,qK,BG];apply hK;refine qY ?_;refine qV ?_;exact⟨_,_,aw (.b false) (.inr rfl) rfl qp,Fr.refl _,λ_=>rfl⟩
 |cons c l=>
  have K9:(((l.length+1:Nat):Int)<1)=False:=bh aa;refine qW aj ?_;repeat refine R1.aJ ?_
  refine R1.sj λK hK=>?_;simp only[qB,aZ,Nat.reduceLT,Nat.reduceEqDiff,Nat.reduceLeDiff,reduceIte,Nat.reduceAdd,Nat.reduceSub,Nat.reduceMul,Int.reduceLT,Int.reduceLE,Int.reduceBEq,aj,h0,GO,qK,BG,aar,K9];repeat' (refine NP (λhc=>?_) (λhc=>?_)<;>(try simp only[HU,HR,NA]at hc)<;>simp only[hc,qB,aZ,Nat.reduceLT,Nat.reduceEqDiff,Nat.reduceLeDiff,reduceIte,Nat.reduceAdd,Nat.reduceSub,Nat.reduceMul,Int.reduceLT,Int.reduceLE,Int.reduceBEq,aj,h0,GO,qK,BG,aar,K9])
  all_goals apply hK
  all_goals clear hK K
  all_goals refine qE λKx Ky hx hy=>?_
  all_goals first|refine hx ?_|refine hy ?_|refine iI (λhd=>hx ?_) (λhd=>hy ?_)
  all_goals clear hx hy Kx Ky
  all_goals refine qV ?_
  all_goals first
   |(refine⟨_,_,aw (.b false) (.inr rfl) rfl qp,Fr.refl _,λ_=>?_⟩
     have:nmB (c::l)=false:=Bool.eq_false_iff.2 λh=>by rw[Ki]at h;simp only[aV,bI]at h;omega
     rw[this];done)
   |skip
  rename_i hl16
  have Y_:nmB (c::l)=(c::l).all okB:=by rw[Ki,bp (by omega:l.length+1<=16),bp (by omega:97<=(c.toNat:Int)),bp (by omega:(c.toNat:Int)<=122)];rfl
  rw[Y_];clear Y_ K9 hc hd;generalize hs:c::l=s at h0 |-;have hlen:s.length<=16:=by rw[<-hs,List.length_cons];omega
  clear hl16 hs;refine R1.bj λK k1 k2 k3 k4=>?_;refine R1.loop (λm A1 H1=>∃i:Nat,m=s.length-i/\i<=s.length/\H1=H/\(s.take i).all okB=true/\slot A1.tm 0=.one (.o (.str s))/\iB A1 i (A1.nt=52/\A1.dfr=[])) ?_ s.length
   ⟨0,rfl,Nat.zero_le _,rfl,rfl,?_,?_,rfl,rfl⟩
  ·clear h0 tm;rintro m A1 H1 ⟨i,rfl,hi,rfl,V2,t0,t3,z0,A0⟩;refine qW (zDf aj t0 t3 z0 GO) ?_;refine qE λKx Ky hx hy=>?_;refine iI (λhc=>hx ?_) (λhc=>hy ?_)
   ·clear hx hy Kx Ky;have B0:i<s.length:=aa;have hb:=aA B0;have Y1:=cK B0;have D0:=bW B0;generalize s[i]=b at hb Y1 D0;refine R1.bT (R1.bj λK2 q1 q2 q3 q4=>?_);repeat refine R1.aJ ?_
    refine R1.sj λK hK=>?_;simp only[qB,aZ,Nat.reduceLT,Nat.reduceEqDiff,Nat.reduceLeDiff,reduceIte,Nat.reduceAdd,Nat.reduceSub,Nat.reduceMul,Int.reduceLT,Int.reduceLE,Int.reduceBEq,aj,t0,t3,z0,qK,BG,Xc hb];apply hK;refine qG (qA aj z0) λK hK=>?_;repeat' (refine NP (λhc=>?_) (λhc=>?_)<;>(try simp only[HU,HR,NA]at hc)<;>simp only[hc,qB,aZ,Nat.reduceLT,Nat.reduceEqDiff,Nat.reduceLeDiff,reduceIte,Nat.reduceAdd,Nat.reduceSub,Nat.reduceMul,Int.reduceLT,Int.reduceLE,Int.reduceBEq,aj,z0])
    all_goals apply hK
    all_goals clear hK K
    all_goals refine qE λKx Ky hx hy=>?_
    all_goals first|refine hx ?_|refine hy ?_|refine iI (λhd=>hx ?_) (λhd=>hy ?_)
    all_goals clear hx hy Kx Ky
    all_goals (try simp only[HX,ne_eq,NA]at hd)
    all_goals refine qW (qA t3 z0) ?_
    all_goals first
     |(refine q4 _ _ (k4 _ _ ⟨_,_,aw (.b false) (.inr rfl) (qd A0) qp,Fr.refl _,λ_=>?_⟩)
       have E4:okB b=false:=Bool.eq_false_iff.2 λh=>by rw[PC]at h;simp only[iZ,aV,bI]at h;omega
       have:s.all okB=false:=List.all_eq_false.2 ⟨b,D0,by rw[E4];decide⟩;rw[this];done)
     |(refine q1 _ _ ?_
       have E0:okB b=true:=by rw[PC];simp only[iZ,aV,bI];omega
       have X1:=bB i;refine qW (zDd t3 z0 X1) ?_;refine⟨s.length-(i+1),aa,i+1,rfl,B0,rfl,by rw[Y1,uQ,V2,List.all_cons,E0];rfl,?_,?_,?_,?_⟩
       ·simp only[ak,Nat.reduceEqDiff,reduceIte,t0]
       ·simp only[ak,Nat.reduceEqDiff,reduceIte]
       ·simp only[bq,z0]
       simp only[aM,A0])
   clear hx hy Kx Ky;have U0:i=s.length:=aa;refine qW z0 ?_;refine k2 _ _ ?_;refine qW z0 ?_;refine⟨_,_,aw (.b true) (.inr rfl) (qd A0) qp,Fr.refl _,λ_=>?_⟩;rw[U0,pZ]at V2;rw[V2]
  all_goals simp only[ak,Nat.reduceEqDiff,reduceIte,h0]
  all_goals rfl
def QI:ao prog 88=true:=ae
def DB:ao prog 89=true:=ae
def ye:ao prog 45=true:=ae
def rJ:Nat->List Pr->List UInt8->Int
 |_,[],_=>-1
 |n,x::l,s=>if x.1=s then(n:Int)else rJ (n+1) l s
def Ng(H:Hp)(n:List UInt8)(u:AC)(us:List Pr)(s:List UInt8)(hu:SlP H u us)(hL:us.length<=1000000):
  Con E2 88 [.agg [.o (.str n),u],.one (.o (.str s))] H (λ_=>False) λr _=>r=.one (.i .i64 (rJ 0 us s)):=by
 refine Con.lT (λH=>SlP H u us) hu λH hu=>?_;refine C1.fD 22 [.tmp 4] Tryz.func88 λtm h0 h1=>?_;generalize C0:rJ 0 us s=r0;refine qG (qA aj h0) λK hK=>?_;apply hK;refine R1.gen (λA1 H1=>Gr H H1/\H.nx<H1.nx/\H1.get H.nx=some (.arr [.o (.str n),u] 51 0 0)/\slot A1.tm 1=.one (.o (.str s))/\fb A1 H.nx (A1.nt=22/\A1.dfr=[]))
  ⟨(Fr.refl _).new _,?_⟩ ?_
 ·exact qZ h1
 rintro A1 H1 ⟨g1,lb,rb,t1,t2,z0,A0⟩;clear h0 h1 tm;have J2:=hu.gr g1;refine qW z0 ?_;refine R1.bj λK k1 k2 k3 k4=>?_;refine R1.loop (λk A H2=>∃i:Nat,k=us.length-i/\i<=us.length/\H2=H1/\rJ i (us.drop i) s=r0/\slot A.tm 1=.one (.o (.str s))/\fb A H.nx (fu A i (A.nt=22/\A.dfr=[]))) ?_ us.length
  ⟨0,rfl,Nat.zero_le _,rfl,C0,?_⟩
 ·clear t1 t2 z0 A0 A1;rintro k A H2 ⟨i,rfl,hi,rfl,hr,t1,t2,t5,z0,A0⟩;refine qW (zDl aj t2 t5 z0 rb lb dF dG fG J2.len J2.lt) ?_;refine qE λKx Ky hx hy=>?_;refine iI (λhc=>hx ?_) (λhc=>hy ?_)
  ·clear hx hy Kx Ky;have B0:i<us.length:=aa;obtain⟨id,g,off,cells,rfl,hid,W0,J0⟩:=J2.open aa;have ex:=aA B0;have M0:=List.drop_eq_getElem_cons B0;generalize us[i]=x at ex M0;have O0:=J0 i x ex;have X1:=bB i;rw[M0,rJ]at hr;refine qV ?_;refine R1.bj λK2 q1 q2 q3 q4=>?_;refine qG (zDm aj t1 t2 t5 z0 rb lb dF dG kO cV (zDg bS (ixC B0) hid W0 O0.fst O0.le1)) λK hK=>?_;apply hK;by_cases B6:x.1=s
   ·rw[ad B6]at hr;have ce:lEq x.1 s=true:=by rw[fF,B6,dk]
    refine qX ce ?_;refine qW (qA z0 t5) ?_;exact q4 _ _ (k4 _ _ ⟨_,_,aw (.i .i64 (i:Int)) (.inr rfl) (qd A0) qp,g1,λ_=>by rw[<-hr]⟩)
   rw[ab B6]at hr;have ce:lEq x.1 s=false:=by rw[fF];exact aF B6
   refine qX ce ?_;refine qW z0 ?_;refine q1 _ _ ?_;refine qW (zDd z0 t5 X1) ?_;refine⟨us.length-(i+1),aa,i+1,rfl,B0,rfl,hr,?_,?_,?_,?_,?_⟩
   ·simp only[ak,Nat.reduceEqDiff,reduceIte,t1]
   ·simp only[ak,Nat.reduceEqDiff,reduceIte,t2]
   ·simp only[ak,Nat.reduceEqDiff,reduceIte]
   ·simp only[bq,z0]
   simp only[aM,A0]
  clear hx hy Kx Ky;have U0:i=us.length:=aa;rw[U0,ct,rJ]at hr;refine qW z0 ?_;refine k2 _ _ ?_;refine qW z0 ?_;exact⟨_,_,aw (.i .i64 (-1)) (.inr rfl) (qd A0) qp,g1,λ_=>by rw[<-hr]⟩
 simp only[ak,lj,Nat.reduceEqDiff,reduceIte,bq,aM,t1,t2,z0,A0,and_self,true_and];exact⟨rfl,trivial⟩
def cR:Int->List Pr->Option (List Int)
 |_,[]=>some []
 |v,x::l=>if 1099511627776<v*x.2 then none else(cR (v*x.2) l).map (v*x.2::·)
def CZ(n:Int):List AC:=[.i .i64 n]
def UP(n:Int):(CZ n).length=1:=rfl
def SlI(H:Hp)(v:AC)(l:List Int):Prop:=SlC H v 1 l.length (l.flatMap CZ)
def uL(H:Hp)(n:List UInt8)(u:AC)(us:List Pr)(hu:SlP H u us)(hL:us.length<=1000000)(hf:∀x∈us,1<=x.2/\x.2<=60):
  Con E2 89 [.agg [.o (.str n),u]] H (λ_=>False) λr H'=>∃c,r=.tup [(false,[c]),(false,[.b (cR 1 us).isSome])]/\SlI H' c ((cR 1 us).getD []):=by
 refine Con.lT (λH=>SlP H u us) hu λH hu=>?_;refine C1.jR 29 [.tmp 2,.tmp 3] Tryz.func89 λtm h0=>?_;generalize C0:cR 1 us=r0;refine qG (qA aj h0) λK hK=>?_;apply hK;refine R1.gen (λA1 H1=>Gr H H1/\H.nx<H1.nx/\H1.get H.nx=some (.arr [.o (.str n),u] 51 0 0)/\eZ A1 H.nx (A1.nt=29/\A1.dfr=[]))
  ⟨(Fr.refl _).new _,?_⟩ ?_
 ·exact qU
 rintro A1 H1 ⟨g1,lb,rb,t1,z0,A0⟩;clear h0 tm;obtain⟨zi,hzi,T7⟩:=sH;refine qW z0 ?_;refine R1.bj λK k1 k2 k3 k4=>?_;refine R1.loop (λk A H2=>∃(i:Nat)(out:List Int)(v:Int)(v4:AC)(r:Option Nat),k=us.length-i/\i<=us.length/\out.length=i/\Gr H1 H2/\1<=v/\v<=1099511627776/\(cR v (us.drop i)).map (out++·)=r0/\dA H2 v4 3 1 out.length (out.flatMap CZ) r/\(∀q,r=some q->H1.nx<=q) /\
  slot A.tm 1=.one (.o (.ptr H.nx 0 0 2))/\slot A.tm 4=.one v4/\slot A.tm 5=.one (.i .i64 v)/\slot A.tm 6=.one (.i .i64 (i:Int))/\A.nt=29/\A.dfr=[]) ?_ us.length
  ⟨0,[],1,.o .nilS,none,rfl,Nat.zero_le _,rfl,Fr.refl _,aa,aa,?_,.inl ⟨rfl,rfl,rfl,rfl⟩,λq hq=>(by cases hq),?_⟩
 ·clear t1 z0 A0 A1;rintro k A H2 ⟨i,out,v,v4,r,rfl,hi,Z3,g2,G7,G5,hr,D6,G0,t1,t4,t5,t6,z0,A0⟩;have rb2:H2.get H.nx=some (.arr [.o (.str n),u] 51 0 0):=by rw[g2.get _ lb aE];exact rb
  have lb2:H.nx<H2.nx:=ax lb g2.nx;have o7:=(hu.gr g1).gr g2;refine qW (zDl aj t1 t6 z0 rb2 lb2 dF dG fG o7.len o7.lt) ?_;refine qE λKx Ky hx hy=>?_;refine iI (λhc=>hx ?_) (λhc=>hy ?_)
  ·clear hx hy Kx Ky;have B0:i<us.length:=aa;obtain⟨id,g,off,cells,rfl,hid,W0,J0⟩:=o7.open aa;have ex:=aA B0;have M0:=List.drop_eq_getElem_cons B0;have hff:=hf us[i] (bW B0);generalize us[i]=x at ex M0 hff;have O0:=J0 i x ex;have X1:=bB i;have hmul1:1<=v*x.2:=by have:=sC G7 hff.1 aa aa;omega
   have hmul2:v*x.2<=1099511627776*60:=sC G5 hff.2 aa aa;have hwm:=cB (v*x.2);rw[M0,cR]at hr;refine qV ?_;refine R1.bj λK2 q1 q2 q3 q4=>?_;refine qG (zDm aj t1 t5 t6 z0 rb2 lb2 dF dG kO dw (zDh bF (ixC B0) hid W0 O0.snd O0.le2 hwm)) λK hK=>?_;apply hK;refine qW z0 ?_;by_cases Z0:1099511627776<v*x.2
   ·have cb:(1099511627776<v*x.2)=True:=bH Z0;rw[ad Z0]at hr;refine qX cb ?_;refine qW z0 ?_;refine q4 _ _ (k4 _ _ ⟨_,_,bP (.o .nilS) (.b false) (.inr rfl) (qd A0) qp qp,g1.gr g2,λ_=>?_⟩);rw[<-hr];exact⟨_,rfl,by simp[SlI],.inl ⟨rfl,rfl⟩⟩
   have cb:(1099511627776<v*x.2)=False:=bh Z0;rw[ab Z0]at hr;obtain⟨V7,v6,H6,r6,B1,ho6,X6,hr6⟩:=gA dp mB hzi T7 aU D6 [.i .i64 (v*x.2)] rfl aa;refine qX cb ?_;refine R1.bT ?_;refine qG (zDi aj t4 z0 dp xS jU B1 V7) λK hK=>?_;refine⟨V7,?_⟩;apply hK;refine q1 _ _ ?_;refine qW (zDd z0 t6 X1) ?_;refine⟨us.length-(i+1),aa,i+1,out++[v*x.2],v*x.2,v6,some r6,rfl,B0,by rw[aI,Z3];rfl,g2.then X6 λq hq=>.inl (G0 q hq),hmul1,aa,?_,?_,λq hq=>?_,?_,?_,?_,?_,?_,?_⟩
   ·rw[<-hr,Option.map_map];congr 1
    funext l
    simp
   ·have e2:(out++[v*x.2]).flatMap CZ=out.flatMap CZ++[.i .i64 (v*x.2)]:=by rw[iX];rfl
    rw[aI,e2];exact ho6
   ·cases hq
    rcases hr6 with h|h
    ·exact G0 _ h
    exact aS g2.nx h
   ·simp only[ak,Nat.reduceEqDiff,reduceIte,t1]
   ·simp only[ak,Nat.reduceEqDiff,reduceIte]
   ·simp only[ak,Nat.reduceEqDiff,reduceIte]
   ·simp only[ak,Nat.reduceEqDiff,reduceIte]
   ·simp only[bq,z0]
   simp only[aM,A0]
  clear hx hy Kx Ky;have U0:i=us.length:=aa;rw[U0,ct,cR]at hr;refine qW z0 ?_;refine k2 _ _ ?_;refine qW (qA z0 t4) ?_;refine⟨_,_,bP v4 (.b true) (.inr rfl) (qd A0) qp qp,g1.gr g2,λ_=>?_⟩;rw[<-hr];refine⟨_,rfl,?_⟩;have e:((Option.map (λx=>out++x) (some [])).getD [])=out:=by simp
  rw[e];exact D6.slc
 ·rw[List.drop_zero,C0];cases r0<;>simp
 simp only[ak,lj,Nat.reduceEqDiff,reduceIte,bq,aM,t1,z0,A0,and_self,true_and];exact⟨rfl,trivial⟩
def pf(us:List Pr)(i:Nat)(x:Pr):Bool:=nmB x.1&&(decide (rJ 0 us x.1=(i:Int))&&(if i=0 then x.2==1 else decide (2<=x.2)&&decide (x.2<=60)))
def ko(n:List UInt8)(us:List Pr):Bool:=nmB n&&decide (1<=us.length)&&decide (us.length<=12)&&((List.range us.length).all λi=>pf us i (us.getD i ([],0)))&&(cR 1 us).isSome
def pd{n:List UInt8}{us:List Pr}{i:Nat}{x:Pr}(hx:us[i]?=some x)(h:pf us i x=false):(if ko n us=true then 0 else 10)=(10:Int):=by have B0:i<us.length:=(List.getElem?_eq_some_iff.1 hx).1;have:((List.range us.length).all λi=>pf us i (us.getD i ([],0)))=false:=List.all_eq_false.2 ⟨i,List.mem_range.2 B0,by rw[bt,hx];show¬pf us i x=true;rw[h];decide⟩;unfold ko;rw[this,Bool.and_false,Bool.false_and];rfl
def Ab:∀(v:Int)(us:List Pr),(yv v us).length=us.length↔(∀x∈us,1<=x.2/\x.2<=60)/\(cR v us).isSome=true
 |_,[]=>⟨λ_=>⟨λx hx=>(by cases hx),rfl⟩,λ_=>rfl⟩
 |v,u::us=>by
  unfold yv cR;have ih:=Ab (v*u.2) us;by_cases h:u.2<1\/60<u.2\/1099511627776<v*u.2
  ·rw[ad h];refine⟨λh'=>(by simp at h'),λ⟨h1,h2⟩=>?_⟩;have h3:=h1 u (aT ..);have h4:1099511627776<v*u.2:=aa;rw[ad h4]at h2;cases h2
  rw[ab h,ab aa,List.length_cons,List.length_cons,List.forall_mem_cons,Option.isSome_map];constructor
  ·intro h';obtain⟨a,b⟩:=ih.1 aa;exact⟨⟨aa,a⟩,b⟩
  rintro⟨⟨_,a⟩,b⟩;have:=ih.2 ⟨a,b⟩;omega
def GA:∀(n:Nat)(us:List Pr)(i:Nat)(x:Pr),us[i]?=some x->(rJ n us x.1=((n+i:Nat):Int)↔((us.take i).any λy=>y.1==x.1)=false)
 |_,[],_,_,h=>by simp at h
 |n,u::us,0,x,h=>by simp only[List.getElem?_cons_zero,tI]at h;subst h;unfold rJ;rw[ad rfl];exact⟨λ_=>rfl,λ_=>rfl⟩
 |n,u::us,i+1,x,h=>by
  rw[List.getElem?_cons_succ]at h;unfold rJ;rw[List.take_succ_cons,List.any_cons];by_cases hu:u.1=x.1
  ·rw[ad hu,hu,dk,Bool.true_or];exact⟨λh=>aa,λh=>by cases h⟩
  rw[ab hu,aF hu,Bool.false_or];have:=GA (n+1) us i x h;have e:n+1+i=n+(i+1):=aa;rw[e]at this;exact this
def Fk(n:List UInt8)(us:List Pr):ko n us=iP n us:=by
 rw[ix];unfold ko iP;simp only[aV,bI,om,CD,tG,HX];have J0:∀i,i<us.length->∃x,us[i]?=some x/\us.getD i ([],0)=x:=λi hi=>⟨us[i],aA hi,by rw[bt,aA hi];rfl⟩;constructor
 ·rintro⟨⟨⟨⟨h1,h2⟩,h3⟩,h4⟩,h5⟩;have fac:∀x∈us,1<=x.2/\x.2<=60:=λx hx=>by
   obtain⟨i,hi,rfl⟩:=List.getElem_of_mem hx;have:=h4 i hi;rw[bt,aA hi]at this;unfold pf at this;simp only[Ah,aV]at this;have h6:=this.2.2;split at h6
   ·have:=eq_of_beq h6;omega
   simp only[aV,bI]at h6;omega
  refine⟨⟨⟨⟨h1,aa⟩,aa⟩,(Ab 1 us).2 ⟨fac,h5⟩⟩,λi hi=>?_⟩;obtain⟨x,hx,hxd⟩:=J0 i hi;have h6:=h4 i hi;rw[hxd]at h6 |-;unfold pf at h6;unfold okU;simp only[aV,bI]at h6;have h7:=(GA 0 us i x hx).1 (by rw[Nat.zero_add];exact h6.2.1);rw[h6.1,h7];have h8:=h6.2.2;by_cases A6:i=0
  ·rw[ad A6]at h8;rw[h8,A6];rfl
  rw[ab A6]at h8;simp only[aV,bI]at h8;rw[aF (by omega:x.2≠1),aF (by omega:(i:Int)≠0)];rfl
 rintro⟨⟨⟨⟨h1,h2⟩,h3⟩,h4⟩,h5⟩;obtain⟨fac,hv⟩:=(Ab 1 us).1 h4;refine⟨⟨⟨⟨h1,aa⟩,aa⟩,λi hi=>?_⟩,hv⟩;obtain⟨x,hx,hxd⟩:=J0 i hi;have h6:=h5 i hi;rw[hxd]at h6 |-;unfold okU at h6;unfold pf;simp only[aV,tG]at h6;have h7:=(GA 0 us i x hx).2 h6.1.2;rw[Nat.zero_add]at h7;have hfx:=fac x (gN hx);rw[h6.1.1,h7,bp rfl];have h8:=eq_of_beq h6.2;by_cases A6:i=0
 ·rw[ad A6,h8,A6];rfl
 rw[ab A6];rw[aF (by omega:(i:Int)≠0)]at h8;have:x.2≠1:=λh=>by rw[h]at h8;cases h8
 rw[bp (by omega:2<=x.2),bp (by omega:x.2<=60)];rfl
def wE(H:Hp)(n:List UInt8)(u:AC)(us:List Pr)(hu:SlP H u us):
  Con E2 45 [.agg [.o (.str n),u]] H (λ_=>False) λr _=>r=.one (.i .i64 (aP n us)):=by
 refine Con.lT (λH=>SlP H u us) hu λH hu=>?_;unfold aP;rw[<-Fk];refine C1.jR 77 [.tmp 2] Tryz.func45 λtm h0=>?_;have fin:=rC E2 H 2 ((if ko n us=true then 0 else 10));refine qG (qA aj h0) λK hK=>?_;apply hK;refine R1.gen (λA1 H1=>Gr H H1/\H.nx<H1.nx/\H1.get H.nx=some (.arr [.o (.str n),u] 51 0 0)/\eZ A1 H.nx (A1.nt=77/\A1.dfr=[]))
  ⟨(Fr.refl _).new _,?_⟩ ?_
 ·exact qU
 rintro A1 H1 ⟨g1,lb,rb,t1,z0,A0⟩;clear h0 tm;refine qG (zDi aj t1 z0 rb lb kP bS my) λK hK=>?_;refine WE.con (kW H1 n) λw H2 g2 hw=>?_;subst hw;have g2':=g1.gr g2;have o7:=hu.gr g2';have rb:H2.get H.nx=some (.arr [.o (.str n),u] 51 0 0):=by rw[g2.get _ lb aE];exact rb
 have lb:H.nx<H2.nx:=ax lb g2.nx;cases Y_:nmB n with
 |false=>refine qS (qA aj z0) ?_;apply hK;refine qY ?_;refine qW z0 ?_;exact fin 10 _ _ qp (qd A0) g2' (by unfold ko;rw[Y_];rfl)
 |true=>
  by_cases h1:(us.length:Int)<1
  ·have c1:((us.length:Int)<1)=True:=bH h1;refine qS (zDl aj t1 z0 rb lb dF dG fG o7.len o7.lt c1) ?_;apply hK;refine qY ?_;refine qW z0 ?_;exact fin 10 _ _ qp (qd A0) g2' (by unfold ko;rw[bJ (by omega:¬1<=us.length)];simp)
  have c1:((us.length:Int)<1)=False:=bh h1;by_cases h12:(12:Int)<us.length
  ·have c12:((12:Int)<us.length)=True:=bH h12;refine qS (zDm aj t1 z0 rb lb dF dG fG o7.len o7.lt c1 c12) ?_;apply hK;refine qY ?_;refine qW z0 ?_;exact fin 10 _ _ qp (qd A0) g2' (by unfold ko;rw[bJ (by omega:¬us.length<=12)];simp)
  have c12:((12:Int)<us.length)=False:=bh h12;refine qS (zDm aj t1 z0 rb lb dF dG fG o7.len o7.lt c1 c12) ?_;apply hK;refine qY ?_;refine qW z0 ?_;refine R1.bj λK k1 k2 k3 k4=>?_;refine R1.loop (λk A H3=>∃i:Nat,k=us.length-i/\i<=us.length/\Gr H2 H3/\(∀j,j<i->pf us j (us.getD j ([],0))=true)/\eZ A H.nx (iB A i (A.nt=77/\A.dfr=[]))) ?_ us.length
   ⟨0,rfl,Nat.zero_le _,Fr.refl _,λj hj=>absurd hj (Nat.not_lt_zero j),?_⟩
  ·clear t1 z0 A0 A1;rintro k A H3 ⟨i,rfl,hi,g3,V2,t1,t3,z0,A0⟩;have t_:=o7.gr g3;have rb:H3.get H.nx=some (.arr [.o (.str n),u] 51 0 0):=by rw[g3.get _ lb aE];exact rb
   have lb:H.nx<H3.nx:=ax lb g3.nx;refine qW (zDl aj t1 t3 z0 rb lb dF dG fG t_.len t_.lt) ?_;refine qE λKx Ky hx hy=>?_;refine iI (λhc=>hx ?_) (λhc=>hy ?_)
   ·clear hx hy Kx Ky;have B0:i<us.length:=aa;have X1:=bB i;obtain⟨id,g,off,cells,rfl,hid,W0,J0⟩:=t_.open aa;have ex:=aA B0;generalize us[i]=x at ex;have O0:=J0 i x ex;refine qV ?_;refine R1.bj λK2 q1 q2 q3 q4=>?_;refine qG (zDm aj t1 t3 z0 rb lb dF dG kO vX tt (zDh qg (ixC B0) hid W0 O0.all O0.le gS)) λK hK=>?_;apply hK;refine R1.gen (λA4 H4=>Gr H3 H4/\H3.nx<H4.nx/\H4.get H3.nx=some (.arr (prC x) 133 0 0)/\eZ A4 H.nx (iB A4 i (eO A4 4 (.o (.ptr H3.nx 0 0 2)) 77 [])))
     ⟨((Fr.refl _).new _).mod _ (.inl (ai _)),?_⟩ ?_
    ·exact qZ (zDf t1 t3 z0 A0 gS)
    clear t1 t3 z0 A0 A;rintro A H4 ⟨g4,lx,rx,t1,t3,t4,z0,A0⟩;have rb:H4.get H.nx=some (.arr [.o (.str n),.o (.sl id g off us.length 2)] 51 0 0):=by rw[g4.get _ lb aE];exact rb
    have lb:H.nx<H4.nx:=ax lb g4.nx;refine qG (zDj aj t4 z0 rx lx cV bS gS my) λK hK=>?_;refine WE.con (kW H4 x.1) λw H5 g5 hw=>?_;subst hw;have rb:H5.get H.nx=some (.arr [.o (.str n),.o (.sl id g off us.length 2)] 51 0 0):=by rw[g5.get _ lb aE];exact rb
    have lb:H.nx<H5.nx:=ax lb g5.nx;have rx:H5.get H3.nx=some (.arr (prC x) 133 0 0):=by rw[g5.get _ lx aE];exact rx
    have lx:H3.nx<H5.nx:=ax lx g5.nx;have g25:Gr H2 H5:=(g3.gr g4).gr g5;cases S0:nmB x.1 with
    |false=>refine qS (zDm aj t1 t3 t4 z0 rx lx rb lb cV dw (zDe bS bF gS S0)) ?_;apply hK;refine qY ?_;refine qW z0 ?_;exact q4 _ _ (k4 _ _ (fin 10 _ _ qp (qd A0) (g2'.gr g25) (by rw[pd ex (by unfold pf;rw[S0];rfl)])))
    |true=>
     have o6:=o7.gr g25;refine qS (zDm aj t1 t3 t4 z0 rx lx rb lb cV dw (zDf bS bF gS fW QI)) ?_;refine WE.con (Ng H5 n _ us x.1 o6 aa) λw H6 g6 hw=>?_;subst hw;have rx:H6.get H3.nx=some (.arr (prC x) 133 0 0):=by rw[g6.get _ lx aE];exact rx
     have lx:H3.nx<H6.nx:=ax lx g6.nx;have g26:=g25.gr g6;by_cases hix:rJ 0 us x.1=(i:Int)
     ·have cix:(rJ 0 us x.1==(i:Int))=true:=by rw[jr];exact hix
      by_cases A6:i=0
      ·have ci0:((i:Int)==0)=true:=by rw[jr];omega
       have ci1:(0<(i:Int))=False:=bh aa;cases L9:(x.2==1)with
       |false=>refine qS (zDm aj t1 t3 t4 z0 rx lx rb lb cV dw (zDg bS bF gS cix ci0 L9)) ?_;apply hK;refine qY ?_;refine qW z0 ?_;exact q4 _ _ (k4 _ _ (fin 10 _ _ qp (qd A0) (g2'.gr g26) (by rw[pd ex (by unfold pf;rw[ad A6,L9,Bool.and_false,Bool.and_false])])))
       |true=>
        have E0:pf us i x=true:=by unfold pf;rw[S0,bp hix,ad A6,L9];rfl
        refine qS (zDm aj t1 t3 t4 z0 rx lx rb lb cV dw (zDh bS bF gS cix ci0 L9 ci1)) ?_;apply hK;refine qY ?_;refine qW z0 ?_;refine q1 _ _ ?_;refine qW (zDd z0 t3 X1) ?_;refine⟨us.length-(i+1),aa,i+1,rfl,B0,g26,λj hj=>?_,?_,?_,?_,?_⟩
        ·rcases cL j i with h|h
         ·exact V2 j h
         have:j=i:=aa;subst this;rw[bt,ex];exact E0
        ·simp only[ak,Nat.reduceEqDiff,reduceIte,t1]
        ·simp only[ak,Nat.reduceEqDiff,reduceIte]
        ·simp only[bq,z0]
        simp only[aM,A0]
      have ci0:((i:Int)==0)=false:=aF aa;have ci1:(0<(i:Int))=True:=bH aa;by_cases hf2:x.2<2
      ·have cf2:(x.2<2)=True:=bH hf2;refine qS (zDm aj t1 t3 t4 z0 rx lx rb lb cV dw (zDh bS bF gS cix ci0 ci1 cf2)) ?_;apply hK;refine qY ?_;refine qW z0 ?_;exact q4 _ _ (k4 _ _ (fin 10 _ _ qp (qd A0) (g2'.gr g26) (by rw[pd ex (by unfold pf;rw[ab A6,bJ (by omega:¬2<=x.2),Bool.false_and,Bool.and_false,Bool.and_false])])))
      have cf2:(x.2<2)=False:=bh hf2;by_cases hf60:60<x.2
      ·have cf60:(60<x.2)=True:=bH hf60;refine qS (zDm aj t1 t3 t4 z0 rx lx rb lb cV dw (zDi bS bF gS cix ci0 ci1 cf2 cf60)) ?_;apply hK;refine qY ?_;refine qW z0 ?_;exact q4 _ _ (k4 _ _ (fin 10 _ _ qp (qd A0) (g2'.gr g26) (by rw[pd ex (by unfold pf;rw[ab A6,bJ (by omega:¬x.2<=60),Bool.and_false,Bool.and_false,Bool.and_false])])))
      have cf60:(60<x.2)=False:=bh hf60;have E0:pf us i x=true:=by unfold pf;rw[S0,bp hix,ab A6,bp (by omega:2<=x.2),bp (by omega:x.2<=60)];rfl
      refine qS (zDm aj t1 t3 t4 z0 rx lx rb lb cV dw (zDi bS bF gS cix ci0 ci1 cf2 cf60)) ?_;apply hK;refine qY ?_;refine qW z0 ?_;refine q1 _ _ ?_;refine qW (zDd z0 t3 X1) ?_;refine⟨us.length-(i+1),aa,i+1,rfl,B0,g26,λj hj=>?_,?_,?_,?_,?_⟩
      ·rcases cL j i with h|h
       ·exact V2 j h
       have:j=i:=aa;subst this;rw[bt,ex];exact E0
      ·simp only[ak,Nat.reduceEqDiff,reduceIte,t1]
      ·simp only[ak,Nat.reduceEqDiff,reduceIte]
      ·simp only[bq,z0]
      simp only[aM,A0]
     have cix:(rJ 0 us x.1==(i:Int))=false:=aF hix;refine qS (zDm aj t1 t3 t4 z0 rx lx rb lb cV dw (zDe bS bF gS cix)) ?_;apply hK;refine qY ?_;refine qW z0 ?_;exact q4 _ _ (k4 _ _ (fin 10 _ _ qp (qd A0) (g2'.gr g26) (by rw[pd ex (by unfold pf;rw[bJ hix,Bool.false_and,Bool.and_false])])))
   clear hx hy Kx Ky;have hall':((List.range us.length).all λi=>pf us i (us.getD i ([],0)))=true:=List.all_eq_true.2 λj hj=>V2 j (by have:=List.mem_range.1 hj;omega);have fac:∀x∈us,1<=x.2/\x.2<=60:=λx hx=>by
    obtain⟨j,hj,rfl⟩:=List.getElem_of_mem hx;have:=V2 j aa;rw[bt,aA hj]at this;unfold pf at this;simp only[Ah,aV]at this;have h6:=this.2.2;split at h6
    ·have:=eq_of_beq h6;omega
    simp only[aV,bI]at h6;omega
   refine qW z0 ?_;refine k2 _ _ ?_;refine qG (zDh aj t1 z0 rb lb fW DB) λK hK=>?_;refine WE.con (uL H3 n u us t_ aa fac) λw H5 g5⟨c,hw,_⟩=>?_;subst hw;refine qS (qA aj z0) ?_;apply hK;have g5':=(g2'.gr g3).gr g5;cases Q3:(cR 1 us).isSome with
   |true=>
    refine qW z0 ?_;refine qY ?_;refine qW z0 ?_;refine fin 0 _ _ qp (qd A0) g5' ?_;have:ko n us=true:=by unfold ko;rw[Y_,hall',Q3,bp (by omega:1<=us.length),bp (by omega:us.length<=12)];rfl
    rw[this];rfl
   |false=>
    refine qW z0 ?_;refine qY ?_;refine qW z0 ?_;refine fin 10 _ _ qp (qd A0) g5' ?_;have:ko n us=false:=by unfold ko;rw[Q3,Bool.and_false]
    rw[this];rfl
  simp only[ak,lj,Nat.reduceEqDiff,reduceIte,bq,aM,t1,z0,A0,and_self,true_and];exact⟨rfl,trivial⟩
def XE:(aW prog 123).map (λz=>(ofValue z).cells)=some [.o .nilS,.o .nilS]:=ae
def mH:bG prog 123 0=some (0,22,1):=ae
def VZ:Nat->Option (Nat×Nat):=λi=>(#[(0,1),(1,1)]:Array (Nat×Nat))[i]?
def We:jm prog 123=some VZ:=ae
def acR:loadT prog 32=some (false,1):=ae
def Dr:dE prog 32=0:=ae
def AF:ao prog 47=true:=ae
def Tx:ao prog 46=true:=ae
def Ya:ao prog 22=true:=ae
def AJ:ao prog 132=true:=ae
def yn(H:Hp)(n:List UInt8)(u:AC)(us:List Pr)(hu:SlP H u us)(hL:us.length<=1000000):
  Con E2 47 [.agg [.o (.str n),u]] H (λ_=>False) λr H'=>∃u',r=.agg [.o (.str n),u']/\SlP H' u' us/\∀id∈(AV.one u').ids,H.nx<=id:=by
 refine Con.BB (λH=>SlP H u us) hu λH e hu=>?_;rw[<-e];clear e;refine C1.jR 11 [.cell 2 51] Tryz.func47 λtm h0=>?_;refine qG (zDd aj h0 gO) λK hK=>?_;apply hK;refine R1.gen (λA1 H1=>Gr H H1/\H.nx+1<H1.nx/\H1.get H.nx=some (.arr [.o (.str n),u] 51 0 0)/\H1.get (H.nx+1)=some (.arr [.o (.str []),.o .nilS] 51 0 0)/\eZ A1 H.nx (fb A1 (H.nx+1) (A1.nt=11/\A1.dfr=[])))
  ⟨((Fr.refl _).new _).new _,?_⟩ ?_
 ·exact qU
 rintro A1 H1 ⟨g1,n1,r1,r2,t1,t2,z0,A0⟩;clear h0 tm;have J2:SlP H1 u us:=hu.gr g1;have l1:H.nx<H1.nx:=aa;have hlu:ltV (.one u) H1.nx:=J2.lt;obtain⟨z,hz,Q1⟩:=Qr;refine qG (qA aj z0) λK hK=>?_;apply hK;obtain⟨v,H2,B1,hv,hvn,g2⟩:=Oe kO Oo hz Q1 aU J2 aa;clear hz Q1 z;have r2:H2.get (H.nx+1)=some (.arr [.o (.str []),.o .nilS] 51 0 0):=by rw[g2.get _ n1 aE];exact r2
 have n2:H.nx+1<H2.nx:=ax n1 g2.nx;have Q8:FrL H1.nx H1 H2:=FrL.of g2 λ_ h=>h.elim;have hv3:SlP (H2.mod (H.nx+1) (.arr [.o (.str n),v] 51 0 0)) v us:=SlC.fr hv (X:=λk=>k=H.nx+1) ((Fr.refl _).mod _ (.inr rfl)) λid h hh=>by have:=hvn id h;omega
 have hv4:∀id∈(AV.one v).ids,H.nx<=id:=λid h=>by have:=hvn id h;omega
 clear hvn;replace hv3:=ay hv3;replace hv4:=ay hv4;refine R1.s_q 7 ae λK hK=>?_;refine zQ (zDk aj kP dF bS dG gO Cf Kt Ku kr) ?_;apply hK.out;refine qV ?_;exact⟨_,_,kC (id:=H.nx+1) (g:=0) fW (.inr rfl) (by simp only[aM,A0];rfl) (by simp only[ak,Nat.reduceEqDiff,reduceIte,t2]) (by rw[aq rfl];exact cH (ai _) (ai _)) (ai _) rfl,(g1.gr g2).mod _ (.inl (Nat.le_succ _)),λ_=>⟨v,rfl,hv3.out,hv4.out⟩⟩
def RBk(H:Hp)(p:AC)(ls:List Lad):Prop:=∃kb lad,p=.o (.ptr kb 0 0 2)/\kb<H.nx/\H.get kb=some (.arr [lad,.o .nilS] 123 0 0)/\iN H lad ls
def RBk.gr{H H':Hp}{p:AC}{ls:List Lad}(h:RBk H p ls)(hg:Gr H H'):RBk H' p ls:=by obtain⟨kb,lad,h1,h2,h3,h4⟩:=h;exact⟨kb,lad,h1,ax h2 hg.nx,by rw[hg.get _ h2 aE];exact h3,h4.gr hg⟩
def atN:Nat->List Lad->List UInt8->Int
 |_,[],_=>-1
 |n,x::l,s=>if x.1=s then(n:Int)else atN (n+1) l s
def vk:∀(n:Nat)(ls:List Lad)(s:List UInt8),atN n ls s=(jX n ls s).elim (-1) λi=>(i:Int)
 |_,[],_=>rfl
 |n,x::l,s=>by
  unfold atN jX;by_cases h:x.1=s
  ·rw[ad h,ad h];rfl
  rw[ab h,ab h];exact vk (n+1) l s
def PJ(H:Hp)(p:AC)(ls:List Lad)(s:List UInt8)(hp:RBk H p ls)(hL:ls.length<=1000000):
  Con E2 46 [.one p,.one (.o (.str s))] H (λ_=>False) λr _=>r=.one (.i .i64 (atN 0 ls s)):=by
 refine Con.lT (λH=>RBk H p ls) hp λH hp=>?_;refine C1.fD 26 [.tmp 4] Tryz.func46 λtm h0 h1=>?_;obtain⟨kb,lad,rfl,k1,k2,hl⟩:=hp;generalize C0:atN 0 ls s=r0;refine qV ?_;refine R1.bj λK k1' k2' k3 k4=>?_;refine R1.loop (λk A H2=>∃i:Nat,k=ls.length-i/\i<=ls.length/\H2=H/\atN i (ls.drop i) s=r0/\eQ A.tm 0 1 (.o (.ptr kb 0 0 2)) (.o (.str s)) (fu A i (A.nt=26/\A.dfr=[]))) ?_ ls.length
  ⟨0,rfl,Nat.zero_le _,rfl,C0,?_⟩
 ·clear h0 h1 tm;rintro k A H2 ⟨i,rfl,hi,rfl,hr,t0,t1,t5,z0,A0⟩;refine qW (zDl aj t0 t5 z0 k1 k2 mH nH pC hl.len hl.lt) ?_;refine qE λKx Ky hx hy=>?_;refine iI (λhc=>hx ?_) (λhc=>hy ?_)
  ·clear hx hy Kx Ky;have B0:i<ls.length:=aa;obtain⟨id,g,off,cells,rfl,hid,W0,J0⟩:=hl.open aa;have ex:=aA B0;have M0:=List.drop_eq_getElem_cons B0;generalize ls[i]=x at ex M0;obtain⟨u,hu,L4,O0,V6,hx3,h_,hx5⟩:=J0 i x ex;have X1:=bB i;rw[M0,atN]at hr;refine qV ?_;refine R1.bj λK2 q1 q2 q3 q4=>?_;refine qG (zDm aj t0 t1 t5 z0 k1 k2 mH nH gQ kP (zDg bS (ixC B0) hid W0 V6 h_)) λK hK=>?_;apply hK;by_cases B6:x.1=s
   ·rw[ad B6]at hr;have ce:lEq x.1 s=true:=by rw[fF,B6,dk]
    refine qX ce ?_;refine qW (qA z0 t5) ?_;exact q4 _ _ (k4 _ _ ⟨_,_,aw (.i .i64 (i:Int)) (.inr rfl) (qd A0) qp,Fr.refl _,λ_=>by rw[<-hr]⟩)
   rw[ab B6]at hr;have ce:lEq x.1 s=false:=by rw[fF];exact aF B6
   refine qX ce ?_;refine qW z0 ?_;refine q1 _ _ ?_;refine qW (zDd z0 t5 X1) ?_;refine⟨ls.length-(i+1),aa,i+1,rfl,B0,rfl,hr,?_,?_,?_,?_,?_⟩
   ·simp only[ak,Nat.reduceEqDiff,reduceIte,t0]
   ·simp only[ak,Nat.reduceEqDiff,reduceIte,t1]
   ·simp only[ak,Nat.reduceEqDiff,reduceIte]
   ·simp only[bq,z0]
   simp only[aM,A0]
  clear hx hy Kx Ky;have U0:i=ls.length:=aa;rw[U0,ct,atN]at hr;refine qW z0 ?_;refine k2' _ _ ?_;refine qW z0 ?_;exact⟨_,_,aw (.i .i64 (-1)) (.inr rfl) (qd A0) qp,Fr.refl _,λ_=>by rw[<-hr]⟩
 simp only[ak,lj,Nat.reduceEqDiff,reduceIte,bq,aM,h0,h1,and_self,true_and];exact⟨rfl,trivial⟩
structure RB(n0 kb:Nat)(ll:List Lad)(H1:Hp)(lad:AC)(r1:Option Nat):Prop where
 kbg:H1.get kb=some (.arr [lad,.o .nilS] 123 0 0)
 o1:∃css:List (List AC),dA H1 lad 51 2 ll.length (css.flatMap id) r1/\Al (λc x=>c.length=2/\∃u,c=[.o (.str x.1),u]/\SlP H1 u x.2/\∀id∈(AV.one u).ids,id≠kb/\some id≠r1) css ll
 kn:n0<=kb/\kb<H1.nx
 n1:∀q,r1=some q->n0<=q/\q<H1.nx/\q≠kb
section
variable{n0 kb:Nat}{ll:List Lad}{H1 H2:Hp}{lad:AC}{r1:Option Nat}
def RB.MH(h:RB n0 kb ll H1 lad r1)(hg:Gr H1 H2):RB n0 kb ll H2 lad r1 where
 kbg:=by rw[hg.get _ h.kn.2 aE];exact h.kbg
 o1:=let ⟨css,a,b⟩:=h.o1;⟨css,a.fr hg λ_ _ h=>h,b.mono λc x⟨hc,u,e,hu,hi⟩=>⟨hc,u,e,hu.gr hg,hi⟩⟩
 kn:=⟨h.kn.1,ax h.kn.2 hg.nx⟩
 n1:=λq hq=>let ⟨a,b,c⟩:=h.n1 q hq;⟨a,ax b hg.nx,c⟩
def RB.aay(h:RB n0 kb ll H1 lad r1){x:Lad}{u v5:AC}{r5:Nat}{H5:Hp}(hu:SlP H1 u x.2)(hi:∀id∈(AV.one u).ids,id≠kb/\some id≠r1)
  {css:List (List AC)} (A_:Al (λc x=>c.length=2/\∃u,c=[.o (.str x.1),u]/\SlP H1 u x.2/\∀id∈(AV.one u).ids,id≠kb/\some id≠r1) css ll)
  (ho:dA H5 v5 51 2 (ll.length+1) (css.flatMap id++[.o (.str x.1),u]) (some r5)) (hf:Fr (λi=>r1=some i) H1 H5) (hr:r1=some r5\/H1.nx<=r5):
  RB n0 kb (ll++[x]) (H5.mod kb (.arr [v5,.o .nilS] 123 0 0)) v5 (some r5):=by
 have r5kb:r5≠kb:=by
  rcases hr with e|e
  ·exact(h.n1 _ e).2.2
  have:=h.kn.2;omega
 have n0le:n0<=H1.nx:=aS h.kn.1 (mY h.kn.2);have lt5:r5<H5.nx:=by
  rcases ho with⟨_,_,_,e⟩|⟨id,lo,gen,e,_,_,_,_,hl⟩
  ·cases e
  cases e;exact hl
 have kR:∀{c:List AC}{x:Lad},(c.length=2/\∃u,c=[.o (.str x.1),u]/\SlP H1 u x.2/\∀id∈(AV.one u).ids,id≠kb/\some id≠r1) ->
   c.length=2/\∃u,c=[.o (.str x.1),u]/\SlP (H5.mod kb (.arr [v5,.o .nilS] 123 0 0)) u x.2/\∀id∈(AV.one u).ids,id≠kb/\some id≠some r5:=by
  rintro c x ⟨hc,u,e,hu,hi⟩;refine⟨hc,u,e,SlC.fr (SlC.fr hu hf λi h' e=>(hi i h').2 e.symm) fh λi h' e=>(hi i h').1 e,λi h'=>⟨(hi i h').1,λe=>?_⟩⟩;cases e
  rcases hr with e|e
  ·exact(hi _ h').2 e.symm
  have:=hu.lt _ h';omega
 refine⟨aq rfl,⟨css++[[.o (.str x.1),u]],?_,?_⟩,⟨h.kn.1,ax h.kn.2 hf.nx⟩,?_⟩
 ·rw[aI,List.length_singleton,iX];exact ho.fr fh λi hi e=>by cases hi;exact r5kb e
 ·exact Al.app (A_.mono λc x hc=>kR hc) (kR ⟨rfl,u,rfl,hu,hi⟩)
 intro q hq;cases hq
 refine⟨?_,lt5,r5kb⟩;rcases hr with e|e
 ·exact(h.n1 _ e).1
 omega
def RB.book(h:RB n0 kb ll H1 lad r1):RBk H1 (.o (.ptr kb 0 0 2)) ll:=by obtain⟨css,a,b⟩:=h.o1;exact⟨kb,lad,rfl,h.kn.2,h.kbg,css,a.slc,b.mono λc x⟨hc,u,e,hu,_⟩=>⟨hc,u,e,hu⟩⟩
end
def Wm(H:Hp)(v:AC)(ls:List Lad)(hl:iN H v ls):
  Con E2 22 [.one v,.one (.o .nilS)] H (λ_=>False) λr H'=>∃p,r=.tup [(false,[p]),(false,[.i .i64 (pJ ls)])]/\(pJ ls=0->RBk H' p ls)/\(pJ ls≠0->p=.o .nilP):=by
 refine Con.lT (λH=>iN H v ls) hl λH hl=>?_;refine C1.fD 86 [.tmp 4,.tmp 5] Tryz.func22 λtm h0 h1=>?_;have lnB:ly prog 112=some 1:=ae;by_cases h32:(32:Int)<ls.length
 ·have c32:((32:Int)<ls.length)=True:=bH h32;refine qW aj ?_;refine qG (zDh aj h0 h1 pC hl.len hl.lt c32) λK hK=>?_;apply hK;refine qY ?_;refine qV ?_;refine⟨_,_,bP (.o .nilP) (.i .i64 3) (.inr rfl) rfl (by simp only[ak,Nat.reduceEqDiff,reduceIte,vF]) qp,Fr.refl _,λ_=>?_⟩;have:pJ ls=3:=ad h32;rw[this];exact⟨_,rfl,λh=>(by cases h),λ_=>rfl⟩
 have c32:((32:Int)<ls.length)=False:=bh h32;refine qW aj ?_;refine qG (zDi aj h0 h1 pC hl.len hl.lt c32 lnB) λK hK=>?_;apply hK;refine qY ?_;refine R1.bT ?_;refine qG (zDd aj XE We) λK hK=>?_;apply hK;refine R1.gen (λA1 H1=>Gr H H1/\RB H.nx H.nx [] H1 (.o .nilS) none/\eQ A1.tm 0 1 v (.o .nilS) (fM A1 H.nx (A1.nt=86/\A1.dfr=[])))
  ⟨(Fr.refl _).new _,⟨aC rfl,⟨[],.inl ⟨rfl,rfl,rfl,rfl⟩,trivial⟩,⟨ai _,ba _⟩,λq h=>(by cases h)⟩,?_⟩ ?_
 ·exact qZ (qA h0 h1)
 clear h0 h1 tm;rintro A1 H1 ⟨g1,nb,t0,t1,t6,z0,A0⟩;obtain⟨kb,m_⟩:=dI H.nx;rw[<-m_]at t6;have nb:RB H.nx kb [] H1 (.o .nilS) none:=by rw[m_];exact nb
 clear m_;have L5:pJ ls=wm [] ls:=ab h32;rw[L5];generalize C0:wm [] ls=r0;refine qW z0 ?_;refine R1.bj λK k1 k2 k3 k4=>?_;refine R1.loop (λk A2 H2=>∃(i:Nat)(lad:AC)(r1:Option Nat),k=ls.length-i/\i<=ls.length/\RB H.nx kb (ls.take i) H2 lad r1/\Gr H H2/\wm (ls.take i) (ls.drop i)=r0 /\
  slot A2.tm 0=.one v/\slot A2.tm 1=.one (.o .nilS)/\slot A2.tm 6=.one (.o (.ptr kb 0 0 2))/\slot A2.tm 7=.one (.i .i64 (i:Int))/\A2.nt=86/\A2.dfr=[]) ?_ ls.length
  ⟨0,_,_,rfl,Nat.zero_le _,nb,g1,C0,?_⟩
 ·clear t0 t1 t6 z0 A0 A1;rintro k A H1 ⟨i,lad,r1,rfl,hi,nb,g1,hr,t0,t1,t6,t7,z0,A0⟩;have K9:=hl.gr g1;refine qW (zDh aj t0 t7 z0 pC K9.len K9.lt) ?_;refine qE λKx Ky hx hy=>?_;refine iI (λhc=>hx ?_) (λhc=>hy ?_)
  ·clear hx hy Kx Ky;have B0:i<ls.length:=aa;obtain⟨id,g,off,cells,rfl,W2,J5,J0⟩:=hl.open aa;have hid:id<H1.nx:=ax W2 g1.nx;have hg:rowOf (H1.get id) g=some cells:=by rw[g1.get _ W2 aE];exact J5
   have ex:=aA B0;have M0:=List.drop_eq_getElem_cons B0;have Y1:=cK B0;generalize ls[i]=x at ex M0 Y1;obtain⟨u,hu0,L4,O0,V6,hx3,h_,hx5⟩:=J0 i x ex;have hu:SlP H1 u x.2:=hu0.gr g1;have J7:(ls.take i).length=i:=by rw[dM];omega
   have X1:=bB i;rw[M0,wm]at hr;refine qV ?_;refine R1.bj λK2 q1 q2 q3 q4=>?_;refine qG (zDm aj t0 t7 z0 gQ fW (ixC B0) hid hg L4 O0 ye) λK hK=>?_;refine WE.con (wE H1 x.1 u x.2 hu) λw H4 g4 hv=>?_;subst hv;have nb4:=nb.MH g4;have g4':=g1.gr g4;have hid4:id<H4.nx:=ax hid g4.nx;have hg4:rowOf (H4.get id) g=some cells:=by rw[g4.get _ hid aE];exact hg
   refine qS (qA aj z0) ?_;apply hK;refine qW (qA aj z0) ?_;refine qE λKx Ky hx hy=>?_;refine iI (λhd=>hx ?_) (λhd=>hy ?_)
   ·clear hx hy Kx Ky;have Q0:aP x.1 x.2≠0:=by simpa using hd
    rw[ad Q0]at hr;subst hr;refine qW (qA aj z0) ?_;refine q4 _ _ (k4 _ _ ⟨_,_,bP (.o .nilP) (.i .i64 (aP x.1 x.2)) (.inr rfl) (qd A0) (by simp only[ak,Nat.reduceEqDiff,reduceIte,vF]) qp,g4',λ_=>⟨_,rfl,λh=>absurd h Q0,λ_=>rfl⟩⟩)
   clear hx hy Kx Ky;have hz:aP x.1 x.2=0:=by simpa using hd
   rw[ab (λh=>h hz)]at hr;have hL12:=mC hz;refine R1.bT ?_;refine qG (zDm aj t0 t6 t7 z0 gQ kP bS (ixC B0) hid4 hg4 (zDd V6 h_ Tx)) λK hK=>?_;refine WE.con (PJ H4 _ (ls.take i) x.1 nb4.book aa) λw H5 g5 hw=>?_;subst hw;have nb5:=nb4.MH g5;have g5':=g4'.gr g5;have hid5:id<H5.nx:=ax hid4 g5.nx;have hg5:rowOf (H5.get id) g=some cells:=by rw[g5.get _ hid4 aE];exact hg4
   cases l6:jX 0 (ls.take i) x.1 with
   |some j=>have cge:(0<=atN 0 (ls.take i) x.1)=True:=bH (by rw[vk,l6,tz];omega);rw[ad (by rw[l6];rfl)]at hr;subst hr;refine qS (zDd aj z0 cge) ?_;apply hK;refine qY ?_;refine qW (qA aj z0) ?_;refine q4 _ _ (k4 _ _ ⟨_,_,bP (.o .nilP) (.i .i64 2) (.inr rfl) (qd A0) (by simp only[ak,Nat.reduceEqDiff,reduceIte,vF]) qp,g5',λ_=>⟨_,rfl,λh=>(by cases h),λ_=>rfl⟩⟩)
   |none=>
    have cge:(0<=atN 0 (ls.take i) x.1)=False:=bh (by rw[vk,l6,HM];omega);rw[ab (by rw[l6];decide)]at hr;refine qS (zDd aj z0 cge) ?_;apply hK;refine qY ?_;refine R1.bT ?_;have X9:H.nx<=kb:=nb5.kn.1;have lkb:=nb5.kn.2;have rkb:=nb5.kbg;have o6:SlP H5 u x.2:=hu0.gr g5';refine qH (zDm aj t0 t6 t7 z0 rkb lkb mH nH fW gQ (zDg (ixC B0) hid5 hg5 L4 O0 AF)) λK hK=>?_;refine WE.po (yn H5 x.1 u x.2 o6 aa) λw H6 g6⟨u',hv,i_,U4⟩=>?_;subst hv;have nb6:=nb5.MH g6;obtain⟨css,ho1,A_⟩:=nb6.o1;obtain⟨zl,Q1,hzll⟩:=ND;obtain⟨R9,v7,H7,r7,B1,ho7,hf7,W_⟩:=gA gQ Ma Q1 hzll aU ho1 [.o (.str x.1),u'] rfl (by rw[J7];omega);have rk7:H7.get kb=some (.arr [lad,.o .nilS] 123 0 0):=by rw[hf7.get _ nb6.kn.2 (λe=>(nb6.n1 _ e).2.2 rfl)];exact nb6.kbg
    have lk7:kb<H7.nx:=ax nb6.kn.2 hf7.nx;have E9:∀k∈(AV.one u').ids,k≠kb/\some k≠r1:=λk h=>by have h5:=U4 k h;refine⟨aa,λe=>?_⟩;have:=(nb5.n1 _ e.symm).2.1;omega
    have nb8:=nb6.aay i_ E9 A_ ho7 hf7 W_;have g8:Gr H (H7.mod kb (.arr [v7,.o .nilS] 123 0 0)):=((g5'.gr g6).then hf7 λk hk=>.inl (nb6.n1 _ hk).1).mod _ (.inl X9);refine qS (zDm aj t6 z0 gQ gO jU R9 B1 rk7 lk7 mH zX) ?_;refine⟨R9,?_⟩;apply hK;refine q1 _ _ ?_;refine qW (zDd z0 t7 X1) ?_;rw[<-Y1]at nb8 hr;refine⟨ls.length-(i+1),aa,i+1,_,_,rfl,B0,nb8,g8,hr,?_,?_,?_,?_,?_,?_⟩
    ·simp only[ak,Nat.reduceEqDiff,reduceIte,t0]
    ·simp only[ak,Nat.reduceEqDiff,reduceIte,t1]
    ·simp only[ak,Nat.reduceEqDiff,reduceIte,t6]
    ·simp only[ak,Nat.reduceEqDiff,reduceIte]
    ·simp only[bq,z0]
    simp only[aM,A0]
  clear hx hy Kx Ky;have U0:i=ls.length:=aa;rw[U0,ct,wm]at hr;rw[U0,pZ]at nb;refine qW z0 ?_;refine k2 _ _ ?_;refine qW (qA aj z0) ?_;refine R1.bj λK2 q1 q2 q3 q4=>?_;refine R1.round ?_;refine qW (zDe aj z0 t1 lnB) ?_;refine qY ?_;refine qW z0 ?_;refine q2 _ _ ?_;refine qW (zDd aj z0 t6) ?_;refine⟨_,_,bP (.o (.ptr kb 0 0 2)) (.i .i64 0) (.inr rfl) (qd A0) qp qp,g1,λ_=>⟨_,by rw[<-hr],λ_=>nb.book,λh=>absurd hr.symm h⟩⟩
 simp only[ak,lj,Nat.reduceEqDiff,reduceIte,bq,aM,t0,t1,t6,z0,A0,and_self,true_and];exact⟨rfl,trivial⟩
def yM(H:Hp)(p:AC)(ls:List Lad)(s:List UInt8)(hp:RBk H p ls)(hL:∀x∈ls,x.2.length<=1000000)(q_:ls.length<=1000000):Con E2 132 [.one p,.one (.o (.str s))] H (λ_=>False) λr H'=>
  ∃c,r=.tup [(true,c),(false,[.i .i64 (lV (some ls) s)])]/\Ia H' c (some ls) s/\c.length=2:=by
 refine Con.lT (λH=>RBk H p ls) hp λH hp=>?_;refine C1.fD 21 [.cell 4 51,.tmp 5] Tryz.func132 λtm h0 h1=>?_;refine qG (qA aj gO) λK hK=>?_;apply hK;refine R1.gen (λA1 H1=>Gr H H1/\H.nx<H1.nx/\H1.get H.nx=some (.arr [.o (.str []),.o .nilS] 51 0 0)/\oA A1 0 1 4 p (.o (.str s)) (.o (.ptr H.nx 0 0 2)) 21 [])
  ⟨(Fr.refl _).new _,?_⟩ ?_
 ·exact qZ (qA h0 h1)
 rintro A1 H1 ⟨g1,n1,r4,t0,t1,t4,z0,A0⟩;clear h0 h1 tm;have hp1:=hp.gr g1;have fin:∀(A:ag)(H3:Hp)(c:List AC)(e:Int),slot A.tm 4=.one (.o (.ptr H.nx 0 0 2))->slot A.tm 5=.one (.i .i64 e)->A.dfr=[]->Gr H H3->H3.get H.nx=some (.arr c 51 0 0)->c.length=2->e=lV (some ls) s->Ia H3 c (some ls) s ->
   ∃w H4,aK E2 [.cell 4 51,.tmp 5] (.ret,A,H3)=.ok [(w,H4)]/\Gr H H4/\∀lg':List Nat,∃c,w=.tup [(true,c),(false,[.i .i64 (lV (some ls) s)])]/\Ia ⟨H4.t,H4.nx,lg'⟩ c (some ls) s/\c.length=2:=λA H3 c e h4 h5 hd hg hr hc he ha=>
  ⟨_,H3,nF (id:=H.nx) (g:=0) fW (.inr rfl) (by rw[hd];rfl) h4 (by rw[hr];exact cH (ai _) (ai _)) (ai _) hc h5,hg,λ_=>⟨c,by rw[he],ha,hc⟩⟩
 refine qG (zDf aj t0 t1 z0 Tx) λK hK=>?_;refine WE.con (PJ H1 p ls s hp1 q_) λv H3 g3 hv=>?_;subst hv;refine qS (qA aj z0) ?_;apply hK;have hp3:=hp1.gr g3;have r4:H3.get H.nx=some (.arr [.o (.str []),.o .nilS] 51 0 0):=by rw[g3.get _ n1 aE];exact r4
 have n3:H.nx<H3.nx:=ax n1 g3.nx;have g3':=g1.gr g3;cases hfi:jX 0 ls s with
 |none=>
  have hle:lV (some ls) s=4:=by rw[jZ,hfi];rfl
  have J0:atN 0 ls s=-1:=by rw[vk,hfi];rfl
  rw[J0];refine qW (qA aj z0) ?_;refine qY ?_;refine qW (zDi aj z0 gO Cf t4 kr r4 n3) ?_;exact fin _ _ _ 4 (by simp only[ak,Nat.reduceEqDiff,reduceIte,t4]) qp (qd A0) (g3'.mod _ (.inl (ai _))) (aq rfl) rfl hle.symm ⟨λ_=>rfl,λls' i x h h2=>by cases h;rw[hfi]at h2;cases h2⟩
 |some i=>
  have hle:lV (some ls) s=0:=by rw[jZ,hfi];rfl
  have J0:atN 0 ls s=(i:Int):=by rw[vk,hfi];rfl
  obtain⟨x,hx,B6⟩:=GB hfi;rw[J0];have ci:((i:Int)<0)=False:=bh aa;refine qW (zDd aj z0 ci) ?_;refine qY ?_;rename_i hx
  refine R1.bT ?_;obtain⟨kb,lad,rfl,k1,k3,k5⟩:=hp3;have B0:i<ls.length:=(List.getElem?_eq_some_iff.1 hx).1;obtain⟨id,g,off,cells,rfl,hid,hg,N5⟩:=k5.open aa;obtain⟨u,hu,L4,O0,_⟩:=N5 i x hx;refine qG (zDm aj t0 z0 k1 k3 mH nH gQ fW (ixC B0) hid (zDe hg L4 O0 AF)) λK hK=>?_;refine WE.con (yn H3 x.1 u x.2 hu (hL x (gN hx))) λw H6 g6⟨u',hv,i_,U4⟩=>?_;subst hv;have r4:H6.get H.nx=some (.arr [.o (.str []),.o .nilS] 51 0 0):=by rw[g6.get _ n3 aE];exact r4
  have n6:H.nx<H6.nx:=ax n3 g6.nx;have I7:SlP (H6.mod H.nx (.arr [.o (.str x.1),u'] 51 0 0)) u' x.2:=SlC.fr i_ fh λk h e=>by have:=U4 k h;omega
  refine qS (zDg aj z0 t4 kr r4 n6) ?_;apply hK;refine qV ?_;exact fin _ _ _ 0 (by simp only[ak,Nat.reduceEqDiff,reduceIte,t4]) qp (qd A0) ((g3'.gr g6).mod _ (.inl (ai _))) (aq rfl) rfl hle.symm ⟨λh=>absurd hle h,λls' j y h h2 h3=>by
   cases h
   rw[hfi]at h2;cases h2
   rw[hx]at h3;cases h3
   exact⟨u',rfl,I7⟩⟩
def XT{P:Program}{H:Hp}{t e:TypeId}{sz by_ n:Nat}{z:Value}{v:AC}{cells:List AC}(he:cG P t=some (e,sz))(hb:dB P e=some by_)(hz:aW P e=some z)(Q1:(ofValue z).cells.length=sz)(B2:sz≠0)
  (hv:SlC H v sz n cells) (h2:n<=140737488355328/\n*by_<=140737488355328):∃v' H',bM P H t (.one (.o .nilS)) (.one v)=.val (.one v') H'/\SlC H' v' sz n cells/\Gr H H'/\∀id∈(AV.one v').ids,H.nx<=id:=by
 rcases hv with⟨hc,⟨rfl,rfl⟩|⟨id,g,off,rfl,hid,row,hg,hle,hcut⟩⟩
 ·rw[Nat.zero_mul]at hc;have hc:=List.eq_nil_of_length_eq_zero hc;subst hc;exact⟨.o .nilS,H,(mw he hb hz Q1 B2 Sr aa aa).trans (ad rfl),⟨by simp,.inl ⟨rfl,rfl⟩⟩,Fr.refl _,λ_ h=>by cases h⟩
 have src:lO H sz (.one (.o (.sl id g off n sz)))=some (n,cells):=by rw[mo hg hle,hcut]
 rcases sB n with h0|h0
 ·exact⟨.o .nilS,H,(mw he hb hz Q1 B2 src h2.1 h2.2).trans (ad h0),⟨hc,.inl ⟨rfl,h0⟩⟩,Fr.refl _,λ_ h=>by cases h⟩
 refine⟨.o (.sl H.nx 0 0 n sz),H.new (.arr cells e 0 0),(mw he hb hz Q1 B2 src h2.1 h2.2).trans (ab aa),⟨hc,.inr ⟨H.nx,0,0,rfl,ba _,cells,by rw[aC rfl];rfl,aa,?_⟩⟩,(Fr.refl _).new _,λk h=>by rw[List.mem_singleton.1 h];exact ai _⟩;rw[List.drop_zero,iy aa]
def mr(H:Hp)(p:AC):Option (List Lad)->Prop
 |some ls=>RBk H p ls
 |none=>p=.o .nilP
def Sx:prog.underlying 32=some (.pointer 123):=ae
def Tp:ao prog 6=true:=ae
def GU:∀(acc ls:List Lad),wm acc ls=0->∀x∈ls,aP x.1 x.2=0
 |_,[],_=>λ_ h=>absurd h (List.not_mem_nil)
 |acc,y::ls,h=>by
  rw[wm]at h;by_cases hc:aP y.1 y.2≠0
  ·rw[ad hc]at h;exact absurd h hc
  rw[ab hc]at h;by_cases hi:(jX 0 acc y.1).isSome=true
  ·rw[ad hi]at h;cases h
  rw[ab hi]at h;intro x hx;rcases List.mem_cons.1 hx with rfl|hx
  ·exact Classical.not_not.1 hc
  exact GU _ ls h x hx
def YW{ls:List Lad}(h:pJ ls=0):ls.length<=32/\∀x∈ls,x.2.length<=12:=by
 unfold pJ at h;by_cases hc:(32:Int)<ls.length
 ·rw[ad hc]at h;cases h
 rw[ab hc]at h;exact⟨aa,λx hx=>mC (GU [] ls h x hx)⟩
def bkO(ls:List Lad):Option (List Lad):=if pJ ls=0 then some ls else none
def TL{ls l:List Lad}(h:bkO ls=some l):l.length<=32/\∀x∈l,x.2.length<=12:=by
 unfold bkO at h;by_cases hc:pJ ls=0
 ·rw[ad hc]at h;cases h;exact YW hc
 rw[ab hc]at h;cases h
def mr.same{H H':Hp}{p:AC}{o:Option (List Lad)}(ht:H'.t=H.t)(hn:H'.nx=H.nx)(h:mr H p o):mr H' p o:=by
 obtain⟨t,nx,l⟩:=H;obtain⟨t',nx',l'⟩:=H';cases ht;cases hn
 cases o<;>exact h
def mr.gr{H H':Hp}{p:AC}{o:Option (List Lad)}(h:mr H p o)(hg:Gr H H'):mr H' p o:=by
 cases o with
 |some ls=>exact RBk.gr h hg
 |none=>exact h
def QN(H:Hp)(v:AC)(ls:List Lad)(hl:iN H v ls):
  Con E2 6 [.one v] H (λ_=>False) λr H'=>∃p q,r=.tup [(false,[p]),(false,[q])]/\dN H' p (bkO ls)/\mr H' q (bkO ls)/\(bkO ls=none->p=.o .nilP):=by
 refine Con.lT (λH=>iN H v ls) hl λH hl=>?_;refine C1.jR 20 [.tmp 2,.tmp 3] Tryz.func6 λtm h0=>?_;refine qW aj ?_;refine qG (zDd aj h0 LQ) λK hK=>?_;refine WE.con (Kc H v ls hl) λw H1 g1⟨p,hw,hp1,u7⟩=>?_;subst hw;refine qT ?_;apply hK;refine qG (zDd aj h0 Ya) λK hK=>?_;refine WE.con (Wm H1 v ls (hl.gr g1)) λw H2 g2⟨q,hw,hq1,hq2⟩=>?_;subst hw;refine qT ?_;apply hK;refine qV ?_;refine⟨_,_,bP p q (.inr rfl) rfl qp qp,g1.gr g2,λ_=>⟨p,q,rfl,?_,?_,?_⟩⟩
 ·refine dN.same (H:=H2) rfl rfl ?_;unfold bkO;by_cases hc:pJ ls=0
  ·rw[ad hc];exact(hp1 hc).gr g2
  rw[ab hc];exact .inl (u7 hc)
 ·refine mr.same (H:=H2) rfl rfl ?_;unfold bkO;by_cases hc:pJ ls=0
  ·rw[ad hc];exact hq1 hc
  rw[ab hc];exact hq2 hc
 unfold bkO;by_cases hc:pJ ls=0
 ·rw[ad hc];intro h;cases h
 exactλ_=>u7 hc
open Go Go.Eng Go.ChangeShapes Go.WideShapes
abbrev aas:=mQ Np (Ms .i64)
abbrev HG:=Hu prog 133 2 aas
abbrev acf:=mQ Np HG
abbrev OX:=Hu prog 51 2 acf
def EJ:mq HG:=tb (gz jh kI)
def VW{W:World}:Opn prog W 2 aas 133:=ik Tryz.underlying133 ae rfl (eS (wB Tryz.underlying9) jh (kT (wA Tryz.underlying3)))
def RM{W:World}(hB:tJ W):Opn prog W 1 HG 49:=mf Tryz.underlying49 ae aU (gz jh kI) hB VW
def Zi{W:World}(hB:tJ W):Opn prog W 2 acf 51:=ik Tryz.underlying51 ae rfl (eS (wB Tryz.underlying9) jh (kT (RM hB)))
def VT{W:World}(hB:tJ W):Opn prog W 1 OX 22:=mf Tryz.underlying22 ae aU (gz jh EJ) hB (Zi hB)
def II:prog.bytesOf 51=40:=ae
def Xs{B:Nat}{H:Hp}{c:List AC}{us:List Pr}(h:HG B H c us):∃u,c=[u]/\SlP H u us:=by obtain⟨u,rfl,⟨css,h1,h2⟩,_⟩:=h;refine⟨u,rfl,?_⟩;have:=ze (f:=prC) (h2.mono λc x⟨_,c1,c2,e,a,b⟩=>by rw[e,a.1,b.1];rfl);rw[this]at h1;exact h1
def YK{B:Nat}{H:Hp}{u:AC}{ls:List Lad}(h:OX B H [u] ls):iN H u ls/\ls.length*40<=B:=by
 obtain⟨u,e,⟨css,h1,h2⟩,h3⟩:=h;cases e
 refine⟨⟨css,h1,h2.mono λc x⟨hl,c1,c2,e,a,b⟩=>⟨hl,?_⟩⟩,by rwa [II]at h3⟩;obtain⟨u,rfl,hu⟩:=Xs b;exact⟨u,by rw[e,a.1];rfl,hu⟩
open Go.ChangeShapes Go.WideShapes Go.ChangeAt Go.RowKit Go.Eng
def tX{H:Type}{enc:TypeId×Value->H}{P:Program}(hl:laidOutB P=true){W W':World}(hb:Below W.heap.size W W'){sp:Nat->Bool}:∀{ts:List TypeId}{vs:List Value}{ds:List (DataW H)}{ps:List MemPlace},(∀t∈ts,P.readableRec t=true/\t<P.types.size) ->
  DataW.TrodAll enc P W 0 (λ_=>true) true ts vs ds ps->(∀p∈ps,p.block<W.heap.size)->(∀p∈ps,sp p.block=true)->DataW.TrodAll enc P W' 0 sp true ts vs ds ps
 |[],vs,ds,ps,_,h,_,_=>by obtain⟨rfl,rfl,rfl⟩:=trodAll_nil h;exact trodAll_mk0
 |t::ts,vs,ds,ps,hr,h,B0,j8=>by obtain⟨v,vs1,d,ds1,a,b,rfl,rfl,rfl,h1,h2⟩:=trodAll_cons h;refine⟨a,b,?_,tX hl hb (λt ht=>hr t (aR _ ht)) h2 (λp hp=>B0 p (du _ hp)) (λp hp=>j8 p (du _ hp)),rfl⟩;exact WideElems.Trod_stays hl (hr t (aT ..)).1 (hr t (aT ..)).2 h1 (λx hx=>hb.same (B0 x (dC _ hx))) (λx hx=>j8 x (dC _ hx))
def Tryz.laidOut:laidOutB prog=true:=ae
def KI:reachBytes<=140737488355328:=aU
def ke:loadT prog 26=some (true,2):=ae
def bK:bG prog 26 0=some (0,23,1):=ae
def dZ:bG prog 26 1=some (1,24,1):=ae
def cX:loadT prog 23=some (false,1):=ae
def eV:cG prog 23=some (58,5):=ae
def gq:ly prog 23=some 1:=ae
def zw:loadT prog 58=some (true,5):=ae
def zV:cM prog 58=some 5:=ae
def Ao:(aW prog 58).map (λz=>(ofValue z).cells)=some [.i .i64 0,.o (.str []),.o (.str []),.o .nilS,.o .nilS]:=ae
def gF:bG prog 58 0=some (0,3,1):=ae
def sS:bG prog 58 1=some (1,9,1):=ae
def gG:bG prog 58 2=some (2,9,1):=ae
def DY:bG prog 58 3=some (3,56,2):=ae
def ij:loadT prog 24=some (false,1):=ae
def ri:cG prog 24=some (82,2):=ae
def jF:ly prog 24=some 1:=ae
def zx:loadT prog 82=some (true,2):=ae
def zY:cM prog 82=some 2:=ae
def Ap:(aW prog 82).map (λz=>(ofValue z).cells)=some [.i .i64 0,.o .nilS]:=ae
def dv:bG prog 82 0=some (0,3,1):=ae
def gH:bG prog 82 1=some (1,27,1):=ae
def Vk:loadT prog 56=some (true,2):=ae
def eE:bG prog 56 0=some (0,54,1):=ae
def jd:bG prog 56 1=some (1,54,1):=ae
def eP:loadT prog 54=some (false,1):=ae
def jg:cG prog 54=some (209,3):=ae
def dU:ly prog 54=some 1:=ae
def fV:loadT prog 209=some (true,3):=ae
def Hy:cM prog 209=some 3:=ae
def xR:(aW prog 209).map (λz=>(ofValue z).cells)=some [.i .i64 0,.o (.str []),.b false]:=ae
def oQ:bG prog 209 0=some (0,3,1):=ae
def mG:bG prog 209 1=some (1,9,1):=ae
def oR:bG prog 209 2=some (2,4,1):=ae
def abj:Nat->Option (Nat×Nat):=λi=>(#[(0,1),(1,1),(2,1)]:Array (Nat×Nat))[i]?
def Wd:jm prog 209=some abj:=ae
def oN:cG prog 232=some (4,1):=ae
def Vt:ly prog 232=some 1:=ae
def Uk:eqK prog 209=some [.i,.s,.b]:=ae
end Go.Proofs.YtgepceljhelekaaGreat
