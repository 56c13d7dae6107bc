/- A part of the proof: EngDef, EngRun, EngTree, EngCong, EngRel, EngSteps, EngAbs, EngAbs2, EngOps1, EngOps2, EngOps3. No conditions. -/
import Derived.RangeFuncLeaves
import Derived.OrdersIn
import Derived.WalkKit
set_option maxRecDepth 100000
set_option maxHeartbeats 64000000
set_option linter.all false
noncomputable section
namespace Go
universe u
def zA0 {n m k:Nat} (h:n<m) (g:m≤k):n<k:=Nat.lt_of_lt_of_le h g
def zA1 (n:Nat):n≤n:=Nat.le_refl n
def zA2 {n m k:Nat} (h:n≤m) (g:m≤k):n≤k:=Nat.le_trans h g
def zA3 {n m:Nat} (h:Nat.beq n m=true):n=m:=Nat.eq_of_beq_eq_true h
def zA4 {n m:Nat} (h:Nat.ble n m=true):n≤m:=Nat.le_of_ble_eq_true h
def zA5 {n m:Nat} (h:n≤m):Nat.ble n m=true:=Nat.ble_eq_true_of_le h
def zA6 (n:Nat):n<Nat.succ n:=Nat.lt_succ_self n
def zA7 {n m:Nat} (h:n≤m):n≤Nat.succ m:=Nat.le_succ_of_le h
def zA8:¬false=true:=Bool.false_ne_true
def zB0 {c:Prop} {h:Decidable c} (p:c) {α:Sort u} {t e:α}:ite c t e=t:=if_pos p
def zB1 {c:Prop} {h:Decidable c} (p:¬c) {α:Sort u} {t e:α}:ite c t e=e:=if_neg p
def zB2:¬False:=not_false
def zB3 {a b:Prop} (x:a) (y:b):a∧b:=And.intro x y
def zB4 {α:Type u} {l:List α} {i:Nat} (h:i<l.length):l[i]?=some l[i]:=List.getElem?_eq_getElem h
def zB5 {α:Type u} [BEq α] [LawfulBEq α] {a b:α} (h:a≠b):(a==b)=false:=beq_false_of_ne h
def zC0 (i:Nat) (h:(i:Int)+1≤9223372036854775807):IntKind.i64.wrap ((i:Int)+1)=((i+1:Nat):Int):=by rw[IntKind.wrap_i64];omega
def zC1 {α:Type u} {i:Nat} {l:List α} (h:i<l.length):l.drop i=l[i]::l.drop (i+1):=List.drop_eq_getElem_cons h
def zC2 {α:Type u} {i:Nat} {l:List α} (h:i<l.length):l.take (i+1)=l.take i++[l[i]]:=List.take_succ_eq_append_getElem h
def zDd {a0 a1 a2:Prop} (x0:a0) (x1:a1) (x2:a2):a0∧a1∧a2:=⟨x0,x1,x2⟩
def zDe {a0 a1 a2 a3:Prop} (x0:a0) (x1:a1) (x2:a2) (x3:a3):a0∧a1∧a2∧a3:=⟨x0,x1,x2,x3⟩
def zDf {a0 a1 a2 a3 a4:Prop} (x0:a0) (x1:a1) (x2:a2) (x3:a3) (x4:a4):a0∧a1∧a2∧a3∧a4:=⟨x0,x1,x2,x3,x4⟩
def zDg {a0 a1 a2 a3 a4 a5:Prop} (x0:a0) (x1:a1) (x2:a2) (x3:a3) (x4:a4) (x5:a5):a0∧a1∧a2∧a3∧a4∧a5:=⟨x0,x1,x2,x3,x4,x5⟩
def zDh {a0 a1 a2 a3 a4 a5 a6:Prop} (x0:a0) (x1:a1) (x2:a2) (x3:a3) (x4:a4) (x5:a5) (x6:a6):a0∧a1∧a2∧a3∧a4∧a5∧a6:=⟨x0,x1,x2,x3,x4,x5,x6⟩
def zDi {a0 a1 a2 a3 a4 a5 a6 a7:Prop} (x0:a0) (x1:a1) (x2:a2) (x3:a3) (x4:a4) (x5:a5) (x6:a6) (x7:a7):a0∧a1∧a2∧a3∧a4∧a5∧a6∧a7:=⟨x0,x1,x2,x3,x4,x5,x6,x7⟩
def zDj {a0 a1 a2 a3 a4 a5 a6 a7 a8:Prop} (x0:a0) (x1:a1) (x2:a2) (x3:a3) (x4:a4) (x5:a5) (x6:a6) (x7:a7) (x8:a8):a0∧a1∧a2∧a3∧a4∧a5∧a6∧a7∧a8:=⟨x0,x1,x2,x3,x4,x5,x6,x7,x8⟩
def zDk {a0 a1 a2 a3 a4 a5 a6 a7 a8 a9:Prop} (x0:a0) (x1:a1) (x2:a2) (x3:a3) (x4:a4) (x5:a5) (x6:a6) (x7:a7) (x8:a8) (x9:a9):a0∧a1∧a2∧a3∧a4∧a5∧a6∧a7∧a8∧a9:=⟨x0,x1,x2,x3,x4,x5,x6,x7,x8,x9⟩
def zDl {a0 a1 a2 a3 a4 a5 a6 a7 a8 a9 a10:Prop} (x0:a0) (x1:a1) (x2:a2) (x3:a3) (x4:a4) (x5:a5) (x6:a6) (x7:a7) (x8:a8) (x9:a9) (x10:a10):a0∧a1∧a2∧a3∧a4∧a5∧a6∧a7∧a8∧a9∧a10:=⟨x0,x1,x2,x3,x4,x5,x6,x7,x8,x9,x10⟩
def zDm {a0 a1 a2 a3 a4 a5 a6 a7 a8 a9 a10 a11:Prop} (x0:a0) (x1:a1) (x2:a2) (x3:a3) (x4:a4) (x5:a5) (x6:a6) (x7:a7) (x8:a8) (x9:a9) (x10:a10) (x11:a11):a0∧a1∧a2∧a3∧a4∧a5∧a6∧a7∧a8∧a9∧a10∧a11:=⟨x0,x1,x2,x3,x4,x5,x6,x7,x8,x9,x10,x11⟩
end Go
namespace Go.Eng
open Go
def aw{α β:Type}(o:Option α)(e:β)(f:α->β):β:=Option.rec (motive:=λ_=>β) e f o
def ifE{β:Type}(b:Bool)(x y:β):β:=Bool.rec (motive:=λ_=>β) y x b
def both(a b:Bool):Bool:=Bool.rec (motive:=λ_=>Bool) false b a
inductive PT(α:Type)where
 |leaf:PT α
 |node:PT α->Option α->PT α->PT α
def PT.get{α:Type}(t:PT α):Nat->Option α:=
 PT.rec (motive:=λ_=>Nat->Option α) (λ_=>none)
  (λ_ v _ gl gr n=>Nat.rec (motive:=λ_=>Option α) v
   (λk _=>Bool.rec (motive:=λ_=>Option α) (gr (Nat.div k 2)) (gl (Nat.div k 2)) (Nat.beq (Nat.mod k 2) 0)) n) t
def PT.mk{α:Type}(a:Option α)(f:Nat):Nat->PT α:=
 Nat.rec (motive:=λ_=>Nat->PT α) (λ_=>.node .leaf a .leaf)
  (λ_ ih n=>Nat.rec (motive:=λ_=>PT α) (.node .leaf a .leaf)
   (λk _=>Bool.rec (motive:=λ_=>PT α) (.node .leaf none (ih (Nat.div k 2))) (.node (ih (Nat.div k 2)) none .leaf) (Nat.beq (Nat.mod k 2) 0)) n) f
def PT.put{α:Type}(a:Option α)(t:PT α):Nat->PT α:=
 PT.rec (motive:=λ_=>Nat->PT α) (λn=>PT.mk a n n)
  (λl v r sl sr n=>Nat.rec (motive:=λ_=>PT α) (.node l a r)
   (λk _=>Bool.rec (motive:=λ_=>PT α) (.node l v (sr (Nat.div k 2))) (.node (sl (Nat.div k 2)) v r) (Nat.beq (Nat.mod k 2) 0)) n) t
def PT.set{α:Type}(t:PT α)(n:Nat)(a:α):PT α:=PT.put (some a) t n
def PT.del{α:Type}(t:PT α)(n:Nat):PT α:=PT.put none t n
inductive AO where
 |p (v:Value)
 |str (s:List UInt8)
 |nilP
 |nilS
 |nilM
 |oJ
 |ptr (id gen off lim:Nat)
 |sl (id gen off len sz:Nat)
 |mp (id:Nat)
 |clo (f:FuncId) (caps:List (Nat×Nat×Nat×Nat))
 |yl (id:Nat)
 |it (id:Nat)
inductive AC where
 |b (x:Bool)
 |i (k:IntKind) (n:Int)
 |o (x:AO)
inductive AV where
 |one (c:AC)
 |agg (l:List AC)
 |tup (l:List (Bool×List AC))
 |any
def avE{β:Type}(v:AV)(f:AC->β)(g:List AC->β)(h:List (Bool×List AC)->β):β:=AV.rec (motive:=λ_=>β) f g h (h []) v
def acE{β:Type}(c:AC)(f:Bool->β)(g:IntKind->Int->β)(h:AO->β):β:=AC.rec (motive:=λ_=>β) f g h c
def dO{β:Type}(v:AV)(e:β)(f:Bool->β):β:=avE v (λc=>acE c f (λ_ _=>e) (λ_=>e)) (λ_=>e) (λ_=>e)
def dY{β:Type}(v:AV)(e:β)(f:IntKind->Int->β):β:=avE v (λc=>acE c (λ_=>e) f (λ_=>e)) (λ_=>e) (λ_=>e)
def NO{β:Type}(v:AV)(e:β)(f:AO->β):β:=avE v (λc=>acE c (λ_=>e) (λ_ _=>e) f) (λ_=>e) (λ_=>e)
def sF{β:Type}(v:AV)(e:β)(f:Nat->Nat->Nat->Nat->β):β:=
 NO v e λx=>AO.rec (motive:=λ_=>β) (λ_=>e) (λ_=>e) e e e e f (λ_ _ _ _ _=>e) (λ_=>e) (λ_ _=>e) (λ_=>e) (λ_=>e) x
def slE{β:Type}(v:AV)(e:β)(f:Nat->Nat->Nat->Nat->Nat->β):β:=
 NO v e λx=>AO.rec (motive:=λ_=>β) (λ_=>e) (λ_=>e) e e e e (λ_ _ _ _=>e) f (λ_=>e) (λ_ _=>e) (λ_=>e) (λ_=>e) x
structure bu where
 key:AV
 val:AV
 born:Nat
inductive xm where
 |map (es:List bu) (clock:Nat)
 |iter (m:Option Nat) (since:Nat) (seen:List Nat) (stepped:Nat)
 |loop (state:LoopState) (pending:Option Code) (tm:PT AV) (nt:Nat) (params:List Tmp) (assign body:Code) (defers:Nat)
 |dfr (open_:Bool)
 |fmap (l:List (Int×AV))
 |lost
inductive aJ where
 |arr (cells:List AC) (elem:TypeId) (lo gen:Nat)
 |oth (x:xm)
 |ro (cells:List AC)
structure Hp where
 t:PT aJ
 nx:Nat
 log:List Nat
def Hp.get(h:Hp)(i:Nat):Option aJ:=h.t.get i
def Hp.new(h:Hp)(o:aJ):Hp:=⟨h.t.set h.nx o,Nat.add h.nx 1,h.log⟩
def Hp.mod(h:Hp)(i:Nat)(o:aJ):Hp:=⟨h.t.set i o,h.nx,i::h.log⟩
def nh{β:Type}(o:Option aJ)(e:β)(f:List AC->TypeId->Nat->Nat->β):β:=
 Option.rec (motive:=λ_=>β) e (λx=>aJ.rec (motive:=λ_=>β) f (λ_=>e) (λ_=>e) x) o
inductive R(α:Type)where
 |ok (l:List α)
 |bad (why:String)
def xf{α:Type}(x y:R α):R α:=
 R.rec (motive:=λ_=>R α) (λa=>R.rec (motive:=λ_=>R α) (λb=>.ok (a++b)) (λs=>.bad s) y) (λs=>.bad s) x
def cr{α β:Type}(f:α->R β)(l:List α):R β:=
 List.rec (motive:=λ_=>R β) (.bad "no way") (λx l' ih=>List.rec (motive:=λ_=>R β) (f x) (λ_ _ _=>xf (f x) ih) l') l
def R.bind{α β:Type}(r:R α)(f:α->R β):R β:=R.rec (motive:=λ_=>R β) (λl=>cr f l) (λs=>.bad s) r
def aD:AV:=.tup []
def AV.cells(v:AV):List AC:=avE v (λc=>[c]) (λl=>l) (λ_=>[])
def AV.bz(v:AV):Bool:=avE v (λ_=>true) (λ_=>true) (λ_=>false)
def cOf:Value->AC
 |.bool b=>.b b
 |.int k n=>.i k n
 |.string s=>.o (.str s.data.toList)
 |.pointer none=>.o .nilP
 |.slice none 0 0=>.o .nilS
 |.map none=>.o .nilM
 |.nilFunc=>.o .oJ
 |v=>.o (.p v)
def ofValue:Value->AV
 |.agg cs=>.agg (cs.toList.map cOf)
 |.tuple vs=>.tup (vs.toList.map λv=>match v with|.agg cs=>(true,cs.toList.map cOf)|v=>(false,[cOf v]))
 |v=>.one (cOf v)
def okV:Value->Bool
 |.agg cs=>cs.toList.all Value.oneCell'
 |.tuple vs=>vs.toList.isEmpty
 |_=>true
def AC.val?:AC->Option Value
 |.b x=>some (.bool x)
 |.i k n=>some (.int k n)
 |.o (.p v)=>some v
 |.o (.str s)=>some (.string ⟨s.toArray⟩)
 |.o .nilP=>some (.pointer none)
 |.o .nilS=>some (.slice none 0 0)
 |.o .nilM=>some (.map none)
 |.o .oJ=>some .nilFunc
 |_=>none
def aW:List AC->Option (List Value)
 |[]=>some []
 |c::l=>
  match c.val?,aW l with
  |some v,some vs=>some (v::vs)
  |_,_=>none
def AV.val?:AV->Option Value
 |.one c=>c.val?
 |.agg l=>match aW l with|some vs=>some (.agg vs.toArray)|none=>none
 |.tup []=>some (.tuple #[])
 |_=>none
inductive OpF where
 |slot (t:Tmp)
 |cst (v:AV)
def opF:Operand->OpF
 |.tmp t=>.slot t
 |.const v=>.cst (bif okV v then ofValue v else .any)
 |.global _=>.cst .any
 |.func f=>.cst (.one (.o (.clo f [])))
def OpF.ev(x:OpF)(tm:PT AV):AV:=OpF.rec (motive:=λ_=>AV) (λt=>aw (tm.get t) aD λv=>v) (λv=>v) x
def ev(tm:PT AV)(x:Operand):AV:=(opF x).ev tm
def ax{α:Type}(P:Program):Sem α->Option α
 |.pure a=>some a
 |.program k=>ax P (k P)
 |.mark _ k=>ax P k
 |_=>none
def ns(P:Program)(t:TypeId):Option Bool:=
 match P.underlying t with
 |some (.struct _)=>some true
 |some (.array _ _)=>some true
 |some _=>some false
 |none=>none
def aT(P:Program)(t:TypeId):Option Nat:=match P.info? t with|some i=>some i.size|none=>none
def cK(P:Program)(t:TypeId):Option Nat:=match P.info? t with|some i=>some i.bytes|none=>none
def ay(P:Program)(t:TypeId):Option Value:=
 match P.info? t with
 |some i=>
  match i.zero with
  |some z=>match z with
   |.tuple _=>none
   |z=>bif okV z then some z else none
  |none=>none
 |none=>none
def rU(P:Program)(t:TypeId):Option TypeId:=match P.underlying t with|some (.slice e)=>some e|_=>none
def aE(P:Program)(s:TypeId)(f:Nat):Option (Nat×TypeId×Nat):=
 match P.underlying s with
 |some (.struct fs)=>
  match fs[f]? with
  |some fd=>
   match aT P fd.type with
   |some n=>some (fd.offset,fd.type,n)
   |none=>none
  |none=>none
 |_=>none
def fW(P:Program)(t:TypeId):Option (TypeId×TypeId):=match P.underlying t with|some (.map k e)=>some (k,e)|_=>none
def loadT(P:Program)(t:TypeId):Option (Bool×Nat):=
 match ns P t,aT P t with
 |some a,some n=>some (a,n)
 |_,_=>none
def bt(P:Program)(t:TypeId):Option (TypeId×Nat):=
 match rU P t with
 |some e=>match aT P e with|some n=>some (e,n)|none=>none
 |none=>none
def bq(l:List AC):Nat:=List.rec (motive:=λ_=>Nat) 0 (λ_ _ ih=>Nat.add ih 1) l
def Gw(n:Nat):List AC->List AC:=
 Nat.rec (motive:=λ_=>List AC->List AC) (λl=>l) (λ_ ih l=>List.rec (motive:=λ_=>List AC) [] (λ_ l' _=>ih l') l) n
def Km(n:Nat):List AC->List AC:=
 Nat.rec (motive:=λ_=>List AC->List AC) (λ_=>[]) (λ_ ih l=>List.rec (motive:=λ_=>List AC) [] (λx l' _=>x::ih l') l) n
def lL(l m:List AC):List AC:=List.rec (motive:=λ_=>List AC) m (λx _ ih=>x::ih) l
def cut(l:List AC)(off n:Nat):List AC:=Km n (Gw off l)
def eQ(l:List AC)(off:Nat)(c:List AC):List AC:=lL (Km off l) (lL c (Gw (Nat.add off (bq c)) l))
inductive ak where
 |normal
 |exit (id:Nat)
 |ret
inductive ab where
 |val (v:AV) (h:Hp)
 |om (l:List (AV×Hp))
 |enter (f:FuncId) (args:List AV)
 |round (id:Nat) (args:List AV)
 |bad (why:String)
def nd{α:Type}(o:Option α)(why:String)(f:α->ab):ab:=Option.rec (motive:=λ_=>ab) (.bad why) f o
def aA(b:Bool)(why:String)(n:ab):ab:=Bool.rec (motive:=λ_=>ab) (.bad why) n b
def rdO(o:Option aJ)(g off lim n:Nat):Option (List AC):=
 Option.rec (motive:=λ_=>Option (List AC)) none (λx=>aJ.rec (motive:=λ_=>Option (List AC))
  (λcells _ lo gen=>ifE (both (Nat.ble lo g) (both (Nat.ble g gen) (both (Nat.ble n lim) (Nat.ble (Nat.add off n) (bq cells))))) (some (cut cells off n)) none) (λ_=>none)
  (λcells=>ifE (both (Nat.beq g 0) (both (Nat.ble n lim) (Nat.ble (Nat.add off n) (bq cells)))) (some (cut cells off n)) none) x) o
def eN(h:Hp)(id g off lim n:Nat):Option (List AC):=rdO (h.get id) g off lim n
def cH(h:Hp)(a:Bool)(n:Nat)(v:AV):ab:=
 sF v (.bad "load - no pointer") λid g off lim=>
  nd (eN h id g off lim n) "load - cells" λc=>ifE a (.val (.agg c) h) (List.rec (motive:=λ_=>ab) (.bad "load - no cell") (λx _ _=>.val (.one x) h) c)
def im(h:Hp)(n:Nat)(x v:AV):ab:=
 sF v (.bad "store - no pointer") λid g off lim=>
  nh (h.get id) (.bad "store - no row") λcells e lo gen=>
   aA (both (Nat.beq g gen) (both (Nat.beq (bq x.cells) n) (both (Nat.ble n lim) (both (Nat.ble (Nat.add off n) (bq cells)) (both (Nat.ble lo gen) x.bz))))) "store - stale or of another size"
    (.val aD (h.mod id (.arr (eQ cells off x.cells) e gen gen)))
def jx(h:Hp)(cells:List AC)(e:TypeId):ab:=
 .val (.one (.o (.ptr h.nx 0 0 (bq cells)))) (h.new (.arr cells e 0 0))
def jA(z:List AC)(n:Nat):List AC:=Nat.rec (motive:=λ_=>List AC) [] (λ_ ih=>lL z ih) n
def uL:Int->Option Nat
 |.ofNat n=>some n
 |.negSucc _=>none
def Bw(v:Option AV)(d:Nat):Option Nat:=aw v (some d) λv=>dY v none λ_ n=>uL n
def aR(P:Program)(t:TypeId):Nat:=
 match P.underlying t with
 |some (.pointer _)=>0
 |some (.slice _)=>1
 |some (.map _ _)=>2
 |some (.func _ _ _)=>3
 |_=>4
def vu:AO->Nat
 |.nilP=>0
 |.nilS=>1
 |.nilM=>2
 |.oJ=>3
 |_=>5
def vY:AO->Nat
 |.ptr ..=>0
 |.sl ..=>1
 |.mp _=>2
 |.clo ..=>3
 |_=>5
def Lo(k:Nat):AV->AV->Option Bool
 |.one (.o a),.one (.o b)=>bif Nat.blt k 4&&((Nat.beq (vY a) k&&Nat.beq (vu b) k)||(Nat.beq (vu a) k&&Nat.beq (vY b) k))then some false else none
 |_,_=>none
def Jj:IntKind->Nat
 |.i8=>0|.i16=>1|.i32=>2|.i64=>3|.u8=>4|.u16=>5|.u32=>6|.u64=>7
def sameKind(a b:IntKind):Bool:=Nat.beq (Jj a) (Jj b)
def iE{β:Type}(a:Int)(f g:Nat->β):β:=Int.rec (motive:=λ_=>β) f g a
def iLe(a b:Int):Bool:=iE a (λm=>iE b (λn=>Nat.ble m n) (λ_=>false)) (λm=>iE b (λ_=>true) (λn=>Nat.ble n m))
def iEq(a b:Int):Bool:=iE a (λm=>iE b (λn=>Nat.beq m n) (λ_=>false)) (λm=>iE b (λ_=>false) (λn=>Nat.beq m n))
def qo(k:IntKind)(n:Int):Int:=
 ifE (Nat.beq (Jj k) 3) (iE n (λm=>ifE (Nat.ble 9223372036854775808 m) (k.wrap n) n) (λm=>ifE (Nat.ble 9223372036854775808 m) (k.wrap n) n)) (k.wrap n)
inductive BF where
 |i (f:IntKind->Int->Int->Int)
 |b (f:Int->Int->Bool)
 |no
def dX(op:BinOp):BF:=
 match op with
 |.add=>.i λk a b=>qo k (Int.add a b)
 |.sub=>.i λk a b=>qo k (Int.sub a b)
 |.mul=>.i λk a b=>qo k (Int.mul a b)
 |.eql=>.b iEq
 |.neq=>.b λa b=>!iEq a b
 |.lss=>.b λa b=>!iLe b a
 |.leq=>.b iLe
 |.gtr=>.b λa b=>!iLe a b
 |.geq=>.b λa b=>iLe b a
 |_=>.no
def bEq(a b:UInt8):Bool:=Nat.beq a.toNat b.toNat
def lEq(x:List UInt8):List UInt8->Bool:=
 List.rec (motive:=λ_=>List UInt8->Bool) (λy=>List.rec (motive:=λ_=>Bool) true (λ_ _ _=>false) y)
  (λa _ ih y=>List.rec (motive:=λ_=>Bool) false (λb y' _=>both (bEq a b) (ih y')) y) x
def oA(x:List UInt8):List UInt8->Bool:=
 List.rec (motive:=λ_=>List UInt8->Bool) (λy=>List.rec (motive:=λ_=>Bool) false (λ_ _ _=>true) y)
  (λa _ ih y=>List.rec (motive:=λ_=>Bool) false (λb y' _=>ifE (Nat.blt a.toNat b.toNat) true (both (bEq a b) (ih y'))) y) x
def Za(op:BinOp):Option (List UInt8->List UInt8->Bool):=
 match op with
 |.eql=>some lEq
 |.neq=>some λa b=>!lEq a b
 |.lss=>some oA
 |.leq=>some λa b=>oA a b||lEq a b
 |.gtr=>some λa b=>!(oA a b||lEq a b)
 |.geq=>some λa b=>!oA a b
 |_=>none
def gZ{β:Type}(v:AV)(e:β)(f:List UInt8->β):β:=
 NO v e λx=>AO.rec (motive:=λ_=>β) (λ_=>e) f e e e e (λ_ _ _ _=>e) (λ_ _ _ _ _=>e) (λ_=>e) (λ_ _=>e) (λ_=>e) (λ_=>e) x
def bf(P:Program)(kt:TypeId):Nat:=
 match P.underlying kt with
 |some .string=>0
 |some (.int _)=>1
 |some .bool=>3
 |some _=>2
 |none=>3
def ib(P:Program)(kt:TypeId)(a b:AV):Option Bool:=
 Nat.rec (motive:=λ_=>Option Bool) (gZ a none λx=>gZ b none λy=>some (lEq x y))
  (λk _=>Nat.rec (motive:=λ_=>Option Bool) (dY a none λk x=>dY b none λk' y=>ifE (sameKind k k') (some (iEq x y)) none)
   (λk _=>Nat.rec (motive:=λ_=>Option Bool) (aw a.val? none λx=>aw b.val? none λy=>ax P (Op.equal kt x y)) (λ_ _=>none) k) k) (bf P kt)
def iV(P:Program)(kt:TypeId)(k:AV)(l:List bu):Option (Option bu):=
 List.rec (motive:=λ_=>Option (Option bu)) (some none) (λe _ ih=>aw (ib P kt k e.key) none λb=>ifE b (some (some e)) ih) l
def fq(P:Program)(empty:Bool)(kt:TypeId)(k:AV):Option Unit:=
 Nat.rec (motive:=λ_=>Option Unit) (gZ k none λ_=>some ())
  (λn _=>Nat.rec (motive:=λ_=>Option Unit) (dY k none λ_ _=>some ())
   (λn _=>Nat.rec (motive:=λ_=>Option Unit) (aw k.val? none λv=>ax P (Instr.checkKey empty 10000 kt v)) (λ_ _=>none) n) n) (bf P kt)
def sameKey(P:Program)(kt:TypeId)(a b:AV):Bool:=
 Nat.rec (motive:=λ_=>Bool) (gZ a false λx=>gZ b false λy=>lEq x y)
  (λn _=>Nat.rec (motive:=λ_=>Bool) (dY a false λk x=>dY b false λk' y=>both (sameKind k k') (iEq x y))
   (λ_ _=>aw a.val? false λx=>aw b.val? false λy=>Instr.sameBits 10000 x y) n) (bf P kt)
def mR(P:Program)(kt:TypeId)(k x:AV)(l:List bu):Option (Bool×List bu):=
 List.rec (motive:=λ_=>Option (Bool×List bu)) (some (false,[]))
  (λe es ih=>aw (ib P kt k e.key) none λb=>ifE b (ifE (sameKey P kt e.key k) (some (true,⟨k,x,e.born⟩::es)) none) (aw ih none λr=>some (r.1,e::r.2))) l
def Oz:AV->Bool×List AC
 |.one a=>(false,[a])
 |.agg l=>(true,l)
 |.tup _=>(false,[])
 |.any=>(false,[])
def Tf(k v:AV):AV:=.tup [Oz k,Oz v]
def mw(k v:AV):AV:=.tup [(false,[.b true]),Oz k,Oz v]
def aV(h:Hp)(ok:Bool)(v:AV)(b:Bool):ab:=
 match ok with
 |false=>.val v h
 |true=>aA v.bz "lookup - tuple" (.val (.tup [Oz v,(false,[.b b])]) h)
def de(n:Int):List (Int×AV)->Option AV
 |[]=>none
 |x::l=>if n=x.1 then some x.2 else de n l
def lY(P:Program)(h:Hp)(kt:TypeId)(z k:AV)(ok:Bool)(l:List (Int×AV)):ab:=
 aA (Nat.beq (bf P kt) 1) "lookup - key" (dY k (.bad "lookup - key") λkd n=>aA (sameKind kd .i64) "lookup - key" (aw (de n l) (aV h ok z false) λv=>aV h ok v true))
def aX(P:Program)(h:Hp)(kt:TypeId)(z:AV)(m k:AV)(ok:Bool):ab:=
 match m with
 |.one (.o .nilM)=>nd (fq P true kt k) "lookup - key" λ_=>aV h ok z false
 |.one (.o (.mp id))=>
  match h.get id with
  |some (.oth (.map es _))=>nd (fq P es.isEmpty kt k) "lookup - key" λ_=>
   match iV P kt k es with
   |some (some e)=>aV h ok e.val true
   |some none=>aV h ok z false
   |none=>.bad "lookup - keys"
  |some (.oth (.fmap l))=>lY P h kt z k ok l
  |_=>.bad "lookup - no map"
 |_=>.bad "lookup - not a map"
def aU(P:Program)(h:Hp)(kt:TypeId)(m k x:AV):ab:=
 match m with
 |.one (.o (.mp id))=>
  match h.get id with
  |some (.oth (.map es clock))=>nd (fq P false kt k) "mapUpdate - key" λ_=>aA (both k.bz x.bz) "mapUpdate - tuple" <| nd (mR P kt k x es) "mapUpdate - keys" λr=>
   ifE r.1 (.val aD (h.mod id (.oth (.map r.2 clock)))) (.val aD (h.mod id (.oth (.map (es++[⟨k,x,clock⟩]) (Nat.add clock 1)))))
  |_=>.bad "mapUpdate - no map"
 |_=>.bad "mapUpdate - nil or not a map"
def lI:AV:=.tup [(false,[.b false])]
def ei(h:Hp):AV->ab
 |.one (.o (.it r))=>
  match h.get r with
  |some (.oth (.iter none _ _ _))=>.val lI h
  |some (.oth (.iter (some m) since seen last))=>
   match h.get m with
   |some (.oth (.map es clock))=>
    aA (!(!seen.isEmpty&&!es.isEmpty&&es.all (λe=>Nat.ble last e.born))) "next - all gone" <|
     match es.filter (λe=>!seen.contains e.born)with
     |[]=>.val lI h
     |e::l=>
      aA ((e::l).all λe=>Nat.blt e.born since) "next - new entries"
       (.om ((e::l).map λe=>(mw e.key e.val,h.mod r (.oth (.iter (some m) since (seen++[e.born]) clock)))))
   |_=>.bad "next - no map"
  |_=>.bad "next - no iterator"
 |_=>.bad "next - not an iterator"
def gF(h:Hp):AV->ab
 |.one (.o (.it r))=>
  match h.get r with
  |some (.oth (.iter (some m) _ seen stepped))=>
   match h.get m with
   |some (.oth (.map es clock))=>
    match seen.getLast? with
    |some st=>
     aA (Nat.beq clock stepped) "entry - clock" <|
      match es.find? (λe=>Nat.beq e.born st)with
      |some e=>.val (Tf e.key e.val) h
      |none=>.bad "entry - gone"
    |none=>.bad "entry - no step"
   |_=>.bad "entry - no map"
  |_=>.bad "entry - no iterator"
 |_=>.bad "entry - not an iterator"
def jt(h:Hp)(sz:Nat):AV->Option (Nat×List AC)
 |.one (.o (.sl id g off len sz'))=>
  match Nat.beq sz' sz,eN h id g off (Nat.mul len sz) (Nat.mul len sz)with
  |true,some c=>some (len,c)
  |_,_=>none
 |.one (.o .nilS)=>some (0,[])
 |_=>none
def dp(h:Hp)(e sz by_:Nat)(n:Nat)(c:List AC)(s:AV):ab:=
 match s with
 |.one (.o .nilS)=>
  ifE (Nat.beq n 0) (.val s h)
   (aA (both (Nat.ble n 140737488355328) (Nat.ble (Nat.mul n by_) 140737488355328)) "append - too much"
    (.val (.one (.o (.sl h.nx 0 0 n sz))) (h.new (.arr c e 0 0))))
 |.one (.o (.sl id g off len sz'))=>
  nh (h.get id) (.bad "append - no row") λcells e' lo gen=>
   aA (both (Nat.beq sz' sz) (both (Nat.beq e' e) (both (Nat.ble lo g) (both (Nat.ble g gen) (both (Nat.ble (Nat.add off (Nat.mul len sz)) (bq cells))
     (both (Nat.ble (Nat.add len n) 140737488355328) (Nat.ble (Nat.mul (Nat.add len n) by_) 140737488355328))))))) "append - stale or too much"
    (ifE (Nat.beq n 0) (.val s h)
     (ifE (both (Nat.beq g gen) (both (Nat.beq off 0) (Nat.beq (Nat.mul len sz) (bq cells))))
      (.val (.one (.o (.sl id (Nat.add gen 1) 0 (Nat.add len n) sz))) (h.mod id (.arr (lL cells c) e lo (Nat.add gen 1))))
      (.val (.one (.o (.sl id (Nat.add gen 1) 0 (Nat.add len n) sz))) (h.mod id (.arr (lL (cut cells off (Nat.mul len sz)) c) e (Nat.add gen 1) (Nat.add gen 1))))))
 |_=>.bad "append - no slice"
def bh(P:Program)(h:Hp)(t:TypeId)(s x:AV):ab:=
 nd (bt P t) "append - type" λes=>nd (cK P es.1) "append - bytes" λby_=>nd (ay P es.1) "append - zero" λz=>
  aA (both (!Nat.beq es.2 0) (Nat.beq (bq (ofValue z).cells) es.2)) "append - size 0" <|
   nd (jt h es.2 x) "append - what is appended" λnc=>dp h es.1 es.2 by_ nc.1 nc.2 s
def Cg(P:Program)(h:Hp)(t:TypeId)(d s:AV):ab:=
 nd (bt P t) "copy - type" λes=>
  match d,s with
  |.one (.o (.sl id g off len sz1)),.one (.o (.sl id2 g2 off2 len2 sz2))=>
   aA (both (Nat.beq sz1 es.2) (Nat.beq sz2 es.2)) "copy - sizes" <|
    nd (eN h id2 g2 off2 (Nat.mul len2 es.2) (Nat.mul (ifE (Nat.ble len2 len) len2 len) es.2)) "copy - source" λc=>
     nh (h.get id) (.bad "copy - no row") λcells e' lo gen=>
      aA (both (Nat.beq g gen) (both (Nat.ble (Nat.add off (Nat.mul (ifE (Nat.ble len2 len) len2 len) es.2)) (bq cells)) (Nat.ble lo gen))) "copy - stale"
       (.val (.one (.i .i64 (.ofNat (ifE (Nat.ble len2 len) len2 len)))) (h.mod id (.arr (eQ cells off c) e' gen gen)))
  |.one (.o (.sl ..)),.one (.o .nilS)=>.val (.one (.i .i64 (.ofNat 0))) h
  |.one (.o .nilS),.one (.o (.sl ..))=>.val (.one (.i .i64 (.ofNat 0))) h
  |.one (.o .nilS),.one (.o .nilS)=>.val (.one (.i .i64 (.ofNat 0))) h
  |_,_=>.bad "copy - not slices"
def gY:List AV->Option (List (Nat×Nat×Nat×Nat))
 |[]=>some []
 |.one (.o (.ptr id g off lim))::l=>match gY l with|some r=>some ((id,g,off,lim)::r)|none=>none
 |_::_=>none
def eE:List (Nat×Nat×Nat×Nat)->List AV
 |[]=>[]
 |(id,g,off,lim)::l=>.one (.o (.ptr id g off lim))::eE l
def ao(P:Program)(f:FuncId):Bool:=
 match P.funcs[f]? with
 |some fn=>fn.body.isSome
 |none=>false
def mr(P:Program)(f:AV)(args:List AV):ab:=
 NO f (.bad "call - no function value") λx=>
  AO.rec (motive:=λ_=>ab) (λ_=>.bad "call") (λ_=>.bad "call") (.bad "call - nil") (.bad "call - nil") (.bad "call - nil") (.bad "call - nil") (λ_ _ _ _=>.bad "call") (λ_ _ _ _ _=>.bad "call") (λ_=>.bad "call")
   (λg caps=>aA (ao P g) "call - no body" (.enter g (args++eE caps))) (λid=>.round id args) (λ_=>.bad "call") x
def bk(x:AV):Value:=match x.val? with|some v=>v|none=>undef
def aq(P:Program)(tm:PT AV)(h:Hp)(o:Oper):ab:=
 aA (o.op.operands.toList.all (λx=>(ev tm x).val?.isSome)) "plain - an address" <|
  match ax P (execOp (λx=>bk (ev tm x)) o)with
  |some (.value v)=>aA (okV v) "plain - value" (.val (ofValue v) h)
  |_=>.bad "plain - no value"
def cY(place:Nat->Option (Nat×Nat)):List (Nat×Operand)->Option (List (Nat×Nat×OpF))
 |[]=>some []
 |(i,x)::l=>
  match place i,cY place l with
  |some p,some r=>some ((p.1,p.2,opF x)::r)
  |_,_=>none
def hY(tm:PT AV)(parts:List (Nat×Nat×OpF)):List AC->Option (List AC):=
 List.rec (motive:=λ_=>List AC->Option (List AC)) (λcells=>some cells)
  (λx _ ih cells=>
   ifE (both (Nat.beq (bq (x.2.2.ev tm).cells) x.2.1) (both (Nat.ble (Nat.add x.1 x.2.1) (bq cells)) (x.2.2.ev tm).bz)) (ih (eQ cells x.1 (x.2.2.ev tm).cells)) none) parts
def cB(P:Program)(t:TypeId):Option (Nat->Option (Nat×Nat)):=
 match P.underlying t with
 |some (.struct fs)=>
  match fs.toList.mapM (λf=>(P.info? f.type).map λi=>(f.offset,i.size))with
  |some places=>some λi=>places.toArray[i]?
  |none=>none
 |some (.array _ el)=>
  match P.info? el with
  |some ie=>some λi=>some (i*ie.size,ie.size)
  |none=>none
 |_=>none
def ue(h:Hp)(z:List AC)(tm:PT AV)(parts:List (Nat×Nat×OpF)):ab:=nd (hY tm parts z) "build - fill" λc=>.val (.agg c) h
def ic(h:Hp)(z:List AC)(tm:PT AV)(e sz len:Nat)(parts:List (Nat×Nat×OpF)):ab:=
 nd (hY tm parts z) "buildSlice - fill" λc=>.val (.one (.o (.sl h.nx 0 0 len sz))) (h.new (.arr c e 0 0))
def cR(h:Hp)(sz':Nat)(x:AV)(lo hi:Option AV)(alt:ab):ab:=
 slE x alt λid g off len sz=>
  nd (Bw lo 0) "slice - low" λl=>nd (Bw hi len) "slice - high" λr=>
   aA (both (Nat.beq sz sz') (both (Nat.ble l r) (Nat.ble r len))) "slice - out" (.val (.one (.o (.sl id g (Nat.add off (Nat.mul l sz)) (Nat.sub r l) sz))) h)
def bV(h:Hp)(x:AV)(i:Nat):ab:=
 avE x (λ_=>.bad "extract - no tuple") (λ_=>.bad "extract - no tuple") λl=>
  Nat.rec (motive:=λ_=>List (Bool×List AC)->ab)
   (λl=>List.rec (motive:=λ_=>ab) (.bad "extract") (λx _ _=>
    ifE x.1 (.val (.agg x.2) h) (List.rec (motive:=λ_=>ab) (.bad "extract") (λc m _=>List.rec (motive:=λ_=>ab) (.val (.one c) h) (λ_ _ _=>.bad "extract") m) x.2)) l)
   (λ_ ih l=>List.rec (motive:=λ_=>ab) (.bad "extract") (λ_ l' _=>ih l') l) i l
def cL(P:Program)(h:Hp)(t:TypeId)(l c:AV):ab:=
 nd (bt P t) "makeSlice - type" λes=>nd (cK P es.1) "makeSlice - bytes" λby_=>nd (ay P es.1) "makeSlice - zero" λz=>
  dY l (.bad "makeSlice - sizes unknown") λ_ n=>dY c (.bad "makeSlice - sizes unknown") λ_ m=>nd (uL n) "makeSlice - negative" λn=>nd (uL m) "makeSlice - negative" λm=>
   aA (both (Nat.ble n m) (both (Nat.ble m 1073741824) (both (Nat.ble (Nat.mul m by_) 140737488355328) (Nat.beq (bq (ofValue z).cells) es.2)))) "makeSlice - sizes"
    (.val (.one (.o (.sl h.nx 0 0 n es.2))) (h.new (.arr (jA (ofValue z).cells m) es.1 0 0)))
def gC(h:Hp)(x:AV):ab:=
 match x with
 |.one (.o .nilM)=>.val (.one (.o (.it h.nx))) (h.new (.oth (.iter none 0 [] 0)))
 |.one (.o (.mp m))=>
  match h.get m with
  |some (.oth (.map _ clock))=>.val (.one (.o (.it h.nx))) (h.new (.oth (.iter (some m) clock [] clock)))
  |_=>.bad "range - no map"
 |_=>.bad "range - of what"
def eR(P:Program)(t:TypeId):Option Nat:=
 match P.underlying t with
 |some .string=>some 0
 |some (.slice _)=>some 1
 |some (.map _ _)=>some 2
 |_=>none
def OW(l:List UInt8):Nat:=List.rec (motive:=λ_=>Nat) 0 (λ_ _ ih=>Nat.add ih 1) l
def ON(n:Nat):AV:=.one (.i .i64 (.ofNat n))
def dK(h:Hp)(x:AV):ab:=
 match x with
 |.one (.o .nilM)=>.val (ON 0) h
 |.one (.o (.mp id))=>
  match h.get id with
  |some (.oth (.map es _))=>.val (ON es.length) h
  |_=>.bad "len - no map"
 |_=>.bad "len - not a map"
def SQ(x:AV):Bool:=
 NO x false λx=>AO.rec (motive:=λ_=>Bool) (λ_=>false) (λ_=>false) false true false false (λ_ _ _ _=>false) (λ_ _ _ _ _=>false) (λ_=>false) (λ_ _=>false) (λ_=>false) (λ_=>false) x
def cW(h:Hp)(k:Nat)(x:AV):ab:=
 Nat.rec (motive:=λ_=>ab) (gZ x (.bad "len - not a string") λs=>.val (ON (OW s)) h)
  (λk' _=>Nat.rec (motive:=λ_=>ab) (slE x (aA (SQ x) "len - not a slice" (.val (ON 0) h)) λ_ _ _ len _=>.val (ON len) h) (λ_ _=>dK h x) k') k
def nS(h:Hp)(kd:Nat)(op:BinOp)(x y:AV)(alt:ab):ab:=
 match Lo kd x y with
 |some b=>
  match op with
  |.eql=>.val (.one (.b b)) h
  |.neq=>.val (.one (.b (!b))) h
  |_=>.bad "binOp - addresses"
 |none=>alt
def kD(h:Hp)(f:BF)(k:IntKind)(a:Int)(k':IntKind)(b:Int)(alt:ab):ab:=
 ifE (sameKind k k') (BF.rec (motive:=λ_=>ab) (λf=>.val (.one (.i k (f k a b))) h) (λf=>.val (.one (.b (f a b))) h) alt f) alt
def jV(h:Hp)(kd:Nat)(op:BinOp)(x y:AV)(alt:ab):ab:=
 gZ x (nS h kd op x y alt) λa=>gZ y alt λb=>aw (Za op) alt λf=>.val (.one (.b (f a b))) h
def bp(h:Hp)(kd:Nat)(op:BinOp)(f:BF)(x y:AV)(alt:ab):ab:=
 avE x (λc=>acE c (λ_=>alt) (λk a=>dY y alt λk' b=>kD h f k a k' b alt) (λ_=>jV h kd op x y alt)) (λ_=>alt) (λ_=>alt)
def fl(h:Hp)(fo n:Nat)(x:AV):ab:=
 sF x (.bad "fieldAddr - no pointer") λid g off lim=>
  aA (both (Nat.ble 1 n) (Nat.ble (Nat.add fo n) lim)) "fieldAddr - lim" (.val (.one (.o (.ptr id g (Nat.add off fo) (Nat.sub lim fo)))) h)
def cC(h:Hp)(sz':Nat)(x i:AV):ab:=
 slE x (.bad "indexAddr - no slice") λid g off len sz=>dY i (.bad "indexAddr - index") λ_ n=>nd (uL n) "indexAddr - negative" λn=>
  aA (both (Nat.beq sz sz') (Nat.blt n len)) "indexAddr - out" (.val (.one (.o (.ptr id g (Nat.add off (Nat.mul n sz)) sz))) h)
def Wt(n:Nat):List UInt8->Option UInt8:=
 Nat.rec (motive:=λ_=>List UInt8->Option UInt8) (λl=>List.rec (motive:=λ_=>Option UInt8) none (λx _ _=>some x) l)
  (λ_ ih l=>List.rec (motive:=λ_=>Option UInt8) none (λ_ l' _=>ih l') l) n
def ir(h:Hp)(isStr:Bool)(x i:AV)(alt:ab):ab:=
 ifE isStr (gZ x alt λs=>dY i alt λ_ n=>nd (uL n) "index - negative" λn=>nd (Wt n s) "index - out" λb=>.val (.one (.i .u8 (.ofNat b.toNat))) h) alt
def JE(h:Hp)(op:UnOp)(x:AV)(alt:ab):ab:=
 match op with
 |.not=>dO x alt λb=>.val (.one (.b (!b))) h
 |_=>alt
def Vc(n:Nat)(l:List AC):Option AC:=List.rec (motive:=λ_=>Option AC) none (λx _ _=>some x) (Gw n l)
def rJ(h:Hp)(fo n:Nat)(a:Bool)(x:AV):ab:=
 avE x (λ_=>.bad "field - no struct") (λl=>ifE a (aA (Nat.ble (Nat.add fo n) (bq l)) "field - part" (.val (.agg (cut l fo n)) h)) (nd (Vc fo l) "field - part" λc=>.val (.one c) h)) (λ_=>.bad "field - no struct")
inductive SF where
 |mk (f:PT AV->Hp->ab)
def SF.run(s:SF):PT AV->Hp->ab:=SF.rec (motive:=λ_=>PT AV->Hp->ab) (λf=>f) s
def evs(l:List Operand)(tm:PT AV):List AV:=List.rec (motive:=λ_=>List AV) [] (λx _ ih=>(opF x).ev tm::ih) l
def ee(why:String):SF:=.mk λ_ _=>.bad why
def ndF{α:Type}(o:Option α)(why:String)(f:α->SF):SF:=Option.rec (motive:=λ_=>SF) (ee why) f o
def jd(P:Program)(o:Oper)(b:Builtin)(args:List Operand)(ts:List TypeId):SF:=
 match b,args,ts with
 |.append,[s,x],[t,t2]=>ifE (Nat.beq t t2) (.mk λtm h=>bh P h t (ev tm s) (ev tm x)) (ee "append - types")
 |.copy,[d,s],[t,t2]=>ifE (Nat.beq t t2) (.mk λtm h=>Cg P h t (ev tm d) (ev tm s)) (ee "copy - types")
 |.len,[x],[t]=>ndF (eR P t) "len - type" λk=>.mk λtm h=>cW h k ((opF x).ev tm)
 |.min,_,_=>.mk λtm h=>aq P tm h o
 |.max,_,_=>.mk λtm h=>aq P tm h o
 |_,_,_=>ee "builtin"
def sR(P:Program)(o:Oper)(c:Call):SF:=
 match c.callee with
 |.value f=>.mk λtm _=>mr P ((opF f).ev tm) (evs c.args.toList tm)
 |.builtin b=>jd P o b c.args.toList c.argTypes.toList
 |.invoke ..=>ee "invoke"
def lO(P:Program)(t:TypeId):Bool:=match P.underlying t with|some .string=>true|_=>false
def TJ(x:OpF):SF:=OpF.rec (motive:=λ_=>SF) (λt=>.mk λtm h=>.val (aw (tm.get t) aD λv=>v) h) (λv=>.mk λ_ h=>.val v h) x
def Xv(c a b:OpF):SF:=.mk λtm h=>dO (c.ev tm) (.bad "pick") λx=>.val (ifE x (a.ev tm) (b.ev tm)) h
def ga(h:Hp)(v:AV):ab:=
 NO v (.bad "nilCheck") λx=>
  AO.rec (motive:=λ_=>ab) (λ_=>.bad "nilCheck") (λ_=>.bad "nilCheck") (.bad "nilCheck") (.bad "nilCheck") (.bad "nilCheck") (.bad "nilCheck") (λ_ _ _ _=>.val v h) (λ_ _ _ _ _=>.bad "nilCheck") (λ_=>.bad "nilCheck")
   (λ_ _=>.val v h) (λ_=>.bad "nilCheck") (λ_=>.bad "nilCheck") x
def aI(P:Program)(o:Oper):SF:=
 match o.op with
 |.move x=>TJ (opF x)
 |.assign x=>TJ (opF x)
 |.pick c a b=>Xv (opF c) (opF a) (opF b)
 |.alloc e=>ndF (ay P e) "alloc - zero" λz=>.mk λ_ h=>jx h (ofValue z).cells e
 |.box e x=>.mk λtm h=>aA ((opF x).ev tm).bz "box - a tuple" (jx h ((opF x).ev tm).cells e)
 |.build t parts=>ndF (ay P t) "build - zero" λz=>ndF (cB P t) "build - type" λpl=>ndF (cY pl parts.toList) "build - parts" λps=>.mk λtm h=>ue h (ofValue z).cells tm ps
 |.buildSlice t len parts=>ndF (bt P t) "buildSlice - type" λes=>ndF (ay P es.1) "buildSlice - zero" λz=>
  ifE (both (Nat.ble (Nat.mul len es.2) 16777216) (Nat.beq (bq (ofValue z).cells) es.2))
   (ndF (cY (λi=>some (i*es.2,es.2)) parts.toList) "buildSlice - parts" λps=>.mk λtm h=>ic h (jA (ofValue z).cells len) tm es.1 es.2 len ps) (ee "buildSlice - too much")
 |.load t a=>ndF (loadT P t) "load - type" λp=>.mk λtm h=>cH h p.1 p.2 ((opF a).ev tm)
 |.store t a x=>ndF (aT P t) "store - type" λn=>.mk λtm h=>im h n ((opF x).ev tm) ((opF a).ev tm)
 |.nilCheck x=>.mk λtm h=>ga h ((opF x).ev tm)
 |.binOp op t x y _=>.mk λtm h=>bp h (aR P t) op (dX op) ((opF x).ev tm) ((opF y).ev tm) (aq P tm h o)
 |.fieldAddr s x f=>ndF (aE P s f) "fieldAddr - type" λp=>.mk λtm h=>fl h p.1 p.2.2 ((opF x).ev tm)
 |.field t x f=>ndF (aE P t f) "field - type" λp=>ndF (ns P p.2.1) "field - type" λa=>.mk λtm h=>rJ h p.1 p.2.2 a ((opF x).ev tm)
 |.indexAddr t x i=>ndF (bt P t) "indexAddr - type" λp=>.mk λtm h=>cC h p.2 ((opF x).ev tm) ((opF i).ev tm)
 |.slice t x lo hi mx=>
  match mx with
  |none=>
   match bt P t with
   |some p=>.mk λtm h=>cR h p.2 ((opF x).ev tm) (lo.map (ev tm)) (hi.map (ev tm)) (aq P tm h o)
   |none=>.mk λtm h=>aq P tm h o
  |some _=>ee "slice - three"
 |.extract x i=>.mk λtm h=>bV h ((opF x).ev tm) i
 |.makeFunc fn first caps=>
  match fn with
  |.func f=>ifE first.isEmpty (.mk λtm h=>nd (gY (evs caps.toList tm)) "makeFunc - captured" λcs=>.val (.one (.o (.clo f cs))) h) (ee "makeFunc - bound")
  |_=>ee "makeFunc - kind"
 |.makeMap _ r=>
  match r with
  |none=>.mk λ_ h=>.val (.one (.o (.mp h.nx))) (h.new (.oth (.map [] 0)))
  |some _=>ee "makeMap - hint"
 |.makeSlice t l c=>.mk λtm h=>cL P h t (ev tm l) (ev tm c)
 |.lookup t m k ok=>ndF (fW P t) "lookup - type" λp=>ndF (ay P p.2) "lookup - zero" λz=>.mk λtm h=>aX P h p.1 (ofValue z) (ev tm m) (ev tm k) ok
 |.mapUpdate t m k x=>ndF (fW P t) "mapUpdate - type" λp=>.mk λtm h=>aU P h p.1 (ev tm m) (ev tm k) (ev tm x)
 |.insert t m k x=>ndF (fW P t) "insert - type" λp=>.mk λtm h=>aU P h p.1 (ev tm m) (ev tm k) (ev tm x)
 |.range t x=>ndF (fW P t) "range - type" λ_=>.mk λtm h=>gC h (ev tm x)
 |.next x b=>
  match b with
  |true=>ee "next - string"
  |false=>.mk λtm h=>ei h (ev tm x)
 |.entry x=>.mk λtm h=>gF h (ev tm x)
 |.call c=>sR P o c
 |.unOp op _ x=>.mk λtm h=>JE h op ((opF x).ev tm) (aq P tm h o)
 |.convert ..=>.mk λtm h=>aq P tm h o
 |.index t x i=>.mk λtm h=>ir h (lO P t) (ev tm x) (ev tm i) (aq P tm h o)
 |_=>ee "operation"
def Uz(P:Program)(tm:PT AV)(h:Hp)(o:Oper):ab:=(aI P o).run tm h
structure aa where
 tm:PT AV
 nt:Nat
 dfr:List Nat
def aa.put(a:aa)(d:Tmp)(v:AV):aa:=⟨a.tm.set d v,a.nt,a.dfr⟩
structure Rec where
 code:Option Nat->Code->aa->Hp->R (ak×aa×Hp)
 call:FuncId->List AV->Hp->R (AV×Hp)
def gOf(ops:List Oper):Option (Nat×Bool)->Option (Option Tmp×Bool)
 |none=>none
 |some (j,w)=>
  match ops[j]? with
  |none=>some (none,w)
  |some o=>some (o.dst,w)
def bB(tm:PT AV)(g:Option (Option Tmp×Bool))(yes no:R (aa×Hp)):R (aa×Hp):=
 aw g yes λp=>aw p.1 no λt=>aw (tm.get t) no λv=>
  AV.rec (motive:=λ_=>R (aa×Hp)) (λc=>acE c (λb=>ifE b (ifE p.2 yes no) (ifE p.2 no yes)) (λ_ _=>no) (λ_=>.bad "guard")) (λ_=>no) (λ_=>no) (.bad "guard") v
structure OF where
 g:Option (Option Tmp×Bool)
 dst:Option Tmp
 f:SF
 o:Oper
def fH(P:Program)(ops:List Oper)(l:List Oper):List OF:=
 List.rec (motive:=λ_=>List OF) [] (λo _ ih=>⟨gOf ops o.guard,o.dst,aI P o,o⟩::ih) l
def oN(P:Program)(ops:Array Oper):List OF:=fH P ops.toList ops.toList
def setArgs(l:List AV):Nat->PT AV->PT AV:=
 List.rec (motive:=λ_=>Nat->PT AV->PT AV) (λ_ t=>t) (λv _ ih k t=>ih (Nat.add k 1) (t.set k v)) l
def eK:List Tmp->List AV->PT AV->PT AV
 |p::ps,v::vs,t=>eK ps vs (t.set p v)
 |_,_,t=>t
def pR{α:Type}(l:List α):Nat:=l.length
def iL(id:Nat)(x:ak×aa×Hp):R (AV×Hp):=
 match x.2.1.dfr,x.2.2.get id with
 |[],some (.oth (.loop _ _ tm nt ps as bo d))=>
  match x.1 with
  |.normal=>.ok [(.one (.b true),x.2.2.mod id (.oth (.loop .ready none tm nt ps as bo d)))]
  |.ret=>.ok [(.one (.b false),x.2.2.mod id (.oth (.loop .done (some .ret) tm nt ps as bo d)))]
  |.exit k=>.ok [(.one (.b false),x.2.2.mod id (.oth (.loop .done (some (.exit k)) tm nt ps as bo d)))]
 |_,_=>.bad "round - its end"
def eo(rec:Rec)(id:Nat)(body:Code)(x:ak×aa×Hp):R (AV×Hp):=
 match x.1,x.2.2.get id with
 |.normal,some (.oth (.loop .ready pe tm nt ps as bo d))=>
  (rec.code (some id) body x.2.1 (x.2.2.mod id (.oth (.loop .busy pe tm nt ps as bo d)))).bind (iL id)
 |_,_=>.bad "round - assignments"
def fK(rec:Rec)(id:Nat)(args:List AV)(h:Hp):R (AV×Hp):=
 match h.get id with
 |some (.oth (.loop .ready _ tm nt params assign body _))=>
  ifE (both (Nat.beq (pR args) (pR params)) (params.all λp=>Nat.blt p nt))
   ((rec.code (some id) assign ⟨eK params args tm,nt,[]⟩ h).bind (eo rec id body)) (.bad "round - arguments")
 |_=>.bad "round - no loop that is ready"
structure Env where
 P:Program
 dQ:FuncId->List AV->Option AV
 dZ:FuncId->List AV->Hp->Option (AV×Nat×aJ):=λ_ _ _=>none
 jn:Nat->Bool:=λ_=>false
def mQ(E:Env)(rec:Rec)(f:FuncId)(args:List AV)(h:Hp):R (AV×Hp):=
 aw (E.dQ f args) (aw (E.dZ f args h) (rec.call f args h) λx=>.ok [(x.1,h.mod x.2.1 x.2.2)]) λv=>.ok [(v,h)]
def je(E:Env)(rec:Rec)(h:Hp)(n:ab):R (AV×Hp):=
 ab.rec (motive:=λ_=>R (AV×Hp)) (λv h'=>.ok [(v,h')]) (λl=>.ok l) (λf args=>mQ E rec f args h) (λid args=>fK rec id args h) (λs=>.bad s) n
def SP(E:Env)(rec:Rec)(tm:PT AV)(h:Hp)(f:SF):R (AV×Hp):=je E rec h (f.run tm h)
def fA(a:aa)(dst:Option Tmp)(v:AV)(h:Hp)(k:aa->Hp->R (aa×Hp)):R (aa×Hp):=
 aw dst (k a h) λd=>ifE (Nat.blt d a.nt) (k (a.put d v) h) (.bad "slot")
def lG(E:Env)(rec:Rec)(a:aa)(dst:Option Tmp)(h:Hp)(k:aa->Hp->R (aa×Hp))(n:ab):R (aa×Hp):=
 ab.rec (motive:=λ_=>R (aa×Hp)) (λv h'=>fA a dst v h' k) (λl=>cr (λx=>fA a dst x.1 x.2 k) l) (λf args=>(mQ E rec f args h).bind λx=>fA a dst x.1 x.2 k)
  (λid args=>(fK rec id args h).bind λx=>fA a dst x.1 x.2 k) (λs=>.bad s) n
def dI(E:Env)(rec:Rec)(l:List OF):aa->Hp->R (aa×Hp):=
 List.rec (motive:=λ_=>aa->Hp->R (aa×Hp)) (λa h=>.ok [(a,h)])
  (λo _ ih a h=>bB a.tm o.g (lG E rec a o.dst h ih (o.f.run a.tm h)) (fA a o.dst aD h ih)) l
def fi(e:Edge):Bool:=match e.ground with|.textOnly _=>false|.gcOnly _=>false|_=>true
def ja(acc:List Nat)(j:Nat):List Edge->Nat
 |[]=>0
 |e::es=>bif fi e&&Nat.blt e.on j then Nat.lor (Nat.lor (Nat.shiftLeft 1 e.on) (acc.getD e.on 0)) (ja acc j es)else ja acc j es
def dM:List Nat->Nat->List Oper->List Nat
 |acc,_,[]=>acc
 |acc,j,o::os=>dM (acc++[ja acc j o.after.toList]) (Nat.add j 1) os
def Yd:Operand->Option Nat
 |.tmp t=>some t
 |_=>none
def zZ(ops:Array Oper):Option (Nat×Bool)->List Nat
 |none=>[]
 |some (j,_)=>
  match ops[j]? with
  |none=>[]
  |some oj=>
   match oj.dst with
   |some d=>[d]
   |none=>[]
def slotsOf(ops:Array Oper)(o:Oper):List Nat:=o.op.operands.toList.filterMap Yd++zZ ops o.guard
def NI(l:List Nat)(i:Nat):Bool:=
 match l with
 |[]=>false
 |x::l=>bif Nat.beq x i then true else NI l i
def yp(ops:Array Oper)(x y:Oper):Bool:=
 (match x.dst with|some d=>NI (slotsOf ops y) d||(match y.dst with|some d'=>Nat.beq d d'|none=>false)|none=>false) ||
 (match y.dst with|some d=>NI (slotsOf ops x) d|none=>false)
def mo(ops:Array Oper)(m:Nat)(y:Oper):Nat->List Oper->Bool
 |_,[]=>true
 |i,x::xs=>(Nat.testBit m i||!yp ops x y)&&mo ops m y (Nat.add i 1) xs
def nZ(ops:Array Oper)(before:List Oper):List Oper->List Nat->Bool
 |[],_=>true
 |o::os,m::ms=>mo ops m o 0 before&&nZ ops (before++[o]) os ms
 |_::_,[]=>false
def jT:Nat->List Oper->Bool
 |_,[]=>true
 |j,o::os=>(o.after.toList.all λe=>Nat.blt e.on j||!fi e)&&jT (Nat.add j 1) os
def dP(ops:Array Oper):Bool:=nZ ops [] ops.toList (dM [] 0 ops.toList)&&jT 0 ops.toList
structure Did where
 idx:Nat
 M1:PT aJ
 c0:Nat
 c1:Nat
 wr:List Nat
def AO.ids:AO->List Nat
 |.ptr id ..=>[id]
 |.sl id ..=>[id]
 |.mp id=>[id]
 |.clo _ cs=>cs.map λc=>c.1
 |.yl id=>[id]
 |.it id=>[id]
 |_=>[]
def AC.ids:AC->List Nat
 |.o x=>x.ids
 |_=>[]
def AV.ids:AV->List Nat
 |.one c=>c.ids
 |.agg l=>l.flatMap AC.ids
 |.tup l=>l.flatMap λx=>x.2.flatMap AC.ids
 |.any=>[]
def cI(o:Oper):Bool:=
 match o.op with
 |.call c=>match c.callee with|.value _=>true|_=>false
 |_=>false
def OE(o:Oper):Bool:=
 match o.op with
 |.load ..=>true
 |.store ..=>true
 |.lookup ..=>true
 |.mapUpdate ..=>true
 |.insert ..=>true
 |.range ..=>true
 |.next ..=>true
 |.entry ..=>true
 |.call _=>true
 |_=>false
def bm(o:Oper):Nat:=bif cI o then 2 else bif OE o then 1 else 0
def cd(a:Nat):Nat->List Nat
 |0=>[]
 |n+1=>a::cd (Nat.add a 1) n
def bO(u:Did)(i:Nat):Bool:=NI u.wr i||(Nat.ble u.c0 i&&Nat.blt i u.c1)
def lR(t:PT aJ):List Nat->PT aJ
 |[]=>t
 |i::l=>lR (t.del i) l
def bP(t src:PT aJ):List Nat->PT aJ
 |[]=>t
 |i::l=>bP (PT.put (src.get i) t i) src l
def eb(u:Did):List Nat:=u.wr++cd u.c0 (Nat.sub u.c1 u.c0)
def kY(t:PT aJ):List Nat->List Nat
 |[]=>[]
 |i::l=>match t.get i with
  |some (.oth (.iter (some m) _ _ _))=>i::m::kY t l
  |_=>i::kY t l
def aO(t:PT aJ)(nx:Nat)(tm:PT AV)(o:Oper)(us:List Did):PT aJ:=
 match bm o with
 |0=>.leaf
 |1=>bP .leaf t ((kY t (o.op.operands.toList.flatMap λx=>(ev tm x).ids)).filter λi=>Nat.blt i nx&&!us.any (bO · i))
 |_=>lR t (us.flatMap eb)
def aL(m:Nat)(did:List Did):List Did:=
 List.rec (motive:=λ_=>List Did) [] (λu _ ih=>ifE (Nat.testBit m u.idx) ih (u::ih)) did
def sJ(M1:PT aJ)(wr:List Nat):Bool:=List.rec (motive:=λ_=>Bool) true (λi _ ih=>aw (M1.get i) ih λ_=>false) wr
def eC(us:List Did)(wr:List Nat):Bool:=List.rec (motive:=λ_=>Bool) true (λu _ ih=>both (sJ u.M1 wr) ih) us
def db(sub:PT aJ)(n:Nat)(l:List Nat):List Nat:=
 List.rec (motive:=λ_=>List Nat) [] (λi _ ih=>ifE (Nat.blt i n) (aw (sub.get i) ih λ_=>i::ih) ih) l
def cM(k:Nat)(h:Hp)(h':Hp)(us:List Did)(wr:List Nat):PT aJ:=
 Nat.rec (motive:=λ_=>PT aJ) (bP h.t h'.t (cd h.nx (Nat.sub h'.nx h.nx)))
  (λk' _=>Nat.rec (motive:=λ_=>PT aJ) (bP h.t h'.t (wr++cd h.nx (Nat.sub h'.nx h.nx))) (λ_ _=>bP h'.t h.t (us.flatMap eb)) k') k
def note(k j:Nat)(sub:PT aJ)(h h':Hp)(did:List Did)(wr:List Nat):List Did:=
 ifE (both (Nat.beq k 0) (Nat.beq h.nx h'.nx)) did (⟨j,sub,h.nx,h'.nx,wr⟩::did)
def WH(k j:Nat)(a:aa)(dst:Option Tmp)(h:Hp)(sub:PT aJ)(us did:List Did)(K:List Did->aa->Hp->R (aa×Hp))(x:AV×Hp)(wr:List Nat):R (aa×Hp):=
 ifE (eC us wr)
  (fA a dst x.1 ⟨cM k h x.2 us wr,x.2.nx,wr++h.log⟩ (K (note k j sub h x.2 did wr)))
  (.bad "draw - two operations that may change places touch one object")
def vM(k j:Nat)(a:aa)(dst:Option Tmp)(h:Hp)(sub:PT aJ)(us did:List Did)(K:List Did->aa->Hp->R (aa×Hp))(x:R (AV×Hp)):R (aa×Hp):=
 R.rec (motive:=λ_=>R (aa×Hp))
  (λl=>List.rec (motive:=λ_=>R (aa×Hp)) (.bad "draw - no way")
   (λx l' _=>List.rec (motive:=λ_=>R (aa×Hp)) (WH k j a dst h sub us did K x (db sub h.nx x.2.log))
    (λ_ _ _=>.bad "draw - several ways") l') l)
  (λs=>.bad s) x
def cJ(E:Env)(rec:Rec)(l:List OF):Nat->List Nat->List Did->aa->Hp->R (aa×Hp):=
 List.rec (motive:=λ_=>Nat->List Nat->List Did->aa->Hp->R (aa×Hp)) (λ_ _ _ a h=>.ok [(a,h)])
  (λo _ ih j ms did a h=>
   List.rec (motive:=λ_=>R (aa×Hp)) (.bad "draw - masks")
    (λm ms' _=>
     bB a.tm o.g
      (vM (bm o.o) j a o.dst h (aO h.t h.nx a.tm o.o (aL m did)) (aL m did) did (ih (Nat.add j 1) ms')
       (SP E rec a.tm ⟨aO h.t h.nx a.tm o.o (aL m did),h.nx,[]⟩ o.f))
      (fA a o.dst aD h (ih (Nat.add j 1) ms' did))) ms) l
inductive CF where
 |mk (f:Rec->Option Nat->aa->Hp->R (ak×aa×Hp))
def CF.run(c:CF):Rec->Option Nat->aa->Hp->R (ak×aa×Hp):=CF.rec (motive:=λ_=>Rec->Option Nat->aa->Hp->R (ak×aa×Hp)) (λf=>f) c
def exE{β:Type}(e:ak)(n:β)(x:Nat->β)(r:β):β:=ak.rec (motive:=λ_=>β) n x r e
def rZ(f:CF)(rec:Rec)(r:Option Nat)(x:ak×aa×Hp):R (ak×aa×Hp):=exE x.1 (f.run rec r x.2.1 x.2.2) (λ_=>.ok [x]) (.ok [x])
def jE(id:Nat)(x:ak×aa×Hp):R (ak×aa×Hp):=exE x.1 (.ok [x]) (λk=>ifE (Nat.beq k id) (.ok [(.normal,x.2)]) (.ok [x])) (.ok [x])
def Yt(o:aJ):aJ:=aJ.casesOn (motive:=λ_=>aJ) o (λc e _ gen=>.arr c e gen gen) (λx=>.oth x) (λc=>.ro c)
def ct(n id:Nat)(o:Option aJ):Option aJ:=if id<n then o else o.map Yt
def lH:List bu->Option (List (Int×AV))
 |[]=>some []
 |e::l=>match e.key,lH l with
  |.one (.i .i64 n),some r=>some ((n,e.val)::r)
  |_,_=>none
def qn:List (ak×aa×Hp)->Nat
 |[]=>0
 |x::l=>Nat.max x.2.2.nx (qn l)
def XJ(h:Hp)(l:List (ak×aa×Hp)):List Nat:=l.flatMap λx=>x.2.2.log.take (x.2.2.log.length-h.log.length)
def jQ(tm:PT AV)(t:Nat):AV:=aw (tm.get t) aD λv=>v
open Classical in
def rI(l:List (ak×aa×Hp))(tm:PT AV):Nat->PT AV
 |0=>.leaf
 |k+1=>PT.set (rI l tm k) k (if∀z∈l,jQ z.2.1.tm k=jQ tm k then jQ tm k else .any)
def wk(l:List (ak×aa×Hp))(id:Nat)(k:List (Int×AV)):Prop:=∀z∈l,∃es c k',z.2.2.t.get id=some (.oth (.map es c))∧lH es=some k'∧∀n,de n k'=de n k
def zj(z:ak×aa×Hp)(id:Nat):Prop:=∃x,z.2.2.t.get id=some (.oth x)
open Classical in
def rf(n:Nat)(l:List (ak×aa×Hp))(t:PT aJ)(id:Nat):Option aJ:=
 if∀z∈l,ct n id (z.2.2.t.get id)=ct n id (t.get id)then ct n id (t.get id)else
  if h:∃k,wk l id k then some (.oth (.fmap h.choose))else if∀z∈l,zj z id then some (.oth .lost)else none
def BO(f:Nat->Option aJ):Nat->PT aJ
 |0=>.leaf
 |k+1=>PT.put (f k) (BO f k) k
open Classical in
def JJ(n:Nat)(l:List (ak×aa×Hp))(t:PT aJ):Nat->List Nat
 |0=>[]
 |k+1=>if∀z∈l,ct n k (z.2.2.t.get k)=ct n k (t.get k)then JJ n l t k else k::JJ n l t k
def pE(h:Hp)(l:List (ak×aa×Hp))(t:PT aJ):Hp:=⟨BO (rf h.nx l t) (qn l),qn l,(JJ h.nx l t (qn l)++XJ h l)++h.log⟩
open Classical in
def Sn(h:Hp)(l:List (ak×aa×Hp))(x:ak×aa×Hp):List (ak×aa×Hp):=
 if∀z∈l,z.1=x.1∧z.2.1.nt=x.2.1.nt∧z.2.1.dfr=x.2.1.dfr∧∀id,id<h.nx->z.2.2.t.get id=x.2.2.t.get id∨(∃k,wk l id k)∨∀z∈l,zj z id then[(x.1,⟨rI l x.2.1.tm x.2.1.nt,x.2.1.nt,x.2.1.dfr⟩,pE h l x.2.2.t)]else l
def lQ(h:Hp)(l:List (ak×aa×Hp)):List (ak×aa×Hp):=
 List.rec (motive:=λ_=>List (ak×aa×Hp)) [] (λx l' _=>List.rec (motive:=λ_=>List (ak×aa×Hp)) [x] (λy l'' _=>Sn h (x::y::l'') x) l') l
def kH(b:Bool)(h:Hp)(r:R (ak×aa×Hp)):R (ak×aa×Hp):=Bool.rec (motive:=λ_=>R (ak×aa×Hp)) r (R.rec (motive:=λ_=>R (ak×aa×Hp)) (λl=>.ok (lQ h l)) (λs=>.bad s) r) b
def vU(rec:Rec)(r:Option Nat)(c:Code)(x:ak×aa×Hp):R (ak×aa×Hp):=exE x.1 (rec.code r (.loop c) x.2.1 x.2.2) (λ_=>.ok [x]) (.ok [x])
def eI(x:aa×Hp):R (ak×aa×Hp):=.ok [(.normal,x)]
def lD(r:Option Nat)(a:aa)(h:Hp):Option (Nat×Hp×aa):=
 match r with
 |none=>some (h.nx,h.new (.oth (.dfr true)),⟨a.tm,a.nt,h.nx::a.dfr⟩)
 |some l=>
  match h.get l with
  |some (.oth (.loop _ _ _ _ _ _ _ d))=>some (d,h,a)
  |_=>none
def ea(l:Nat)(a1:aa)(x:AV×Hp):R (ak×aa×Hp):=
 match x.2.get l with
 |some (.oth (.loop st pe tm nt ps as bo d))=>
  match st with
  |.busy=>.bad "rangeFunc - busy"
  |_=>
   match pe with
   |none=>.ok [(.normal,a1,x.2.mod l (.oth (.loop .exhausted pe tm nt ps as bo d)))]
   |some .ret=>.ok [(.ret,a1,x.2.mod l (.oth (.loop .exhausted pe tm nt ps as bo d)))]
   |some (.exit k)=>.ok [(.exit k,a1,x.2.mod l (.oth (.loop .exhausted pe tm nt ps as bo d)))]
   |some _=>.bad "rangeFunc - jump"
 |_=>.bad "rangeFunc - no record"
def gA(E:Env)(rec:Rec)(r:Option Nat)(f:OpF)(params:List Tmp)(assign body:Code)(a:aa)(h:Hp):R (ak×aa×Hp):=
 match lD r a h with
 |none=>.bad "rangeFunc - no loop around"
 |some (d,h1,a1)=>
  match f.ev a.tm with
  |.one (.o (.clo g caps))=>
   ifE (ao E.P g) ((rec.call g (.one (.o (.yl h1.nx))::eE caps) (h1.new (.oth (.loop .ready none a.tm a.nt params assign body d)))).bind (ea h1.nx a1)) (.bad "rangeFunc - no body")
  |_=>.bad "rangeFunc - no function"
def codeF(E:Env)(c:Code):CF:=
 Code.rec (motive:=λ_=>CF)
  (.mk λ_ _ a h=>.ok [(.normal,a,h)])
  (λ_ ops draw=>Bool.rec (motive:=λ_=>CF) (.mk λrec _ a h=>(dI E rec (oN E.P ops) a h).bind eI)
    (ifE (dP ops) (.mk λrec _ a h=>(cJ E rec (oN E.P ops) 0 (dM [] 0 ops.toList) [] a h).bind eI) (.mk λ_ _ _ _=>.bad "draw - slots")) draw)
  (λ_ _ fx fy=>.mk λrec r a h=>(fx.run rec r a h).bind (rZ fy rec r))
  (λc _ _ fx fy=>.mk λrec r a h=>dO ((opF c).ev a.tm) (.bad "cond") λb=>ifE b (fx.run rec r a h) (fy.run rec r a h))
  (λid _ fx=>.mk λrec r a h=>kH (E.jn id) h ((fx.run rec r a h).bind (jE id)))
  (λc fx=>.mk λrec r a h=>(fx.run rec r a h).bind (vU rec r c))
  (λf params assign body _ _=>.mk λrec r a h=>gA E rec r (opF f) params.toList assign body a h)
  (λid=>.mk λ_ _ a h=>.ok [(.exit id,a,h)])
  (λ_ fx=>fx)
  (λ_=>.mk λ_ _ a h=>.ok [(.normal,a,h)])
  (λ_=>.mk λ_ _ _ _=>.bad "goto")
  (.mk λ_ _ a h=>.ok [(.ret,a,h)])
  (λ_=>.mk λ_ _ _ _=>.bad "refuse") c
def Yy(E:Env)(rec:Rec)(r:Option Nat)(c:Code)(a:aa)(h:Hp):R (ak×aa×Hp):=(codeF E c).run rec r a h
def closeAll(h:Hp):List Nat->Option Hp
 |[]=>some h
 |d::ds=>match h.get d with
  |some (.oth (.dfr true))=>closeAll (h.mod d (.oth (.dfr false))) ds
  |_=>none
def iZ(v:AV):Option (Bool×List AC):=avE v (λc=>some (false,[c])) (λl=>some (true,l)) (λ_=>none)
def jM(P:Program)(x:ResultVar):PT AV->Hp->Option (Bool×List AC):=
 match x with
 |.tmp t=>λtm _=>aw (tm.get t) none iZ
 |.cell a t=>
  match loadT P t with
  |some p=>λtm h=>aw (tm.get a) none λv=>ab.rec (motive:=λ_=>Option (Bool×List AC)) (λv _=>iZ v) (λ_=>none) (λ_ _=>none) (λ_ _=>none) (λ_=>none) (cH h p.1 p.2 v)
  |none=>λ_ _=>none
def bQ(P:Program)(l:List ResultVar)(tm:PT AV)(h:Hp):Option (List (Bool×List AC)):=
 List.rec (motive:=λ_=>Option (List (Bool×List AC))) (some []) (λr _ ih=>aw (jM P r tm h) none λx=>aw ih none λl=>some (x::l)) l
def dU:List (Bool×List AC)->AV
 |[(true,l)]=>.agg l
 |[(false,[c])]=>.one c
 |l=>.tup l
inductive FF where
 |mk (c:CF) (nt:Nat) (res:List ResultVar)
 |no
def RW(E:Env)(f:FuncId):FF:=
 match E.P.funcs[f]? with
 |some fn=>
  match fn.body with
  |some c=>.mk (codeF E c) fn.ntmps fn.results.toList
  |none=>.no
 |none=>.no
def aC(E:Env)(res:List ResultVar)(x:ak×aa×Hp):R (AV×Hp):=
 exE x.1
  (aw (closeAll x.2.2 x.2.1.dfr) (.bad "marks") λh2=>aw (bQ E.P res x.2.1.tm h2) (.bad "results") λl=>.ok [(dU l,h2)])
  (λ_=>.bad "exit")
  (aw (closeAll x.2.2 x.2.1.dfr) (.bad "marks") λh2=>aw (bQ E.P res x.2.1.tm h2) (.bad "results") λl=>.ok [(dU l,h2)])
def mj:List (AV×Hp)->Nat
 |[]=>0
 |x::l=>Nat.max x.2.nx (mj l)
def sC(n:Nat)(t src:PT aJ):List Nat->PT aJ
 |[]=>t
 |i::l=>sC n (PT.put (ct n i (src.get i)) t i) src l
open Classical in
def pZ(n:Nat)(l:List (AV×Hp))(t:PT aJ)(id:Nat):Bool:=decide (∀x∈l,ct n id (x.2.t.get id)=ct n id (t.get id))
def uZ(h h':Hp):List Nat:=h'.log.take (h'.log.length-h.log.length)
def Ep(h:Hp)(l:List (AV×Hp))(t:PT aJ):Hp:=
 ⟨sC h.nx .leaf t ((cd 0 (mj l)).filter (pZ h.nx l t)),mj l,l.flatMap (λx=>uZ h x.2)++h.log⟩
open Classical in
def Xf(h:Hp)(l:List (AV×Hp))(x:AV×Hp):List (AV×Hp):=
 if∀z∈l,z.1=x.1∧∀id,id<h.nx->z.2.t.get id=x.2.t.get id then[(x.1,Ep h l x.2.t)]else l
def vC(h:Hp)(l:List (AV×Hp)):List (AV×Hp):=
 List.rec (motive:=λ_=>List (AV×Hp)) [] (λx l' _=>List.rec (motive:=λ_=>List (AV×Hp)) [x] (λy l'' _=>Xf h (x::y::l'') x) l') l
def tt(h:Hp)(r:R (AV×Hp)):R (AV×Hp):=R.rec (motive:=λ_=>R (AV×Hp)) (λl=>.ok (vC h l)) (λs=>.bad s) r
def jG(E:Env)(rec:Rec)(f:FuncId)(args:List AV)(h:Hp):R (AV×Hp):=
 FF.rec (motive:=λ_=>R (AV×Hp))
  (λc nt res=>ifE (both (Nat.ble (pR args) nt) (Nat.ble nt 1048576)) (tt h ((c.run rec none ⟨setArgs args 0 .leaf,nt,[]⟩ h).bind (aC E res))) (.bad "too many arguments"))
  (.bad "no function") (RW E f)
def eval(E:Env)(n:Nat):Rec:=
 Nat.rec (motive:=λ_=>Rec) ⟨λ_ _ _ _=>.bad "fuel", λ_ _ _=>.bad "fuel"⟩
  (λ_ ih=>⟨λr c a h=>Yy E ih r c a h,λf args h=>jG E ih f args h⟩) n
def ph{n:Nat}(h:¬n=0):Nat.beq n 0=false:=by
 cases n with
 |zero=>exact absurd rfl h
 |succ n=>rfl
section
variable{α:Type}
theorem PT.lT(n:Nat):(PT.leaf:PT α).get n=none:=rfl
theorem PT.eT(l r:PT α)(v:Option α):(PT.node l v r).get 0=v:=rfl
theorem PT.cx(l r:PT α)(v:Option α)(k:Nat):(PT.node l v r).get (k+1)=if k%2=0 then l.get (k/2)else r.get (k/2):=by
 show Bool.rec (motive:=λ_=>Option α) (r.get (Nat.div k 2)) (l.get (Nat.div k 2)) (Nat.beq (Nat.mod k 2) 0)=_;have e1:Nat.mod k 2=k%2:=rfl;have e2:Nat.div k 2=k/2:=rfl;rw[e1,e2];by_cases h:k%2=0
 ·rw[zB0 h,h];rfl
 rw[zB1 h];have:Nat.beq (k%2) 0=false:=ph h;rw[this]
theorem PT.mk_zero(a:Option α)(n:Nat):PT.mk a 0 n=.node .leaf a .leaf:=rfl
theorem PT.Ja(a:Option α)(f:Nat):PT.mk a f 0=.node .leaf a .leaf:=by cases f<;>rfl
theorem PT.VG(a:Option α)(f k:Nat):PT.mk a (f+1) (k+1)=if k%2=0 then .node (PT.mk a f (k/2)) none .leaf else .node .leaf none (PT.mk a f (k/2)):=by
 show Bool.rec (motive:=λ_=>PT α) (.node .leaf none (PT.mk a f (Nat.div k 2))) (.node (PT.mk a f (Nat.div k 2)) none .leaf) (Nat.beq (Nat.mod k 2) 0)=_;have e1:Nat.mod k 2=k%2:=rfl;have e2:Nat.div k 2=k/2:=rfl;rw[e1,e2];by_cases h:k%2=0
 ·rw[zB0 h,h];rfl
 rw[zB1 h];have:Nat.beq (k%2) 0=false:=ph h;rw[this]
theorem PT.YD(a:Option α):∀(f n m:Nat),n<2^f->(PT.mk a f n).get m=if m=n then a else none:=by
 intro f;induction f with
 |zero=>
  intro n m h;have:n=0:=by simpa using h
  subst this;cases m with
  |zero=>simp[PT.mk_zero,PT.eT]
  |succ k=>simp[PT.mk_zero,PT.cx,PT.lT]
 |succ f ih=>
  intro n m h;cases n with
  |zero=>
   rw[PT.Ja];cases m with
   |zero=>simp[PT.eT]
   |succ k=>simp[PT.cx,PT.lT]
  |succ k=>
   have hk:k/2<2^f:=by rw[Nat.pow_succ]at h;omega
   rw[PT.VG];cases m with
   |zero=>split<;>simp[PT.eT]
   |succ j=>
    by_cases hp:k%2=0
    ·rw[zB0 hp,PT.cx];by_cases hj:j%2=0
     ·rw[zB0 hj,ih _ _ hk];by_cases e:j=k
      ·subst e;simp
      rw[zB1 (by omega),zB1 (by omega)]
     rw[zB1 hj,PT.lT,zB1 (by omega)]
    rw[zB1 hp,PT.cx];by_cases hj:j%2=0
    ·rw[zB0 hj,PT.lT,zB1 (by omega)]
    rw[zB1 hj,ih _ _ hk];by_cases e:j=k
    ·subst e;simp
    rw[zB1 (by omega),zB1 (by omega)]
theorem PT.QT(a:Option α)(n:Nat):PT.put a .leaf n=PT.mk a n n:=rfl
theorem PT.xr(a:Option α)(l r:PT α)(v:Option α):PT.put a (.node l v r) 0=.node l a r:=rfl
theorem PT.xw(a:Option α)(l r:PT α)(v:Option α)(k:Nat):PT.put a (.node l v r) (k+1)=if k%2=0 then .node (PT.put a l (k/2)) v r else .node l v (PT.put a r (k/2)):=by
 show Bool.rec (motive:=λ_=>PT α) (.node l v (PT.put a r (Nat.div k 2))) (.node (PT.put a l (Nat.div k 2)) v r) (Nat.beq (Nat.mod k 2) 0)=_;have e1:Nat.mod k 2=k%2:=rfl;have e2:Nat.div k 2=k/2:=rfl;rw[e1,e2];by_cases h:k%2=0
 ·rw[zB0 h,h];rfl
 rw[zB1 h];have:Nat.beq (k%2) 0=false:=ph h;rw[this]
theorem PT.qL(a:Option α)(t:PT α):∀(n m:Nat),(PT.put a t n).get m=if m=n then a else t.get m:=by
 induction t with
 |leaf=>intro n m;rw[PT.QT,PT.YD a n n m Nat.lt_two_pow_self,PT.lT]
 |node l v r ihl ihr=>
  intro n m;cases n with
  |zero=>
   rw[PT.xr];cases m with
   |zero=>simp[PT.eT]
   |succ k=>simp[PT.cx]
  |succ k=>
   rw[PT.xw];cases m with
   |zero=>split<;>simp[PT.eT]
   |succ j=>
    by_cases hp:k%2=0
    ·rw[zB0 hp,PT.cx,PT.cx];by_cases hj:j%2=0
     ·rw[zB0 hj,zB0 hj,ihl];by_cases e:j=k
      ·subst e;simp
      rw[zB1 (by omega),zB1 (by omega)]
     rw[zB1 hj,zB1 hj,zB1 (by omega)]
    rw[zB1 hp,PT.cx,PT.cx];by_cases hj:j%2=0
    ·rw[zB0 hj,zB0 hj,zB1 (by omega)]
    rw[zB1 hj,zB1 hj,ihr];by_cases e:j=k
    ·subst e;simp
    rw[zB1 (by omega),zB1 (by omega)]
theorem PT.tP(a:Option α)(t:PT α)(n m:Nat)(_:n<n+1):(PT.put a t n).get m=if m=n then a else t.get m:=PT.qL a t n m
theorem PT.nU(t:PT α)(n m:Nat)(a:α)(h:n<n+1):(t.set n a).get m=if m=n then some a else t.get m:=PT.tP _ _ _ _ h
theorem PT.dv(t:PT α)(n m:Nat)(a:α):(t.set n a).get m=if m=n then some a else t.get m:=PT.qL _ _ _ _
end
def bL{β:Type}(b:Bool)(x y:β):ifE b x y=if b=true then x else y:=by cases b<;>rfl
def NX{α β:Type}(e:β)(f:α->β):aw none e f=e:=rfl
def yg{α β:Type}(a:α)(e:β)(f:α->β):aw (some a) e f=f a:=rfl
def cF(a b:Bool):both a b=(a&&b):=by cases a<;>cases b<;>rfl
def bj(l:List AC):bq l=l.length:=by
 induction l with
 |nil=>rfl
 |cons a l ih=>show Nat.add (bq l) 1=_;rw[ih];rfl
def uY(n:Nat):∀l:List AC,Gw n l=l.drop n:=by
 induction n with
 |zero=>intro l;rfl
 |succ n ih=>
  intro l;cases l with
  |nil=>rfl
  |cons a l=>show Gw n l=_;rw[ih];rfl
def Hj(n:Nat):∀l:List AC,Km n l=l.take n:=by
 induction n with
 |zero=>intro l;rfl
 |succ n ih=>
  intro l;cases l with
  |nil=>rfl
  |cons a l=>show a::Km n l=_;rw[ih];rfl
def gE(l m:List AC):lL l m=l++m:=by
 induction l with
 |nil=>rfl
 |cons a l ih=>show a::lL l m=_;rw[ih];rfl
def jz(l:List AC)(off n:Nat):cut l off n=(l.drop off).take n:=by rw[cut,Hj,uY]
def fm(l:List AC)(off:Nat)(c:List AC):eQ l off c=l.take off++(c++l.drop (off+c.length)):=by
 rw[eQ,Hj,uY,gE,gE,bj];rfl
def Br(l:List UInt8):OW l=l.length:=by
 induction l with
 |nil=>rfl
 |cons a l ih=>show Nat.add (OW l) 1=_;rw[ih];rfl
def KK(n:Nat):∀l:List UInt8,Wt n l=l[n]?:=by
 induction n with
 |zero=>intro l;cases l<;>rfl
 |succ n ih=>intro l;cases l with|nil=>rfl|cons a l=>show Wt n l=_;rw[ih];rfl
def VZ(n:Nat)(l:List AC):Vc n l=l[n]?:=by
 unfold Vc;rw[uY];have:l[n]?=(l.drop n)[0]?:=by simp
 rw[this];cases l.drop n<;>rfl
def OS{α β:Type}(f:α->R β):∀(l:List α)(outs:List β),cr f l=.ok outs->∀x∈l,∃o,f x=.ok o∧∀y∈o,y∈outs:=by
 intro l;induction l with
 |nil=>intro _ _ x hx;cases hx
 |cons a l ih=>
  intro outs h x hx;cases l with
  |nil=>
   have h':f a=.ok outs:=h;have:x=a:=by simpa using hx
   subst this;exact⟨outs,h',λ_ hy=>hy⟩
  |cons b l=>
   have h':xf (f a) (cr f (b::l))=.ok outs:=h;cases ha:f a with
   |bad s=>rw[ha]at h';cases h'
   |ok oa=>
    cases hb:cr f (b::l)with
    |bad s=>rw[ha,hb]at h';cases h'
    |ok ob=>
     rw[ha,hb]at h';have he:oa++ob=outs:=by injection h'
     subst he;rcases List.mem_cons.1 hx with rfl|hx
     ·exact⟨oa,ha,λy hy=>List.mem_append_left _ hy⟩
     obtain⟨o,ho,U0⟩:=ih ob hb x hx
     exact⟨o,ho,λy hy=>List.mem_append_right _ (U0 y hy)⟩
def R.dN{α β:Type}{r:R α}{f:α->R β}{outs:List β}(h:r.bind f=.ok outs):∃l,r=.ok l∧∀x∈l,∃o,f x=.ok o∧∀y∈o,y∈outs:=by
 cases r with
 |bad s=>cases h
 |ok l=>exact⟨l,rfl,OS f l outs h⟩
section
variable{P:Program}{H:Hp}{tm tm':PT AV}
theorem rN:∀{l:List Operand},(∀x∈l,ev tm x=ev tm' x)->evs l tm=evs l tm'
 |[],_=>rfl
 |x::l,h=>by
  show ev tm x::evs l tm=ev tm' x::evs l tm';rw[h x (List.mem_cons_self ..),rN λy hy=>h y (List.mem_cons_of_mem _ hy)]
theorem lW{place:Nat->Option (Nat×Nat)}:∀{l:List (Nat×Operand)}{ps:List (Nat×Nat×OpF)},cY place l=some ps->(∀x∈l.map (·.2),ev tm x=ev tm' x)->∀cells,hY tm ps cells=hY tm' ps cells
 |[],ps,h,_,cells=>by cases h;rfl
 |(i,x)::l,ps,h,hx,cells=>by
  unfold cY at h;split at h
  ·rename_i p r hp hr
   cases h
   have O0:(opF x).ev tm=(opF x).ev tm':=hx x (by simp);show ifE (both (Nat.beq (bq ((opF x).ev tm).cells) p.2) (both (Nat.ble (Nat.add p.1 p.2) (bq cells)) ((opF x).ev tm).bz)) (hY tm r (eQ cells p.1 ((opF x).ev tm).cells)) none =
    ifE (both (Nat.beq (bq ((opF x).ev tm').cells) p.2) (both (Nat.ble (Nat.add p.1 p.2) (bq cells)) ((opF x).ev tm').bz)) (hY tm' r (eQ cells p.1 ((opF x).ev tm').cells)) none
   rw[O0,lW hr λy hy=>hx y (by simp only[List.map_cons];exact List.mem_cons_of_mem _ hy)]
  cases h
theorem Eo{o:Oper}(hs:∀cs b,o.op≠.select cs b)(h:∀x∈o.op.operands.toList,ev tm x=ev tm' x):aq P tm H o=aq P tm' H o:=by
 unfold aq;have h1:o.op.operands.toList.all (λx=>(ev tm x).val?.isSome)=o.op.operands.toList.all (λx=>(ev tm' x).val?.isSome):=by
  rw[Bool.eq_iff_iff,List.all_eq_true,List.all_eq_true];exact⟨λk x hx=>by rw[<-h x hx];exact k x hx,λk x hx=>by rw[h x hx];exact k x hx⟩
 have h2:execOp (λx=>bk (ev tm x)) o=execOp (λx=>bk (ev tm' x)) o:=
  execOp_congr o hs λx hx=>by rw[h x (by simpa using hx)]
 rw[h1,h2]
theorem bD{α:Type}{o:Option α}{s:String}{f:α->SF}(h:∀a,o=some a->(f a).run tm H=(f a).run tm' H):(ndF o s f).run tm H=(ndF o s f).run tm' H:=by
 cases o with
 |none=>rfl
 |some a=>exact h a rfl
theorem nH{b:Bool}{f g:SF}(h:f.run tm H=f.run tm' H)(hg:g.run tm H=g.run tm' H):(ifE b f g).run tm H=(ifE b f g).run tm' H:=by
 cases b with
 |false=>exact hg
 |true=>exact h
theorem mk_congr{f:PT AV->Hp->ab}(h:f tm H=f tm' H):(SF.mk f).run tm H=(SF.mk f).run tm' H:=h
theorem xq{o:Oper}{c:Call}{b:Builtin}(ho:o.op=.call c)(h:∀x∈c.args.toList,ev tm x=ev tm' x)(hp:aq P tm H o=aq P tm' H o):
  (jd P o b c.args.toList c.argTypes.toList).run tm H=(jd P o b c.args.toList c.argTypes.toList).run tm' H:=by
 unfold jd;split
 ·rename_i s x t t2 h1 h2
  have hs:=h s (by rw[h1];simp);have hx:=h x (by rw[h1];simp);exact nH (mk_congr (by rw[hs,hx])) rfl
 ·rename_i s x t t2 h1 h2
  have hs:=h s (by rw[h1];simp);have hx:=h x (by rw[h1];simp);exact nH (mk_congr (by rw[hs,hx])) rfl
 ·rename_i x t h1 h2
  have hx:(opF x).ev tm=(opF x).ev tm':=h x (by rw[h1];simp);exact bD λk _=>mk_congr (by rw[hx])
 ·exact mk_congr hp
 ·exact mk_congr hp
 rfl
theorem IY(o:Oper)(h:∀x∈o.op.operands.toList,ev tm x=ev tm' x):(aI P o).run tm H=(aI P o).run tm' H:=by
 have hp:(∀cs b,o.op≠.select cs b)->aq P tm H o=aq P tm' H o:=λhs=>Eo hs h;obtain⟨dst,op,type,pos,after,guard⟩:=o
 cases op with
 |move x=>
  have hx:(opF x).ev tm=(opF x).ev tm':=h x (by simp[Op.operands]);cases x with
  |tmp t=>exact congrArg (λv=>ab.val v H) hx
  |_=>rfl
 |assign x=>
  have hx:(opF x).ev tm=(opF x).ev tm':=h x (by simp[Op.operands]);cases x with
  |tmp t=>exact congrArg (λv=>ab.val v H) hx
  |_=>rfl
 |pick c x y=>
  have hc:(opF c).ev tm=(opF c).ev tm':=h c (by simp[Op.operands]);have hx:(opF x).ev tm=(opF x).ev tm':=h x (by simp[Op.operands]);have hy:(opF y).ev tm=(opF y).ev tm':=h y (by simp[Op.operands]);exact mk_congr (f:=λtm h=>dO ((opF c).ev tm) (.bad "pick") λb=>.val (ifE b ((opF x).ev tm) ((opF y).ev tm)) h) (by simp only[hc,hx,hy])
 |alloc e=>exact bD λ_ _=>rfl
 |box e x=>
  have hx:(opF x).ev tm=(opF x).ev tm':=h x (by simp[Op.operands]);exact mk_congr (f:=λtm h=>aA ((opF x).ev tm).bz "box - a tuple" (jx h ((opF x).ev tm).cells e)) (by simp only[hx])
 |build t parts=>
  refine bD λz _=>bD λpl _=>bD λps B8=>mk_congr (f:=λtm h=>ue h (ofValue z).cells tm ps) ?_;unfold ue;rw[lW B8 (tm:=tm) (tm':=tm') λx hx=>h x (by simpa [Op.operands]using hx)]
 |buildSlice t len parts=>
  refine bD λes _=>bD λz _=>nH (bD λps B8=>mk_congr (f:=λtm h=>ic h (jA (ofValue z).cells len) tm es.1 es.2 len ps) ?_) rfl;unfold ic;rw[lW B8 (tm:=tm) (tm':=tm') λx hx=>h x (by simpa [Op.operands]using hx)]
 |load t x=>
  have hx:(opF x).ev tm=(opF x).ev tm':=h x (by simp[Op.operands]);exact bD λp _=>mk_congr (by rw[hx])
 |store t x y=>
  have hx:(opF x).ev tm=(opF x).ev tm':=h x (by simp[Op.operands]);have hy:(opF y).ev tm=(opF y).ev tm':=h y (by simp[Op.operands]);exact bD λp _=>mk_congr (by rw[hx,hy])
 |nilCheck x=>
  have hx:(opF x).ev tm=(opF x).ev tm':=h x (by simp[Op.operands]);exact mk_congr (f:=λtm h=>ga h ((opF x).ev tm)) (by rw[hx])
 |binOp op t x y c=>
  have hx:(opF x).ev tm=(opF x).ev tm':=h x (by simp[Op.operands]);have hy:(opF y).ev tm=(opF y).ev tm':=h y (by simp[Op.operands]);exact mk_congr (f:=λtm h=>bp h (aR P t) op (dX op) ((opF x).ev tm) ((opF y).ev tm) (aq P tm h _)) (by rw[hx,hy,hp (by intro cs b hh;cases hh)])
 |unOp op t x=>
  have hx:(opF x).ev tm=(opF x).ev tm':=h x (by simp[Op.operands]);exact mk_congr (f:=λtm h=>JE h op ((opF x).ev tm) (aq P tm h _)) (by rw[hx,hp (by intro cs b hh;cases hh)])
 |convert s d x=>exact hp (by intro cs b hh;cases hh)
 |fieldAddr s x f=>
  have hx:(opF x).ev tm=(opF x).ev tm':=h x (by simp[Op.operands]);exact bD λp _=>mk_congr (by rw[hx])
 |field t x f=>
  have hx:(opF x).ev tm=(opF x).ev tm':=h x (by simp[Op.operands]);exact bD λp _=>bD λq _=>mk_congr (by rw[hx])
 |indexAddr t x i=>
  have hx:(opF x).ev tm=(opF x).ev tm':=h x (by simp[Op.operands]);have hi:(opF i).ev tm=(opF i).ev tm':=h i (by simp[Op.operands]);exact bD λp _=>mk_congr (by rw[hx,hi])
 |index t x i=>
  have hx:ev tm x=ev tm' x:=h x (by simp[Op.operands]);have hi:ev tm i=ev tm' i:=h i (by simp[Op.operands]);exact mk_congr (f:=λtm h=>ir h (lO P t) (ev tm x) (ev tm i) (aq P tm h _)) (by rw[hx,hi,hp (by intro cs b hh;cases hh)])
 |slice t x lo hi mx=>
  cases mx with
  |some _=>rfl
  |none=>
   have hx:(opF x).ev tm=(opF x).ev tm':=h x (by simp[Op.operands]);have C6:lo.map (ev tm)=lo.map (ev tm'):=by cases lo with
    |none=>rfl
    |some y=>exact congrArg some (h y (by simp[Op.operands]))
   have I9:hi.map (ev tm)=hi.map (ev tm'):=by cases hi with
    |none=>rfl
    |some y=>exact congrArg some (h y (by simp[Op.operands]))
   have I7:=hp (by intro cs b hh;cases hh);cases he:bt P t with
   |none=>
    have:aI P ⟨dst,.slice t x lo hi none,type,pos,after,guard⟩=.mk λtm h=>aq P tm h ⟨dst,.slice t x lo hi none,type,pos,after,guard⟩:=by
     simp[aI,he]
    rw[this];exact I7
   |some p=>
    have:aI P ⟨dst,.slice t x lo hi none,type,pos,after,guard⟩=.mk λtm h=>cR h p.2 ((opF x).ev tm) (lo.map (ev tm)) (hi.map (ev tm)) (aq P tm h ⟨dst,.slice t x lo hi none,type,pos,after,guard⟩):=by
     simp[aI,he]
    rw[this];exact mk_congr (f:=λtm h=>cR h p.2 ((opF x).ev tm) (lo.map (ev tm)) (hi.map (ev tm)) (aq P tm h _)) (by rw[hx,C6,I9,I7])
 |extract x i=>
  have hx:ev tm x=ev tm' x:=h x (by simp[Op.operands]);exact mk_congr (f:=λtm h=>bV h (ev tm x) i) (by rw[hx])
 |makeFunc fn first caps=>
  cases fn with
  |func f=>exact nH (mk_congr (by rw[rN (tm:=tm) (tm':=tm') λx hx=>h x (by simp only[Op.operands,Array.toList_append];exact List.mem_append_right _ hx)])) rfl
  |_=>rfl
 |makeMap t r=>
  cases r with
  |some _=>rfl
  |none=>rfl
 |makeSlice t l c=>
  have hl:ev tm l=ev tm' l:=h l (by simp[Op.operands]);have hc:ev tm c=ev tm' c:=h c (by simp[Op.operands]);exact mk_congr (f:=λtm h=>cL P h t (ev tm l) (ev tm c)) (by rw[hl,hc])
 |lookup t x k ok=>
  have hx:ev tm x=ev tm' x:=h x (by simp[Op.operands]);have hk:ev tm k=ev tm' k:=h k (by simp[Op.operands]);exact bD λp _=>bD λz _=>mk_congr (by rw[hx,hk])
 |mapUpdate t x k y=>
  have hx:ev tm x=ev tm' x:=h x (by simp[Op.operands]);have hk:ev tm k=ev tm' k:=h k (by simp[Op.operands]);have hy:ev tm y=ev tm' y:=h y (by simp[Op.operands]);exact bD λp _=>mk_congr (by rw[hx,hk,hy])
 |insert t x k y=>
  have hx:ev tm x=ev tm' x:=h x (by simp[Op.operands]);have hk:ev tm k=ev tm' k:=h k (by simp[Op.operands]);have hy:ev tm y=ev tm' y:=h y (by simp[Op.operands]);exact bD λp _=>mk_congr (by rw[hx,hk,hy])
 |range t x=>
  have hx:ev tm x=ev tm' x:=h x (by simp[Op.operands]);exact bD λp _=>mk_congr (by rw[hx])
 |next x b=>
  have hx:ev tm x=ev tm' x:=h x (by simp[Op.operands]);cases b with
  |true=>rfl
  |false=>exact mk_congr (f:=λtm h=>ei h (ev tm x)) (by rw[hx])
 |entry x=>
  have hx:ev tm x=ev tm' x:=h x (by simp[Op.operands]);exact mk_congr (f:=λtm h=>gF h (ev tm x)) (by rw[hx])
 |call c=>
  have z0:∀x∈c.args.toList,ev tm x=ev tm' x:=λx hx=>h x (by
   have U3:x∈c.args:=by simpa using hx
   simp[Op.operands,Call.operands,U3])
  show(sR P _ c).run tm H=(sR P _ c).run tm' H
  unfold sR;split
  ·rename_i f hf
   have hff:(opF f).ev tm=(opF f).ev tm':=h f (by simp[Op.operands,Call.operands,hf]);exact mk_congr (f:=λtm _=>mr P ((opF f).ev tm) (evs c.args.toList tm)) (by rw[hff,rN z0])
  ·exact xq rfl z0 (hp (by intro cs b hh;cases hh))
  rfl
 |_=>rfl
end
structure Place where
 b:Nat
 o:Nat
 n:Nat
 hi:Nat
abbrev Pl:=Nat->Nat->Option Place
def CRO(β:Pl):AO->Value->Prop
 |.p v,x=>x=v∧v.oneCell'=true
 |.str s,x=>x=.string ⟨s.toArray⟩
 |.nilP,x=>x=.pointer none
 |.nilS,x=>x=.slice none 0 0
 |.nilM,x=>x=.map none
 |.oJ,x=>x=.nilFunc
 |.ptr id g off lim,x=>∃p,β id g=some p∧off+lim≤p.hi∧x=.pointer (some ⟨p.b,p.o+off,none⟩)
 |.sl id g off len sz,x=>∃p cap o',β id g=some p∧off+len*sz≤p.hi∧len≤cap∧x=.slice (some o') len cap∧(cap=0∨(o'=⟨p.b,p.o+off,none⟩∧p.o+off+cap*sz≤p.n))
 |.mp id,x=>∃p,β id 0=some p∧x=.map (some p.b)
 |.clo f caps,x=>∃cs:List Value,x=.func (.func f) #[] cs.toArray∧cs.length=caps.length ∧
   ∀(k:Nat)(c:Nat×Nat×Nat×Nat)(v:Value),caps[k]?=some c->cs[k]?=some v->∃p,β c.1 c.2.1=some p∧c.2.2.1+c.2.2.2≤p.hi∧v=.pointer (some ⟨p.b,p.o+c.2.2.1,none⟩)
 |.yl id,x=>∃p,β id 0=some p∧x=.func (.yield p.b) #[] #[]
 |.it id,x=>∃p,β id 0=some p∧x=.pointer (some ⟨p.b,0,none⟩)
def CR(β:Pl):AC->Value->Prop
 |.b x,v=>v=.bool x
 |.i k n,v=>v=.int k n
 |.o x,v=>CRO β x v
def CRs(β:Pl):List AC->List Value->Prop
 |[],[]=>True
 |c::l,v::vs=>CR β c v∧CRs β l vs
 |_,_=>False
def TR(β:Pl):Bool×List AC->Value->Prop
 |(true,l),v=>∃vs,CRs β l vs∧v=.agg vs.toArray
 |(false,[c]),v=>CR β c v
 |_,_=>False
def TRs(β:Pl):List (Bool×List AC)->List Value->Prop
 |[],[]=>True
 |c::l,v::vs=>TR β c v∧TRs β l vs
 |_,_=>False
def AR(β:Pl):AV->Value->Prop
 |.one c,v=>CR β c v
 |.agg l,v=>∃vs,CRs β l vs∧v=.agg vs.toArray
 |.tup l,v=>∃vs,TRs β l vs∧v=.tuple vs.toArray
 |.any,_=>True
def ARs(β:Pl):List AV->List Value->Prop
 |[],[]=>True
 |c::l,v::vs=>AR β c v∧ARs β l vs
 |_,_=>False
def ERs(β:Pl):List bu->List MapEntry->Prop
 |[],[]=>True
 |e::l,m::ms=>(AR β e.key m.key∧e.key.bz=true∧AR β e.val m.val∧e.val.bz=true∧m.born=e.born)∧ERs β l ms
 |_,_=>False
def TmR(β:Pl)(tm:PT AV)(nt:Nat)(tmps:Array Value):Prop:=
 tmps.size=nt∧nt≤1048576∧∀t,AR β (aw (tm.get t) aD λv=>v) (tmps.getD t undef)
def dd:aJ->Nat->Prop
 |.arr _ _ lo gen,g=>lo≤g∧g≤gen
 |.oth _,g=>g=0
 |.ro _,g=>g=0
def aJ.jJ:aJ->Bool
 |.ro _=>true
 |_=>false
def Vw(o:aJ)(g:Nat):Prop:=dd o g∧o.jJ=false
def fV(β:Pl)(w:World)(cells:List AC)(e:TypeId)(p:Place):Prop:=
 ∃c:Array Value,w.heap[p.b]?=some (.cells c e (0,0))∧c.size=p.n∧p.o+p.hi≤p.n∧p.hi≤cells.length ∧
  ∀k x,k<p.hi->cells[k]?=some x->∃v,c[p.o+k]?=some v∧CR β x v
def oX(β:Pl)(w:World)(cells:List AC)(p:Place):Prop:=
 ∃(c:Array Value)(e:TypeId)(f:Nat×Nat),w.heap[p.b]?=some (.cells c e f)∧c.size=p.n∧p.o+p.hi≤p.n∧p.hi≤cells.length ∧
  ∀k x,k<p.hi->cells[k]?=some x->∃v,c[p.o+k]?=some v∧CR β x v
def fV.d{β:Pl}{w:World}{cells:List AC}{e:TypeId}{p:Place}(h:fV β w cells e p):oX β w cells p:=
 let ⟨c,h1,r⟩:=h;⟨c,e,(0,0),h1,r⟩
def uV(β:Pl)(w:World)(p:Place):xm->Prop
 |.map es clock=>∃ms:List MapEntry,w.heap[p.b]?=some (.map ms.toArray clock)∧ERs β es ms
 |.iter m since seen stepped=>
  match m with
  |none=>w.heap[p.b]?=some (.mapIter none since seen.toArray stepped)
  |some i=>∃q,β i 0=some q∧w.heap[p.b]?=some (.mapIter (some q.b) since seen.toArray stepped)
 |.loop st pe tm nt ps as bo d=>∃q fn tmps,β d 0=some q∧TmR β tm nt tmps ∧
   w.heap[p.b]?=some (.loop { state:=st,pending:=pe,fn:=fn,tmps:=tmps,params:=ps.toArray,assign:=as,body:=bo,defers:=q.b })
 |.dfr b=>w.heap[p.b]?=some (.deferred (if b=true then some []else none))
 |.fmap l=>∃es clock,∃ms:List MapEntry,w.heap[p.b]?=some (.map ms.toArray clock)∧ERs β es ms∧∃k,lH es=some k∧∀n,de n k=de n l
 |.lost=>∃o,w.heap[p.b]?=some o
def fk(β:Pl)(w:World)(id:Nat):aJ->Prop
 |.arr cells e lo gen=>lo≤gen ∧
   (∀g,lo≤g->g≤gen->∃p,β id g=some p∧fV β w cells e p∧(g=gen->p.hi=cells.length)) ∧
   (∀g g' p p',lo≤g->g≤g'->g'≤gen->β id g=some p->β id g'=some p'->p.hi≤p'.hi∧(p.b=p'.b->p.o=p'.o)) ∧
   (∀g,gen<g->β id g=none)
 |.oth x=>∃p,β id 0=some p∧uV β w p x
 |.ro cells=>∃p,β id 0=some p∧oX β w cells p
structure Rel(m:Nat)(β:Pl)(H:Hp)(w:World):Prop where
 obj:∀id o,H.get id=some o->fk β w id o
 sep:∀id id' o o' g g' p p',H.get id=some o->H.get id'=some o'->dd o g->dd o' g'->β id g=some p->β id' g'=some p'->p.b=p'.b->id=id'∨(o.jJ=true∧o'.jJ=true)
 wf:∀id,H.nx≤id->H.get id=none
 free:∀id g,H.nx≤id->id<m->β id g=none
structure Ext(β:Pl)(H:Hp)(w:World)(β':Pl)(H':Hp)(w':World):Prop where
 sub:∀id g p,β id g=some p->β' id g=some p
 loc:∀id g p,β' id g=some p->β id g=some p∨(H.nx≤id∧id<H'.nx)∨∃o,H.get id=some o
 size:w.heap.size≤w'.heap.size
 os:w'.os=w.os
 tape:w'.tape=w.tape
 output:w'.output=w.output
 frame:∀b,b<w.heap.size->(∀id o g p,H.get id=some o->Vw o g->β id g=some p->p.b≠b)->w'.heap[b]?=w.heap[b]?
 prov:∀id o' g p,H'.get id=some o'->dd o' g->β' id g=some p->w.heap.size≤p.b∨∃o g0 p0,H.get id=some o∧dd o g0∧β id g0=some p0∧p0.b=p.b∧o.jJ=o'.jJ
 nx:H.nx≤H'.nx
 log:∃l,H'.log=l++H.log∧∀id,id<H.nx->id∉l->H'.get id=H.get id
 dom:∀id o,H.get id=some o->∃o',H'.get id=some o'
 old:∀id o',H'.get id=some o'->(∃o,H.get id=some o)∨(H.nx≤id∧id<H'.nx)
 far:∀l,H'.log=l++H.log->∀b,b<w.heap.size->(∀id o g p,id∈l->H.get id=some o->Vw o g->β id g=some p->p.b≠b)->w'.heap[b]?=w.heap[b]?
abbrev Sub(β β':Pl):Prop:=∀id g p,β id g=some p->β' id g=some p
section mono
variable{β β':Pl}(hs:Sub β β')
include hs
theorem CRO.mono{x:AO}{v:Value}(h:CRO β x v):CRO β' x v:=by
 cases x with
 |p v=>exact h
 |str s=>exact h
 |nilP=>exact h
 |nilS=>exact h
 |nilM=>exact h
 |oJ=>exact h
 |ptr id g off lim=>obtain⟨p,hp,r⟩:=h;exact⟨p,hs _ _ _ hp,r⟩
 |sl id g off len sz=>obtain⟨p,cap,o',hp,r⟩:=h;exact⟨p,cap,o',hs _ _ _ hp,r⟩
 |mp id=>obtain⟨p,hp,r⟩:=h;exact⟨p,hs _ _ _ hp,r⟩
 |clo f caps=>
  obtain⟨cs,h1,h2,h3⟩:=h
  refine⟨cs,h1,h2,λk c v hc hv=>?_⟩
  obtain⟨p,hp,r⟩:=h3 k c v hc hv
  exact⟨p,hs _ _ _ hp,r⟩
 |yl id=>obtain⟨p,hp,r⟩:=h;exact⟨p,hs _ _ _ hp,r⟩
 |it id=>obtain⟨p,hp,r⟩:=h;exact⟨p,hs _ _ _ hp,r⟩
theorem CR.mono{x:AC}{v:Value}(h:CR β x v):CR β' x v:=by
 cases x with
 |b x=>exact h
 |i k n=>exact h
 |o x=>exact CRO.mono hs h
theorem CRs.mono:∀{l:List AC}{vs:List Value},CRs β l vs->CRs β' l vs
 |[],[],_=>trivial
 |_::_,_::_,h=>⟨CR.mono hs h.1,CRs.mono h.2⟩
 |[],_::_,h=>h.elim
 |_::_,[],h=>h.elim
theorem TR.mono{x:Bool×List AC}{v:Value}(h:TR β x v):TR β' x v:=by
 obtain⟨b,l⟩:=x
 cases b with
 |true=>obtain⟨vs,h1,h2⟩:=h;exact⟨vs,CRs.mono hs h1,h2⟩
 |false=>
  match l,h with
  |[c],h=>exact CR.mono hs h
theorem TRs.mono:∀{l:List (Bool×List AC)}{vs:List Value},TRs β l vs->TRs β' l vs
 |[],[],_=>trivial
 |_::_,_::_,h=>⟨TR.mono hs h.1,TRs.mono h.2⟩
 |[],_::_,h=>h.elim
 |_::_,[],h=>h.elim
theorem AR.mono{x:AV}{v:Value}(h:AR β x v):AR β' x v:=by
 cases x with
 |one c=>exact CR.mono hs h
 |agg l=>obtain⟨vs,h1,h2⟩:=h;exact⟨vs,CRs.mono hs h1,h2⟩
 |tup l=>obtain⟨vs,h1,h2⟩:=h;exact⟨vs,TRs.mono hs h1,h2⟩
 |any=>trivial
theorem ARs.mono:∀{l:List AV}{vs:List Value},ARs β l vs->ARs β' l vs
 |[],[],_=>trivial
 |_::_,_::_,h=>⟨AR.mono hs h.1,ARs.mono h.2⟩
 |[],_::_,h=>h.elim
 |_::_,[],h=>h.elim
theorem ERs.mono:∀{l:List bu}{ms:List MapEntry},ERs β l ms->ERs β' l ms
 |[],[],_=>trivial
 |_::_,_::_,h=>⟨⟨AR.mono hs h.1.1,h.1.2.1,AR.mono hs h.1.2.2.1,h.1.2.2.2⟩,ERs.mono h.2⟩
 |[],_::_,h=>h.elim
 |_::_,[],h=>h.elim
theorem TmR.mono{tm:PT AV}{nt:Nat}{tmps:Array Value}(h:TmR β tm nt tmps):TmR β' tm nt tmps:=⟨h.1,h.2.1,λt=>AR.mono hs (h.2.2 t)⟩
theorem fV.mono{w w':World}{cells:List AC}{e:TypeId}{p:Place}(h:fV β w cells e p)(hw:w'.heap[p.b]?=w.heap[p.b]?):fV β' w' cells e p:=by
 obtain⟨c,h1,h2,h3,h4,h5⟩:=h
 refine⟨c,hw.trans h1,h2,h3,h4,λk x hk hx=>?_⟩
 obtain⟨v,hv,hr⟩:=h5 k x hk hx
 exact⟨v,hv,CR.mono hs hr⟩
theorem uV.mono{w w':World}{p:Place}{x:xm}(h:uV β w p x)(hw:w'.heap[p.b]?=w.heap[p.b]?):uV β' w' p x:=by
 cases x with
 |map es clock=>obtain⟨ms,h1,h2⟩:=h;exact⟨ms,hw.trans h1,ERs.mono hs h2⟩
 |iter m since seen stepped=>
  cases m with
  |none=>exact hw.trans h
  |some i=>obtain⟨q,h1,h2⟩:=h;exact⟨q,hs _ _ _ h1,hw.trans h2⟩
 |loop st pe tm nt ps as bo d=>
  obtain⟨q,fn,tmps,h1,h2,h3⟩:=h
  exact⟨q,fn,tmps,hs _ _ _ h1,TmR.mono hs h2,hw.trans h3⟩
 |dfr b=>exact hw.trans h
 |fmap l=>obtain⟨es,clock,ms,h1,h2,h3⟩:=h;exact⟨es,clock,ms,hw.trans h1,ERs.mono hs h2,h3⟩
 |lost=>obtain⟨o,h1⟩:=h;exact⟨o,hw.trans h1⟩
theorem fk.mono{w w':World}{id:Nat}{o:aJ}(h:fk β w id o)(hn:∀g,β' id g=β id g)(hw:∀g p,dd o g->β id g=some p->w'.heap[p.b]?=w.heap[p.b]?):fk β' w' id o:=by
 cases o with
 |arr cells e lo gen=>
  obtain⟨h0,h1,h2,h3⟩:=h
  refine⟨h0,λg hl hg=>?_,λg g' p p' a b c d e=>?_,λg hg=>by rw[hn];exact h3 g hg⟩
  ·obtain⟨p,hp,hr,hh⟩:=h1 g hl hg
   exact⟨p,hs _ _ _ hp,fV.mono hs hr (hw g p ⟨hl,hg⟩ hp),hh⟩
  rw[hn]at d e;exact h2 g g' p p' a b c d e
 |oth x=>
  obtain⟨p,hp,hx⟩:=h
  exact⟨p,hs _ _ _ hp,uV.mono hs hx (hw 0 p rfl hp)⟩
 |ro cells=>
  obtain⟨p,hp,c,e,f,h1,h2,h3,h4,h5⟩:=h
  refine⟨p,hs _ _ _ hp,c,e,f,(hw 0 p rfl hp).trans h1,h2,h3,h4,λk x hk hx=>?_⟩
  obtain⟨v,hv,hr⟩:=h5 k x hk hx
  exact⟨v,hv,CR.mono hs hr⟩
end mono
def ERs.get{β:Pl}:∀{l:List bu}{ms:List MapEntry},ERs β l ms->l.length=ms.length
 |[],[],_=>rfl
 |_::_,_::_,h=>by simp[ERs.get h.2]
 |[],_::_,h=>h.elim
 |_::_,[],h=>h.elim
def CRs.length{β:Pl}:∀{l:List AC}{vs:List Value},CRs β l vs->vs.length=l.length
 |[],[],_=>rfl
 |_::_,_::_,h=>by simp[CRs.length h.2]
 |[],_::_,h=>h.elim
 |_::_,[],h=>h.elim
def ARs.length{β:Pl}:∀{l:List AV}{vs:List Value},ARs β l vs->vs.length=l.length
 |[],[],_=>rfl
 |_::_,_::_,h=>by simp[ARs.length h.2]
 |[],_::_,h=>h.elim
 |_::_,[],h=>h.elim
def CRs.get{β:Pl}:∀{l:List AC}{vs:List Value},CRs β l vs->∀(k:Nat)(c:AC)(v:Value),l[k]?=some c->vs[k]?=some v->CR β c v
 |[],[],_,k,c,v,h,_=>by simp at h
 |_::_,_::_,h,0,c,v,hc,hv=>by simp at hc hv;subst hc hv;exact h.1
 |_::_,_::_,h,k+1,c,v,hc,hv=>CRs.get h.2 k c v (by simpa using hc) (by simpa using hv)
 |[],_::_,h,_,_,_,_,_=>h.elim
 |_::_,[],h,_,_,_,_,_=>h.elim
def CRs.dG{β:Pl}:∀{l:List AC}{vs:List Value},vs.length=l.length->(∀(k:Nat)(c:AC)(v:Value),l[k]?=some c->vs[k]?=some v->CR β c v)->CRs β l vs
 |[],[],_,_=>trivial
 |c::l,v::vs,hl,h=>⟨h 0 c v rfl rfl,CRs.dG (by simpa using hl) λk c' v' hc hv=>h (k+1) c' v' (by simpa using hc) (by simpa using hv)⟩
 |[],_::_,hl,_=>by simp at hl
 |_::_,[],hl,_=>by simp at hl
def CRs.append{β:Pl}{l l':List AC}{vs vs':List Value}(h:CRs β l vs)(h':CRs β l' vs'):CRs β (l++l') (vs++vs'):=by
 induction l generalizing vs with
 |nil=>cases vs with|nil=>exact h'|cons=>exact h.elim
 |cons c l ih=>cases vs with|nil=>exact h.elim|cons v vs=>exact⟨h.1,ih h.2⟩
def ARs.append{β:Pl}{l l':List AV}{vs vs':List Value}(h:ARs β l vs)(h':ARs β l' vs'):ARs β (l++l') (vs++vs'):=by
 induction l generalizing vs with
 |nil=>cases vs with|nil=>exact h'|cons=>exact h.elim
 |cons c l ih=>cases vs with|nil=>exact h.elim|cons v vs=>exact⟨h.1,ih h.2⟩
def CRs.take{β:Pl}{l:List AC}{vs:List Value}(h:CRs β l vs)(n:Nat):CRs β (l.take n) (vs.take n):=
 CRs.dG (by simp[h.length]) λk c v hc hv=>by
  rw[List.getElem?_take]at hc hv;split at hc
  ·rename_i hk;rw[zB0 hk]at hv;exact h.get k c v hc hv
  cases hc
def CRs.drop{β:Pl}{l:List AC}{vs:List Value}(h:CRs β l vs)(n:Nat):CRs β (l.drop n) (vs.drop n):=
 CRs.dG (by simp[h.length]) λk c v hc hv=>by
  rw[List.getElem?_drop]at hc hv;exact h.get _ c v hc hv
def CR.gG{β:Pl}{c:AC}{v:Value}(h:CR β c v):v.oneCell'=true:=by
 cases c with
 |b x=>cases h;rfl
 |i k n=>cases h;rfl
 |o x=>
  cases x with
  |p u=>obtain⟨h1,h2⟩:=h;subst h1;exact h2
  |str s=>cases h;rfl
  |nilP=>cases h;rfl
  |nilS=>cases h;rfl
  |nilM=>cases h;rfl
  |oJ=>cases h;rfl
  |ptr id g off lim=>obtain⟨p,_,_,rfl⟩:=h;rfl
  |sl id g off len sz=>obtain⟨p,cap,o',_,_,_,rfl,_⟩:=h;rfl
  |mp id=>obtain⟨p,_,rfl⟩:=h;rfl
  |clo f caps=>obtain⟨cs,rfl,_⟩:=h;rfl
  |yl id=>obtain⟨p,_,rfl⟩:=h;rfl
  |it id=>obtain⟨p,_,rfl⟩:=h;rfl
def CRs.gG{β:Pl}:∀{l:List AC}{vs:List Value},CRs β l vs->∀v∈vs,v.oneCell'=true
 |[],[],_,v,hv=>by cases hv
 |_::_,_::_,h,v,hv=>by
  rcases List.mem_cons.1 hv with rfl|hv
  ·exact h.1.gG
  exact CRs.gG h.2 v hv
 |[],_::_,h,_,_=>h.elim
 |_::_,[],h,_,_=>h.elim
def AR.cells{β:Pl}{x:AV}{v:Value}(h:AR β x v)(hn:x.bz=true):CRs β x.cells v.cells.toList:=by
 cases x with
 |one c=>
  have h1:=CR.gG h;have:v.cells=#[v]:=by cases v<;>first|rfl|(simp[Value.oneCell']at h1)
  rw[this];exact⟨h,trivial⟩
 |agg l=>obtain⟨vs,h1,rfl⟩:=h;exact h1
 |tup l=>cases hn
 |any=>cases hn
def Ext.refl(β:Pl)(H:Hp)(w:World):Ext β H w β H w:=
 ⟨λ_ _ _ h=>h,λ_ _ _ h=>.inl h,zA1 _,rfl,rfl,rfl,λ_ _ _=>rfl,λid o g p h1 h2 h3=>.inr ⟨o,g,p,h1,h2,h3,rfl,rfl⟩,zA1 _,⟨[],rfl,λ_ _ _=>rfl⟩,λ_ o h=>⟨o,h⟩,λ_ o h=>.inl ⟨o,h⟩,λ_ _ _ _ _=>rfl⟩
def Ext.trans{β β1 β2:Pl}{H H1 H2:Hp}{w w1 w2:World}(h:Ext β H w β1 H1 w1)(k:Ext β1 H1 w1 β2 H2 w2):Ext β H w β2 H2 w2 where
 sub:=λid g p hp=>k.sub _ _ _ (h.sub _ _ _ hp)
 loc:=λid g p hp=>by
  rcases k.loc id g p hp with hp|hp|⟨o,ho⟩
  ·rcases h.loc id g p hp with hp|hp|hp
   ·exact .inl hp
   ·exact .inr (.inl ⟨hp.1,zA0 hp.2 k.nx⟩)
   exact .inr (.inr hp)
  ·exact .inr (.inl ⟨zA2 h.nx hp.1,hp.2⟩)
  rcases h.old id o ho with hq|hq
  ·exact .inr (.inr hq)
  exact .inr (.inl ⟨hq.1,zA0 hq.2 k.nx⟩)
 size:=zA2 h.size k.size
 os:=k.os.trans h.os
 tape:=k.tape.trans h.tape
 output:=k.output.trans h.output
 frame:=λb hb hn=>by
  rw[k.frame b (zA0 hb h.size) ?_,h.frame b hb hn];intro id o g p ho hg hp hpb;rcases h.prov id o g p ho hg.1 hp with hq|⟨o0,g0,p0,a1,a2,a3,a4,a5⟩
  ·omega
  exact hn id o0 g0 p0 a1 ⟨a2,a5.trans hg.2⟩ a3 (a4.trans hpb)
 prov:=λid o' g p ho hg hp=>by
  rcases k.prov id o' g p ho hg hp with hq|⟨o0,g0,p0,a1,a2,a3,a4,a5⟩
  ·exact .inl (zA2 h.size hq)
  rcases h.prov id o0 g0 p0 a1 a2 a3 with hq|⟨o1,g1,p1,b1,b2,b3,b4,b5⟩
  ·exact .inl (by omega)
  exact .inr ⟨o1,g1,p1,b1,b2,b3,b4.trans a4,b5.trans a5⟩
 nx:=zA2 h.nx k.nx
 log:=by
  obtain⟨l,hl,hg⟩:=h.log
  obtain⟨l2,X_,L_⟩:=k.log
  refine⟨l2++l,by rw[X_,hl,List.append_assoc],λid hid hm=>?_⟩
  rw[L_ id (zA0 hid h.nx) (λhx=>hm (List.mem_append_left _ hx)),hg id hid (λhx=>hm (List.mem_append_right _ hx))]
 dom:=λid o ho=>by
  obtain⟨o1,h1⟩:=h.dom id o ho
  exact k.dom id o1 h1
 old:=λid o' ho=>by
  rcases k.old id o' ho with⟨o1,h1⟩|hq
  ·rcases h.old id o1 h1 with hq|hq
   ·exact .inl hq
   exact .inr ⟨hq.1,zA0 hq.2 k.nx⟩
  exact .inr ⟨zA2 h.nx hq.1,hq.2⟩
 far:=λl hl b hb hn=>by
  obtain⟨l1,e1,_⟩:=h.log
  obtain⟨l2,e2,_⟩:=k.log
  have e:l=l2++l1:=by
   rw[e2,e1,<-List.append_assoc]at hl;exact(List.append_cancel_right hl).symm
  subst e;rw[k.far l2 e2 b (zA0 hb h.size) ?_,h.far l1 e1 b hb λid o g p hid=>hn id o g p (List.mem_append_right _ hid)];intro id o g p hid ho hg hp hpb;rcases h.prov id o g p ho hg.1 hp with hq|⟨o0,g0,p0,a1,a2,a3,a4,a5⟩
  ·omega
  exact hn id o0 g0 p0 (List.mem_append_left _ hid) a1 ⟨a2,a5.trans hg.2⟩ a3 (a4.trans hpb)
def cD{α:Type}{a:Array α}{i:Nat}{x:α}(h:a[i]?=some x):i<a.size:=(Array.getElem?_eq_some_iff.1 h).1
def uV.lt{β:Pl}{w:World}{p:Place}{x:xm}(h:uV β w p x):p.b<w.heap.size:=by
 cases x with
 |map es clock=>obtain⟨ms,h1,_⟩:=h;exact cD h1
 |iter m since seen stepped=>
  cases m with
  |none=>exact cD h
  |some i=>obtain⟨q,_,h1⟩:=h;exact cD h1
 |loop st pe tm nt ps as bo d=>obtain⟨q,fn,tmps,_,_,h3⟩:=h;exact cD h3
 |dfr b=>exact cD h
 |fmap l=>obtain⟨_,_,ms,h1,_⟩:=h;exact cD h1
 |lost=>obtain⟨_,h1⟩:=h;exact cD h1
def fk.lt{β:Pl}{w:World}{id:Nat}{o:aJ}(h:fk β w id o){g:Nat}{p:Place}(hg:dd o g)(hp:β id g=some p):p.b<w.heap.size:=by
 cases o with
 |arr cells e lo gen=>
  obtain⟨_,h1,_,_⟩:=h
  obtain⟨q,hq,⟨c,hc,_⟩,_⟩:=h1 g hg.1 hg.2
  rw[hp]at hq;cases hq;exact cD hc
 |oth x=>
  obtain⟨q,hq,hx⟩:=h
  have:g=0:=hg;subst this;rw[hp]at hq;cases hq;exact hx.lt
 |ro cells=>
  obtain⟨q,hq,c,e,f,hc,_⟩:=h
  have:g=0:=hg;subst this;rw[hp]at hq;cases hq;exact cD hc
def Vd(H:Hp)(o:aJ)(h:H.nx<H.nx+1)(i:Nat):(H.new o).get i=if i=H.nx then some o else H.get i:=PT.nU _ _ _ _ h
def Wm(H:Hp)(id:Nat)(o:aJ)(h:id<id+1)(i:Nat):(H.mod id o).get i=if i=id then some o else H.get i:=PT.nU _ _ _ _ h
def plus(β:Pl)(id g:Nat)(p:Place):Pl:=λi k=>if i=id∧k=g then some p else β i k
def aN(β:Pl)(id g:Nat)(p:Place):plus β id g p id g=some p:=by simp[plus]
def bw(β:Pl)(id g:Nat)(p:Place){i k:Nat}(h:¬(i=id∧k=g)):plus β id g p i k=β i k:=by simp[plus,h]
def fQ{β:Pl}{id g:Nat}{p:Place}(h:β id g=none):Sub β (plus β id g p):=by
 intro i k q hq;by_cases e:i=id∧k=g
 ·obtain⟨rfl,rfl⟩:=e;rw[h]at hq;cases hq
 rw[bw _ _ _ _ e];exact hq
section
variable{m:Nat}{β:Pl}{H:Hp}{w:World}(hR:Rel m β H w)
include hR
theorem Rel.QJ{id:Nat}{o:aJ}(ho:H.get id=some o):id<H.nx:=by
 rcases Nat.lt_or_ge id H.nx with h|h
 ·exact h
 rw[hR.wf id h]at ho;cases ho
theorem ik(_hm:m≤m)(V0:H.nx≤m){id:Nat}{o:aJ}(ho:H.get id=some o)(o':aJ){β':Pl}{w':World}(U0:Sub β β')(E4:∀i,i≠id->∀g,β' i g=β i g)
  (L1:w.heap.size≤w'.heap.size) (hos:w'.os=w.os) (Z6:w'.tape=w.tape) (L2:w'.output=w.output)
  (j_:∀b,b<w.heap.size->(∀g p,dd o g->β id g=some p->p.b≠b)->w'.heap[b]?=w.heap[b]?)
  (hobj:fk β' w' id o')
  (hprov:∀g p,dd o' g->β' id g=some p->w.heap.size≤p.b∨∃g0 p0,dd o g0∧β id g0=some p0∧p0.b=p.b) (hro:o.jJ=false:=by rfl) (hro':o'.jJ=false:=by rfl):
  Rel m β' (H.mod id o') w'∧Ext β H w β' (H.mod id o') w':=by
 have hid:=hR.QJ ho;have hid40:id<id+1:=by omega
 have N2:=Wm H id o' hid40;refine⟨⟨?_,?_,?_,?_⟩,?_⟩
 ·intro i x hx;rw[N2]at hx;by_cases e:i=id
  ·subst e;rw[zB0 rfl]at hx;cases hx;exact hobj
  rw[zB1 e]at hx;have hi:=hR.obj i x hx;refine fk.mono U0 hi (E4 i e) λg p hg hp=>?_;exact j_ p.b (hi.lt hg hp) λg0 p0 U6 hp0 hb=>(hR.sep _ _ _ _ _ _ _ _ hx ho hg U6 hp hp0 hb.symm).elim e λhh=>by rw[hro]at hh;cases hh.2
 ·intro i j x y g g' p p' hx hy hg Y1 hp I7 hb;rw[N2]at hx hy;by_cases e:i=id
  ·by_cases f:j=id
   ·exact .inl (by rw[e,f])
   subst e;rw[zB0 rfl]at hx;rw[zB1 f]at hy;cases hx;rw[E4 j f]at I7;have C0:=(hR.obj j y hy).lt Y1 I7;rcases hprov g p hg hp with hq|⟨g0,p0,a1,a2,a3⟩
   ·omega
   exact(hR.sep _ _ _ _ _ _ _ _ ho hy a1 Y1 a2 I7 (a3.trans hb)).imp (λh=>h) λhh=>by rw[hro]at hh;cases hh.1
  by_cases f:j=id
  ·subst f;rw[zB1 e]at hx;rw[zB0 rfl]at hy;cases hy;rw[E4 i e]at hp;have C0:=(hR.obj i x hx).lt hg hp;rcases hprov g' p' Y1 I7 with hq|⟨g0,p0,a1,a2,a3⟩
   ·omega
   exact(hR.sep _ _ _ _ _ _ _ _ hx ho hg a1 hp a2 (hb.trans a3.symm)).imp (λh=>h) λhh=>by rw[hro]at hh;cases hh.2
  rw[zB1 e]at hx;rw[zB1 f]at hy;rw[E4 i e]at hp;rw[E4 j f]at I7;exact hR.sep _ _ _ _ _ _ _ _ hx hy hg Y1 hp I7 hb
 ·intro i hi;have hi':H.nx≤i:=hi;rw[N2,zB1 (by omega)];exact hR.wf i hi'
 ·intro i g hi him;have hi':H.nx≤i:=hi;rw[E4 i (by omega)];exact hR.free i g hi' him
 refine⟨U0,?_,L1,hos,Z6,L2,?_,?_,zA1 _,⟨[id],rfl,?_⟩,?_,?_,?_⟩
 ·intro i g p hp;by_cases e:i=id
  ·subst e;exact .inr (.inr ⟨o,ho⟩)
  rw[E4 i e]at hp;exact .inl hp
 ·exactλb hb hn=>j_ b hb λg p hg hp=>hn id o g p ho ⟨hg,hro⟩ hp
 ·intro i x g p hx hg hp;rw[N2]at hx;by_cases e:i=id
  ·subst e;rw[zB0 rfl]at hx;cases hx;rcases hprov g p hg hp with hq|⟨g0,p0,a1,a2,a3⟩
   ·exact .inl hq
   exact .inr ⟨o,g0,p0,ho,a1,a2,a3,by rw[hro,hro']⟩
  rw[zB1 e]at hx;rw[E4 i e]at hp;exact .inr ⟨x,g,p,hx,hg,hp,rfl,rfl⟩
 ·intro i hi hl;rw[N2,zB1 (by simpa using hl)]
 ·intro i x hx;rw[N2];by_cases e:i=id
  ·rw[zB0 e];exact⟨_,rfl⟩
  rw[zB1 e];exact⟨x,hx⟩
 ·intro i x hx;rw[N2]at hx;by_cases e:i=id
  ·subst e;exact .inl ⟨o,ho⟩
  rw[zB1 e]at hx;exact .inl ⟨x,hx⟩
 intro l hl b hb hn;have e:l=[id]:=by
  have J7:[id]++H.log=l++H.log:=hl;exact(List.append_cancel_right J7).symm
 subst e;exact j_ b hb λg p hg hp=>hn id o g p (List.mem_singleton.2 rfl) ho ⟨hg,hro⟩ hp
theorem ly(_hm:m≤m)(V0:H.nx<m)(o':aJ)(p:Place){w':World}(hb:w.heap.size≤p.b)
  (L1:w.heap.size≤w'.heap.size) (hos:w'.os=w.os) (Z6:w'.tape=w.tape) (L2:w'.output=w.output)
  (j_:∀b,b<w.heap.size->w'.heap[b]?=w.heap[b]?) (hgen:∀g,dd o' g->g=0)
  (hobj:fk (plus β H.nx 0 p) w' H.nx o'):
  Rel m (plus β H.nx 0 p) (H.new o') w'∧Ext β H w (plus β H.nx 0 p) (H.new o') w':=by
 have N2:=Vd H o' (by omega);have hnone:β H.nx 0=none:=hR.free H.nx 0 (zA1 _) V0;have U0:Sub β (plus β H.nx 0 p):=fQ hnone;have E4:∀i,i≠H.nx->∀g,plus β H.nx 0 p i g=β i g:=λi hi g=>bw _ _ _ _ (λh=>hi h.1);have K0:∀g q,dd o' g->plus β H.nx 0 p H.nx g=some q->q=p:=by
  intro g q hg hq;have:=hgen g hg;subst this;rw[aN]at hq;exact(Option.some.inj hq).symm
 refine⟨⟨?_,?_,?_,?_⟩,?_⟩
 ·intro i x hx;rw[N2]at hx;by_cases e:i=H.nx
  ·subst e;rw[zB0 rfl]at hx;cases hx;exact hobj
  rw[zB1 e]at hx;have hi:=hR.obj i x hx;exact fk.mono U0 hi (E4 i e) λg p hg hp=>j_ p.b (hi.lt hg hp)
 ·intro i j x y g g' q q' hx hy hg Y1 hq I8 q7;rw[N2]at hx hy;by_cases e:i=H.nx
  ·by_cases f:j=H.nx
   ·exact .inl (by rw[e,f])
   subst e;rw[zB0 rfl]at hx;rw[zB1 f]at hy;cases hx;rw[E4 j f]at I8;have C0:=(hR.obj j y hy).lt Y1 I8;rw[K0 g q hg hq]at q7;omega
  by_cases f:j=H.nx
  ·subst f;rw[zB1 e]at hx;rw[zB0 rfl]at hy;cases hy;rw[E4 i e]at hq;have C0:=(hR.obj i x hx).lt hg hq;rw[K0 g' q' Y1 I8]at q7;omega
  rw[zB1 e]at hx;rw[zB1 f]at hy;rw[E4 i e]at hq;rw[E4 j f]at I8;exact hR.sep _ _ _ _ _ _ _ _ hx hy hg Y1 hq I8 q7
 ·intro i hi;have hi':H.nx+1≤i:=hi;rw[N2,zB1 (by omega)];exact hR.wf i (by omega)
 ·intro i g hi him;have hi':H.nx+1≤i:=hi;rw[E4 i (by omega)];exact hR.free i g (by omega) him
 refine⟨U0,?_,L1,hos,Z6,L2,λb q7 _=>j_ b q7,?_,Nat.le_succ _,⟨[],rfl,?_⟩,?_,?_,λ_ _ b q7 _=>j_ b q7⟩
 ·intro i g q hq;by_cases e:i=H.nx
  ·subst e;exact .inr (.inl ⟨zA1 _,zA6 _⟩)
  rw[E4 i e]at hq;exact .inl hq
 ·intro i x g q hx hg hq;rw[N2]at hx;by_cases e:i=H.nx
  ·subst e;rw[zB0 rfl]at hx;cases hx;rw[K0 g q hg hq];exact .inl hb
  rw[zB1 e]at hx;rw[E4 i e]at hq;exact .inr ⟨x,g,q,hx,hg,hq,rfl,rfl⟩
 ·intro i hi _;rw[N2,zB1 (by omega)]
 ·intro i x hx;rw[N2,zB1 (by have:=hR.QJ hx;omega)];exact⟨x,hx⟩
 intro i x hx;rw[N2]at hx;by_cases e:i=H.nx
 ·subst e;exact .inr ⟨zA1 _,zA6 _⟩
 rw[zB1 e]at hx;exact .inl ⟨x,hx⟩
end
def Rel.drew{m:Nat}{β:Pl}{H:Hp}{w:World}(hR:Rel m β H w)(n:Nat):Rel m β H { w with drawn:=n }where
 obj:=λid o ho=>fk.mono (λ_ _ _ h=>h) (hR.obj id o ho) (λ_=>rfl) λ_ _ _ _=>rfl
 sep:=hR.sep
 wf:=hR.wf
 free:=hR.free
def tU{m:Nat}{β:Pl}{H:Hp}{w:World}(hR:Rel m β H w)(hm:m≤m)(V0:H.nx<m)(cells:List AC)(vs:Array Value)(e:TypeId)(hc:CRs β cells vs.toList)(w0:World)
  (h0:w0.heap=w.heap) (hos:w0.os=w.os) (Z6:w0.tape=w.tape) (L2:w0.output=w.output) (extra:Array Value):
  Rel m (plus β H.nx 0 ⟨w.heap.size,0,vs.size+extra.size,cells.length⟩) (H.new (.arr cells e 0 0)) { w0 with heap:=w0.heap.push (.cells (vs++extra) e) } ∧
  Ext β H w (plus β H.nx 0 ⟨w.heap.size,0,vs.size+extra.size,cells.length⟩) (H.new (.arr cells e 0 0)) { w0 with heap:=w0.heap.push (.cells (vs++extra) e) }:=by
 have hlen:vs.size=cells.length:=by simpa using hc.length
 refine ly hR hm V0 _ _ (zA1 _) (by rw[h0];simp) hos Z6 L2 ?_ ?_ ?_
 ·intro b hb;show(w0.heap.push _)[b]?=_
  rw[Array.getElem?_push,zB1 (by rw[h0];omega),h0]
 ·intro g hg;have:=hg.2;omega
 refine⟨zA1 _,?_,?_,?_⟩
 ·intro g _ hg;have U6:g=0:=by omega
  subst U6;refine⟨_,aN _ _ _ _,⟨vs++extra,?_,by simp,by simp;omega,zA1 _,?_⟩,λ_=>rfl⟩
  ·show(w0.heap.push _)[w.heap.size]?=_
   rw[<-h0,Array.getElem?_push_size]
  intro k x hk hx;have O3:k<cells.length:=hk;have hkv:k<vs.size:=by omega
  refine⟨vs[k],?_,?_⟩
  ·show(vs++extra)[0+k]?=_
   rw[Nat.zero_add,Array.getElem?_append_left hkv,Array.getElem?_eq_getElem hkv]
  refine CR.mono (fQ (hR.free H.nx 0 (zA1 _) V0)) (hc.get k x vs[k] hx ?_);simp[hkv]
 ·intro g g' p p' _ h1 h2 hp I7;have e1:g=0:=by omega
  have e2:g'=0:=by omega
  subst e1 e2;rw[hp]at I7;cases I7;exact⟨zA1 _,λ_=>rfl⟩
 intro g hg;rw[bw _ _ _ _ (by omega)];exact hR.free H.nx g (zA1 _) V0
def NM(H:Hp):ab->Prop
 |.val _ H'=>H.nx≤H'.nx
 |.om l=>l≠[]∧∀x∈l,H.nx≤x.2.nx
 |_=>True
section
variable{P:Program}{H:Hp}
theorem NM.nd{α:Type}{o:Option α}{s:String}{f:α->ab}(h:∀a,NM H (f a)):NM H (nd o s f):=by cases o with|none=>exact trivial|some a=>exact h a
theorem NM.guard{b:Bool}{s:String}{n:ab}(h:NM H n):NM H (aA b s n):=by cases b with|true=>exact h|false=>exact trivial
theorem NM.ifE{b:Bool}{x y:ab}(hx:NM H x)(hy:NM H y):NM H (ifE b x y):=by cases b with|true=>exact hx|false=>exact hy
theorem NM.aw{α:Type}{o:Option α}{e:ab}{f:α->ab}(he:NM H e)(h:∀a,NM H (f a)):NM H (aw o e f):=by cases o with|none=>exact he|some a=>exact h a
theorem NM.sF{x:AV}{e:ab}{f:Nat->Nat->Nat->Nat->ab}(he:NM H e)(h:∀a b c d,NM H (f a b c d)):NM H (sF x e f):=by
 cases x with
 |one c=>cases c with
  |o q=>cases q<;>first|exact he|exact h _ _ _ _
  |b _=>exact he
  |i _ _=>exact he
 |agg _=>exact he
 |tup _=>exact he
 |any=>exact he
theorem NM.slE{x:AV}{e:ab}{f:Nat->Nat->Nat->Nat->Nat->ab}(he:NM H e)(h:∀a b c d g,NM H (f a b c d g)):NM H (slE x e f):=by
 cases x with
 |one c=>cases c with
  |o q=>cases q<;>first|exact he|exact h _ _ _ _ _
  |b _=>exact he
  |i _ _=>exact he
 |agg _=>exact he
 |tup _=>exact he
 |any=>exact he
theorem NM.dY{x:AV}{e:ab}{f:IntKind->Int->ab}(he:NM H e)(h:∀a b,NM H (f a b)):NM H (dY x e f):=by
 cases x with
 |one c=>cases c with
  |o q=>exact he
  |b _=>exact he
  |i _ _=>exact h _ _
 |agg _=>exact he
 |tup _=>exact he
 |any=>exact he
theorem NM.dO{x:AV}{e:ab}{f:Bool->ab}(he:NM H e)(h:∀a,NM H (f a)):NM H (dO x e f):=by
 cases x with
 |one c=>cases c with
  |o q=>exact he
  |b _=>exact h _
  |i _ _=>exact he
 |agg _=>exact he
 |tup _=>exact he
 |any=>exact he
theorem NM.gZ{x:AV}{e:ab}{f:List UInt8->ab}(he:NM H e)(h:∀a,NM H (f a)):NM H (gZ x e f):=by
 cases x with
 |one c=>cases c with
  |o q=>cases q<;>first|exact he|exact h _
  |b _=>exact he
  |i _ _=>exact he
 |agg _=>exact he
 |tup _=>exact he
 |any=>exact he
theorem NM.nh{o:Option aJ}{e:ab}{f:List AC->TypeId->Nat->Nat->ab}(he:NM H e)(h:∀a b c d,NM H (f a b c d)):NM H (nh o e f):=by
 cases o with
 |none=>exact he
 |some o=>cases o with
  |arr _ _ _ _=>exact h _ _ _ _
  |oth _=>exact he
  |ro _=>exact he
theorem NM.same{v:AV}:NM H (.val v H):=zA1 _
theorem NM.mod{v:AV}{i:Nat}{o:aJ}:NM H (.val v (H.mod i o)):=zA1 _
theorem NM.new{v:AV}{o:aJ}:NM H (.val v (H.new o)):=Nat.le_succ _
theorem NM.bad{s:String}:NM H (.bad s):=trivial
theorem WX{a:Bool}{n:Nat}{v:AV}:NM H (cH H a n v):=
 NM.sF NM.bad λ_ _ _ _=>NM.nd λc=>NM.ifE NM.same (by cases c<;>first|exact NM.bad|exact NM.same)
theorem Rb{n:Nat}{x v:AV}:NM H (im H n x v):=NM.sF NM.bad λ_ _ _ _=>NM.nh NM.bad λ_ _ _ _=>NM.guard NM.mod
theorem yU{c:List AC}{e:TypeId}:NM H (jx H c e):=NM.new
theorem iQ{ok:Bool}{v:AV}{b:Bool}:NM H (aV H ok v b):=by cases ok with|false=>exact NM.same|true=>exact NM.guard NM.same
theorem OC{kt:TypeId}{z k:AV}{ok:Bool}{l:List (Int×AV)}:NM H (lY P H kt z k ok l):=by
 refine NM.guard ?_;cases k with
 |one c=>
  cases c with
  |i kd n=>
   refine NM.guard ?_;show NM H (aw (de n l) _ _);cases de n l with
   |none=>exact iQ
   |some v=>exact iQ
  |b _=>exact NM.bad
  |o _=>exact NM.bad
 |agg _=>exact NM.bad
 |tup _=>exact NM.bad
 |any=>exact NM.bad
theorem OM{kt:TypeId}{z m k:AV}{ok:Bool}:NM H (aX P H kt z m k ok):=by
 unfold aX;split
 ·exact NM.nd λ_=>iQ
 ·split
  ·refine NM.nd λ_=>?_;split
   ·exact iQ
   ·exact iQ
   exact NM.bad
  ·exact OC
  exact NM.bad
 exact NM.bad
theorem pU{kt:TypeId}{m k x:AV}:NM H (aU P H kt m k x):=by
 unfold aU;split
 ·split
  ·exact NM.nd λ_=>NM.guard (NM.nd λ_=>NM.ifE NM.mod NM.mod)
  exact NM.bad
 exact NM.bad
theorem VX{x:AV}:NM H (ei H x):=by
 unfold ei;split
 ·split
  ·exact NM.same
  ·split
   ·refine NM.guard ?_;split
    ·exact NM.same
    refine NM.guard ⟨by simp,λx hx=>?_⟩;obtain⟨e,_,rfl⟩:=List.mem_map.1 hx
    exact zA1 _
   exact NM.bad
  exact NM.bad
 exact NM.bad
theorem Sc{x:AV}:NM H (gF H x):=by
 unfold gF;split
 ·split
  ·split
   ·split
    ·refine NM.guard ?_;split
     ·exact NM.same
     exact NM.bad
    exact NM.bad
   exact NM.bad
  exact NM.bad
 exact NM.bad
theorem OD{t:TypeId}{s x:AV}:NM H (bh P H t s x):=by
 refine NM.nd λes=>NM.nd λby_=>NM.nd λz=>NM.guard (NM.nd λnc=>?_);unfold dp;split
 ·exact NM.ifE NM.same (NM.guard NM.new)
 ·exact NM.nh NM.bad λ_ _ _ _=>NM.guard (NM.ifE NM.same (NM.ifE NM.mod NM.mod))
 exact NM.bad
theorem UX{t:TypeId}{s x:AV}:NM H (Cg P H t s x):=by
 refine NM.nd λes=>?_;split
 ·exact NM.guard (NM.nd λ_=>NM.nh NM.bad λ_ _ _ _=>NM.guard NM.mod)
 ·exact NM.same
 ·exact NM.same
 ·exact NM.same
 exact NM.bad
theorem WR{f:AV}{l:List AV}:NM H (mr P f l):=by
 cases f with
 |one c=>cases c with
  |o q=>cases q<;>first|exact trivial|exact NM.guard trivial
  |b _=>exact trivial
  |i _ _=>exact trivial
 |agg _=>exact trivial
 |tup _=>exact trivial
 |any=>exact trivial
theorem wL{tm:PT AV}{o:Oper}:NM H (aq P tm H o):=by
 unfold aq;refine NM.guard ?_;split
 ·exact NM.guard NM.same
 exact NM.bad
theorem ta(i:Nat):∀l:List (Bool×List AC),NM H (Nat.rec (motive:=λ_=>List (Bool×List AC)->ab)
   (λl=>List.rec (motive:=λ_=>ab) (.bad "extract") (λx _ _=>
    ifE x.1 (.val (.agg x.2) H) (List.rec (motive:=λ_=>ab) (.bad "extract") (λc m _=>List.rec (motive:=λ_=>ab) (.val (.one c) H) (λ_ _ _=>.bad "extract") m) x.2)) l)
   (λ_ ih l=>List.rec (motive:=λ_=>ab) (.bad "extract") (λ_ l' _=>ih l') l) i l):=by
 induction i with
 |zero=>
  intro l;cases l with
  |nil=>exact NM.bad
  |cons x l=>
   refine NM.ifE NM.same ?_;obtain⟨b,c⟩:=x
   cases c with
   |nil=>exact NM.bad
   |cons y c=>cases c<;>first|exact NM.same|exact NM.bad
 |succ i ih=>
  intro l;cases l with
  |nil=>exact NM.bad
  |cons x l=>exact ih l
theorem JI{x:AV}{i:Nat}:NM H (bV H x i):=by
 cases x with
 |tup l=>exact ta i l
 |one _=>exact NM.bad
 |agg _=>exact NM.bad
 |any=>exact ta i []
theorem Ty{x:AV}:NM H (gC H x):=by
 unfold gC;split
 ·exact NM.new
 ·split
  ·exact NM.new
  exact NM.bad
 exact NM.bad
theorem XK{k:Nat}{x:AV}:NM H (cW H k x):=by
 match k with
 |0=>exact NM.gZ NM.bad λ_=>NM.same
 |1=>exact NM.slE (NM.guard NM.same) λ_ _ _ _ _=>NM.same
 |k+2=>
  show NM H (dK H x);unfold dK;split
  ·exact NM.same
  ·split
   ·exact NM.same
   exact NM.bad
  exact NM.bad
theorem XM{kd:Nat}{op:BinOp}{f:BF}{x y:AV}{alt:ab}(ha:NM H alt):NM H (bp H kd op f x y alt):=by
 cases x with
 |one c=>cases c with
  |o q=>
   show NM H (jV H kd op (.one (.o q)) y alt);refine NM.gZ ?_ λ_=>NM.gZ ha λ_=>NM.aw ha λ_=>NM.same;unfold nS;split
   ·split
    ·exact NM.same
    ·exact NM.same
    exact NM.bad
   exact ha
  |b _=>exact ha
  |i k a=>
   show NM H (Eng.dY y alt λk' b=>kD H f k a k' b alt);exact NM.dY ha λ_ _=>NM.ifE (by cases f<;>first|exact NM.same|exact ha) ha
 |agg _=>exact ha
 |tup _=>exact ha
 |any=>exact ha
theorem TL{fo n:Nat}{a:Bool}{x:AV}:NM H (rJ H fo n a x):=by
 cases x with
 |agg l=>exact NM.ifE (NM.guard NM.same) (NM.nd λ_=>NM.same)
 |one _=>exact NM.bad
 |tup _=>exact NM.bad
 |any=>exact NM.bad
theorem Gq{x:AV}:NM H (ga H x):=by
 cases x with
 |one c=>cases c with
  |o q=>cases q<;>first|exact NM.bad|exact NM.same
  |b _=>exact NM.bad
  |i _ _=>exact NM.bad
 |agg _=>exact NM.bad
 |tup _=>exact NM.bad
 |any=>exact NM.bad
theorem SF.kJ{α:Type}{o:Option α}{s:String}{f:α->SF}{tm:PT AV}(h:∀a,NM H ((f a).run tm H)):NM H ((ndF o s f).run tm H):=by
 cases o with
 |none=>exact trivial
 |some a=>exact h a
theorem SF.WB{b:Bool}{s:String}{f:SF}{tm:PT AV}(h:NM H (f.run tm H)):NM H ((Eng.ifE b f (ee s)).run tm H):=by
 cases b with
 |false=>exact trivial
 |true=>exact h
theorem BV{tm:PT AV}(o:Oper):NM H ((aI P o).run tm H):=by
 have hp:∀o,NM H (aq P tm H o):=λ_=>wL;obtain⟨dst,op,type,pos,after,guard⟩:=o
 cases op with
 |move x=>cases x<;>exact NM.same
 |assign x=>cases x<;>exact NM.same
 |pick c x y=>exact NM.dO NM.bad λ_=>NM.same
 |alloc e=>exact SF.kJ λ_=>yU
 |box e x=>exact NM.guard yU
 |build t parts=>exact SF.kJ λ_=>SF.kJ λ_=>SF.kJ λ_=>NM.nd λ_=>NM.same
 |buildSlice t len parts=>exact SF.kJ λ_=>SF.kJ λ_=>SF.WB (SF.kJ λ_=>NM.nd λ_=>NM.new)
 |load t x=>exact SF.kJ λ_=>WX
 |store t x y=>exact SF.kJ λ_=>Rb
 |nilCheck x=>exact Gq
 |binOp op t x y c=>exact XM (hp _)
 |unOp op t x=>
  show NM H (JE H op _ (aq P tm H _));unfold JE;split
  ·exact NM.dO wL λ_=>NM.same
  exact wL
 |convert s d x=>exact hp _
 |fieldAddr s x f=>exact SF.kJ λ_=>NM.sF NM.bad λ_ _ _ _=>NM.guard NM.same
 |field t x f=>exact SF.kJ λ_=>SF.kJ λ_=>TL
 |indexAddr t x i=>exact SF.kJ λ_=>NM.slE NM.bad λ_ _ _ _ _=>NM.dY NM.bad λ_ _=>NM.nd λ_=>NM.guard NM.same
 |index t x i=>exact NM.ifE (NM.gZ (hp _) λ_=>NM.dY (hp _) λ_ _=>NM.nd λ_=>NM.nd λ_=>NM.same) (hp _)
 |slice t x lo hi mx=>
  cases mx with
  |some _=>exact trivial
  |none=>
   cases he:bt P t with
   |none=>
    have:aI P ⟨dst,.slice t x lo hi none,type,pos,after,guard⟩=.mk λtm h=>aq P tm h ⟨dst,.slice t x lo hi none,type,pos,after,guard⟩:=by
     simp[aI,he]
    rw[this];exact hp _
   |some p=>
    have:aI P ⟨dst,.slice t x lo hi none,type,pos,after,guard⟩=.mk λtm h=>cR h p.2 ((opF x).ev tm) (lo.map (ev tm)) (hi.map (ev tm)) (aq P tm h ⟨dst,.slice t x lo hi none,type,pos,after,guard⟩):=by
     simp[aI,he]
    rw[this];exact NM.slE (hp _) λ_ _ _ _ _=>NM.nd λ_=>NM.nd λ_=>NM.guard NM.same
 |extract x i=>exact JI
 |makeFunc fn first caps=>
  cases fn with
  |func f=>exact SF.WB (NM.nd λ_=>NM.same)
  |_=>exact trivial
 |makeMap t r=>
  cases r with
  |some _=>exact trivial
  |none=>exact NM.new
 |makeSlice t l c=>exact NM.nd λ_=>NM.nd λ_=>NM.nd λ_=>NM.dY NM.bad λ_ _=>NM.dY NM.bad λ_ _=>NM.nd λ_=>NM.nd λ_=>NM.guard NM.new
 |lookup t x k ok=>exact SF.kJ λ_=>SF.kJ λ_=>OM
 |mapUpdate t x k y=>exact SF.kJ λ_=>pU
 |insert t x k y=>exact SF.kJ λ_=>pU
 |range t x=>exact SF.kJ λ_=>Ty
 |next x b=>
  cases b with
  |true=>exact trivial
  |false=>exact VX
 |entry x=>exact Sc
 |call c=>
  show NM H ((sR P _ c).run tm H);unfold sR;split
  ·exact WR
  ·unfold jd;split
   ·exact SF.WB OD
   ·exact SF.WB UX
   ·exact SF.kJ λ_=>XK
   ·exact hp _
   ·exact hp _
   exact trivial
  exact trivial
 |_=>exact trivial
end
def RG{α:Type}(k:Nat)(nx:α->Nat)(r:R α):Prop:=∀outs,r=.ok outs->outs≠[]∧∀x∈outs,k≤nx x
section
variable{α γ:Type}{k:Nat}{nx:α->Nat}{nx':γ->Nat}
theorem RG.bad{s:String}:RG k nx (.bad s:R α):=λ_ h=>by cases h
theorem RG.one{x:α}(h:k≤nx x):RG k nx (.ok [x]):=λouts h'=>by
 cases h'
 exact⟨by simp,λy hy=>by rw[List.mem_singleton.1 hy];exact h⟩
theorem RG.cr{f:α->R γ}:∀(l:List α),(∀x∈l,RG k nx' (f x))->RG k nx' (Eng.cr f l)
 |[],_=>RG.bad
 |[x],h=>h x (List.mem_singleton.2 rfl)
 |x::y::l,h=>by
  have h1:=h x (List.mem_cons_self ..);have h2:=RG.cr (y::l) λz hz=>h z (List.mem_cons_of_mem _ hz);intro outs ho;have D3:xf (f x) (Eng.cr f (y::l))=.ok outs:=ho;cases ha:f x with
  |bad s=>rw[ha]at D3;cases D3
  |ok oa=>
   cases hb:Eng.cr f (y::l)with
   |bad s=>rw[ha,hb]at D3;cases D3
   |ok ob=>
    rw[ha,hb]at D3;have he:oa++ob=outs:=by injection D3
    subst he;refine⟨λh0=>(h1 oa ha).1 (List.append_eq_nil_iff.1 h0).1,λz hz=>?_⟩
    rcases List.mem_append.1 hz with hz|hz
    ·exact(h1 oa ha).2 z hz
    exact(h2 ob hb).2 z hz
theorem RG.bind{r:R α}{f:α->R γ}(hr:RG k nx r)(hf:∀x,k≤nx x->RG k nx' (f x)):RG k nx' (r.bind f):=by
 cases r with
 |bad s=>exact RG.bad
 |ok l=>exact RG.cr l λx hx=>hf x ((hr l rfl).2 x hx)
theorem RG.le{r:R α}{k':Nat}(hr:RG k nx r)(h:k'≤k):RG k' nx r:=λouts ho=>⟨(hr outs ho).1,λx hx=>zA2 h ((hr outs ho).2 x hx)⟩
theorem RG.ifE{b:Bool}{x y:R α}(hx:RG k nx x)(hy:RG k nx y):RG k nx (Eng.ifE b x y):=by cases b with|true=>exact hx|false=>exact hy
theorem RG.aw{o:Option γ}{e:R α}{f:γ->R α}(he:RG k nx e)(h:∀a,RG k nx (f a)):RG k nx (Eng.aw o e f):=by cases o with|none=>exact he|some a=>exact h a
end
abbrev nV(x:AV×Hp):Nat:=x.2.nx
abbrev nA(x:aa×Hp):Nat:=x.2.nx
abbrev nE(x:ak×aa×Hp):Nat:=x.2.2.nx
def GQ{k:Nat}{tm:PT AV}{g:Option (Option Tmp×Bool)}{yes no:R (aa×Hp)}(hy:RG k nA yes)(hn:RG k nA no):RG k nA (bB tm g yes no):=by
 unfold bB;refine RG.aw hy λp=>RG.aw hn λt=>RG.aw hn λv=>?_;cases v with
 |one c=>cases c with
  |b b=>exact RG.ifE (RG.ifE hy hn) (RG.ifE hn hy)
  |i _ _=>exact hn
  |o _=>exact RG.bad
 |agg _=>exact hn
 |tup _=>exact hn
 |any=>exact RG.bad
structure RecM(rec:Rec):Prop where
 code:∀r c a h,RG h.nx nE (rec.code r c a h)
 call:∀f args h,RG h.nx nV (rec.call f args h)
section
variable{E:Env}{rec:Rec}(J0:RecM rec)
theorem sS{k id:Nat}{x:ak×aa×Hp}(hk:k≤nE x):RG k nV (iL id x):=by
 unfold iL;split
 ·split<;>exact RG.one hk
 exact RG.bad
include J0
theorem tz{k id:Nat}{body:Code}{x:ak×aa×Hp}(hk:k≤nE x):RG k nV (eo rec id body x):=by
 unfold eo;split
 ·refine RG.bind (nx:=nE) (RG.le (J0.code _ _ _ _) hk) λy hy=>sS hy
 exact RG.bad
theorem uS{id:Nat}{args:List AV}{h:Hp}:RG h.nx nV (fK rec id args h):=by
 unfold fK;split
 ·exact RG.ifE (RG.bind (nx:=nE) (J0.code _ _ _ _) λx hx=>tz J0 hx) RG.bad
 exact RG.bad
theorem xT{f:FuncId}{args:List AV}{h:Hp}:RG h.nx nV (mQ E rec f args h):=by
 unfold mQ;exact RG.aw (RG.aw (J0.call _ _ _) λ_=>RG.one (zA1 _)) λ_=>RG.one (zA1 _)
theorem yu{h:Hp}{n:ab}(hn:NM h n):RG h.nx nV (je E rec h n):=by
 cases n with
 |val v h'=>exact RG.one hn
 |om l=>intro outs ho;cases ho;exact hn
 |enter f args=>exact xT J0
 |round id args=>exact uS J0
 |bad s=>exact RG.bad
omit J0 in
theorem jq{k0:Nat}{a:aa}{dst:Option Tmp}{v:AV}{h:Hp}{k:aa->Hp->R (aa×Hp)}(hk:∀a,RG k0 nA (k a h)):RG k0 nA (fA a dst v h k):=by
 unfold fA;exact RG.aw (hk _) λd=>RG.ifE (hk _) RG.bad
theorem Tk{a:aa}{dst:Option Tmp}{h:Hp}{k:aa->Hp->R (aa×Hp)}{n:ab}(hn:NM h n)(hk:∀a h',RG h'.nx nA (k a h')):RG h.nx nA (lG E rec a dst h k n):=by
 cases n with
 |val v h'=>exact jq λa=>(hk a h').le hn
 |om l=>exact RG.cr l λx hx=>jq λa=>(hk a x.2).le (hn.2 x hx)
 |enter f args=>exact RG.bind (nx:=nV) (xT J0) λx hx=>jq λa=>(hk a x.2).le hx
 |round id args=>exact RG.bind (nx:=nV) (uS J0) λx hx=>jq λa=>(hk a x.2).le hx
 |bad s=>exact RG.bad
theorem rH{P:Program}{ops:List Oper}:∀(l:List Oper)(a:aa)(h:Hp),RG h.nx nA (dI E rec (fH P ops l) a h)
 |[],a,h=>RG.one (zA1 _)
 |o::l,a,h=>by
  show RG h.nx nA (bB a.tm (gOf ops o.guard) (lG E rec a o.dst h (dI E rec (fH P ops l)) ((aI P o).run a.tm h)) (fA a o.dst aD h (dI E rec (fH P ops l))));exact GQ (Tk J0 (BV o) λa h'=>rH l a h') (jq λa=>rH l a h)
omit J0 in
theorem Ru{kk j:Nat}{a:aa}{dst:Option Tmp}{h:Hp}{sub:PT aJ}{us did:List Did}{K:List Did->aa->Hp->R (aa×Hp)}{x:R (AV×Hp)}(hx:RG h.nx nV x)(hK:∀d a h',RG h'.nx nA (K d a h')):
  RG h.nx nA (vM kk j a dst h sub us did K x):=by
 cases x with
 |bad s=>exact RG.bad
 |ok l=>
  cases l with
  |nil=>exact RG.bad
  |cons y l=>
   cases l with
   |cons z l=>exact RG.bad
   |nil=>
    have h1:=(hx [y] rfl).2 y (List.mem_singleton.2 rfl);exact RG.ifE (jq λa=>RG.le (hK _ _ _) h1) RG.bad
theorem sA{P:Program}{ops:List Oper}:∀(l:List Oper)(j:Nat)(ms:List Nat)(did:List Did)(a:aa)(h:Hp),RG h.nx nA (cJ E rec (fH P ops l) j ms did a h)
 |[],j,ms,did,a,h=>RG.one (zA1 _)
 |o::l,j,ms,did,a,h=>by
  cases ms with
  |nil=>exact RG.bad
  |cons m ms=>
   show RG h.nx nA (bB a.tm (gOf ops o.guard)
    (vM (bm o) j a o.dst h (aO h.t h.nx a.tm o (aL m did)) (aL m did) did (cJ E rec (fH P ops l) (Nat.add j 1) ms) (SP E rec a.tm ⟨aO h.t h.nx a.tm o (aL m did),h.nx,[]⟩ (aI P o)))
    (fA a o.dst aD h (cJ E rec (fH P ops l) (Nat.add j 1) ms did)))
   refine GQ (Ru ?_ λd a h'=>sA l _ ms d a h') (jq λa=>sA l _ ms did a h);have hn:NM ⟨aO h.t h.nx a.tm o (aL m did),h.nx,[]⟩ ((aI P o).run a.tm ⟨aO h.t h.nx a.tm o (aL m did),h.nx,[]⟩):=BV o;exact yu J0 hn
omit J0 in
theorem mE{k:Nat}{e:ak}{n r:R (ak×aa×Hp)}{x:Nat->R (ak×aa×Hp)}(hn:RG k nE n)(hx:∀i,RG k nE (x i))(hr:RG k nE r):RG k nE (exE e n x r):=by
 cases e with
 |normal=>exact hn
 |exit i=>exact hx i
 |ret=>exact hr
omit J0 in
theorem te{k l:Nat}{a:aa}{x:AV×Hp}(hk:k≤nV x):RG k nE (ea l a x):=by
 unfold ea;split
 ·split
  ·exact RG.bad
  split
  ·exact RG.one hk
  ·exact RG.one hk
  ·exact RG.one hk
  exact RG.bad
 exact RG.bad
theorem Jd{r:Option Nat}{f:OpF}{ps:List Tmp}{as bo:Code}{a:aa}{h:Hp}:RG h.nx nE (gA E rec r f ps as bo a h):=by
 unfold gA;split
 ·exact RG.bad
 rename_i d h1 a1 hs
 have h0:h.nx≤h1.nx:=by
  unfold lD at hs;split at hs
  ·cases hs;exact Nat.le_succ _
  split at hs
  ·cases hs;exact zA1 _
  cases hs
 split
 ·refine RG.ifE (RG.bind (nx:=nV) (RG.le (J0.call _ _ _) (zA2 h0 (Nat.le_succ _))) λx hx=>te hx) RG.bad
 exact RG.bad
omit J0 in
theorem lk:∀{l:List (ak×aa×Hp)}{x:ak×aa×Hp},x∈l->x.2.2.nx≤qn l
 |y::l,x,h=>by
  unfold qn;rcases List.mem_cons.1 h with rfl|h
  ·exact Nat.le_max_left _ _
  exact zA2 (lk h) (Nat.le_max_right _ _)
omit J0 in
theorem mJ(h:Hp)(l:List (ak×aa×Hp)):lQ h l=l∨∃x,x∈l∧(∀z∈l,z.1=x.1∧z.2.1.nt=x.2.1.nt∧z.2.1.dfr=x.2.1.dfr∧∀id,id<h.nx->z.2.2.get id=x.2.2.get id∨(∃k,wk l id k)∨∀z∈l,zj z id)∧lQ h l=[(x.1,⟨rI l x.2.1.tm x.2.1.nt,x.2.1.nt,x.2.1.dfr⟩,pE h l x.2.2.t)]:=by
 cases l with
 |nil=>exact .inl rfl
 |cons x l=>
  cases l with
  |nil=>exact .inl rfl
  |cons y l=>
   have e:lQ h (x::y::l)=Sn h (x::y::l) x:=rfl;by_cases hc:∀z∈x::y::l,z.1=x.1∧z.2.1.nt=x.2.1.nt∧z.2.1.dfr=x.2.1.dfr∧∀id,id<h.nx->z.2.2.t.get id=x.2.2.t.get id∨(∃k,wk (x::y::l) id k)∨∀z∈x::y::l,zj z id
   ·exact .inr ⟨x,List.mem_cons_self ..,hc,by rw[e];exact zB0 hc⟩
   exact .inl (by rw[e];exact zB1 hc)
omit J0 in
theorem Gc{b:Bool}{h:Hp}{r:R (ak×aa×Hp)}{outs:List (ak×aa×Hp)}(hj:kH b h r=.ok outs):∃l,r=.ok l∧(outs=l∨outs=lQ h l):=by
 cases b with
 |false=>exact⟨outs,hj,.inl rfl⟩
 |true=>
  cases r with
  |ok l=>cases hj;exact⟨l,rfl,.inr rfl⟩
  |bad s=>cases hj
omit J0 in
theorem TB{h:Hp}{l:List (ak×aa×Hp)}{m:Nat}(hb:∀x∈lQ h l,nE x≤m):∀x∈l,nE x≤m:=by
 rcases mJ h l with e|⟨x,hx,hc,e⟩
 ·rw[e]at hb;exact hb
 intro y hy;rw[e]at hb;exact zA2 (lk hy) (hb _ (List.mem_singleton.2 rfl))
omit J0 in
theorem RG.kH{b:Bool}{h:Hp}{r:R (ak×aa×Hp)}{k:Nat}(hr:RG k nE r):RG k nE (kH b h r):=by
 intro outs ho;obtain⟨l,rfl,e|e⟩:=Gc ho
 ·rw[e];exact hr l rfl
 obtain⟨h1,h2⟩:=hr l rfl
 rw[e];rcases mJ h l with e|⟨x,hx,hc,e⟩
 ·rw[e];exact⟨h1,h2⟩
 rw[e];refine⟨by simp,λy hy=>?_⟩
 rw[List.mem_singleton.1 hy];exact zA2 (h2 x hx) (lk hx)
theorem qt:∀(c:Code)(r:Option Nat)(a:aa)(h:Hp),RG h.nx nE ((codeF E c).run rec r a h):=by
 intro c;induction c with
 |skip=>intro r a h;exact RG.one (zA1 _)
 |region id ops draw=>
  intro r a h;cases draw with
  |false=>exact RG.bind (nx:=nA) (rH J0 _ a h) λx hx=>RG.one hx
  |true=>
   show RG h.nx nE ((Eng.ifE (dP ops) (CF.mk λrec _ a h=>(cJ E rec (oN E.P ops) 0 (dM [] 0 ops.toList) [] a h).bind eI) (CF.mk λ_ _ _ _=>.bad "draw - slots")).run rec r a h)
   cases dP ops with
   |false=>exact RG.bad
   |true=>exact RG.bind (nx:=nA) (sA J0 _ _ _ _ a h) λx hx=>RG.one hx
 |seq x y hx hy=>
  intro r a h;refine RG.bind (nx:=nE) (hx r a h) λz hz=>mE ((hy r _ _).le hz) (λ_=>RG.one hz) (RG.one hz)
 |cond c x y hx hy=>
  intro r a h;show RG h.nx nE (dO ((opF c).ev a.tm) (.bad "cond") λb=>Eng.ifE b ((codeF E x).run rec r a h) ((codeF E y).run rec r a h))
  cases(opF c).ev a.tm with
  |one q=>
   cases q with
   |b b=>exact RG.ifE (hx r a h) (hy r a h)
   |i _ _=>exact RG.bad
   |o _=>exact RG.bad
  |agg _=>exact RG.bad
  |tup _=>exact RG.bad
  |any=>exact RG.bad
 |block id x hx=>
  intro r a h;exact RG.kH (RG.bind (nx:=nE) (hx r a h) λz hz=>mE (RG.one hz) (λ_=>RG.ifE (RG.one hz) (RG.one hz)) (RG.one hz))
 |loop x hx=>
  intro r a h;refine RG.bind (nx:=nE) (hx r a h) λz hz=>mE (RG.le (J0.code _ _ _ _) hz) (λ_=>RG.one hz) (RG.one hz)
 |rangeFunc f ps as bo _ _=>intro r a h;exact Jd J0
 |exit id=>intro r a h;exact RG.one (zA1 _)
 |scope x hx=>intro r a h;exact hx r a h
 |label l=>intro r a h;exact RG.one (zA1 _)
 |goto l=>intro r a h;exact RG.bad
 |ret=>intro r a h;exact RG.one (zA1 _)
 |refuse x=>intro r a h;exact RG.bad
end
def tq:∀(l:List Nat)(h h':Hp),closeAll h l=some h'->h'.nx=h.nx
 |[],h,h',e=>by cases e;rfl
 |d::l,h,h',e=>by
  unfold closeAll at e;split at e
  ·have:=tq l _ h' e;exact this
  cases e
def pf{E:Env}{k:Nat}{res:List ResultVar}{x:ak×aa×Hp}(hk:k≤nE x):RG k nV (aC E res x):=by
 have key:RG k nV (aw (closeAll x.2.2 x.2.1.dfr) (.bad "marks") λh2=>aw (bQ E.P res x.2.1.tm h2) (.bad "results") λl=>.ok [(dU l,h2)]):=by
  cases hc:closeAll x.2.2 x.2.1.dfr with
  |none=>exact RG.bad
  |some h2=>
   refine RG.aw (o:=bQ E.P res x.2.1.tm h2) RG.bad λl=>RG.one ?_;show k≤h2.nx;rw[tq _ _ _ hc];exact hk
 unfold aC;cases x.1 with
 |normal=>exact key
 |exit i=>exact RG.bad
 |ret=>exact key
def ra:∀{l:List (AV×Hp)}{x:AV×Hp},x∈l->x.2.nx≤mj l
 |y::l,x,h=>by
  show x.2.nx≤Nat.max y.2.nx (mj l);rcases List.mem_cons.1 h with rfl|h
  ·exact Nat.le_max_left _ _
  exact zA2 (ra h) (Nat.le_max_right _ _)
def my(h:Hp)(l:List (AV×Hp)):vC h l=l∨∃x,x∈l∧(∀z∈l,z.1=x.1∧∀id,id<h.nx->z.2.get id=x.2.get id)∧vC h l=[(x.1,Ep h l x.2.t)]:=by
 cases l with
 |nil=>exact .inl rfl
 |cons x l=>
  cases l with
  |nil=>exact .inl rfl
  |cons y l=>
   have e:vC h (x::y::l)=Xf h (x::y::l) x:=rfl;by_cases hc:∀z∈x::y::l,z.1=x.1∧∀id,id<h.nx->z.2.t.get id=x.2.t.get id
   ·exact .inr ⟨x,List.mem_cons_self ..,hc,by rw[e];exact zB0 hc⟩
   exact .inl (by rw[e];exact zB1 hc)
def Fy{h:Hp}{r:R (AV×Hp)}{outs:List (AV×Hp)}(hj:tt h r=.ok outs):∃l,r=.ok l∧outs=vC h l:=by
 cases r with
 |ok l=>cases hj;exact⟨l,rfl,rfl⟩
 |bad s=>cases hj
def RQ{h:Hp}{l:List (AV×Hp)}{m:Nat}(hb:∀x∈vC h l,nV x≤m):∀x∈l,nV x≤m:=by
 rcases my h l with e|⟨x,hx,hc,e⟩
 ·rw[e]at hb;exact hb
 intro y hy;rw[e]at hb;exact zA2 (ra hy) (hb _ (List.mem_singleton.2 rfl))
def RG.join{h:Hp}{r:R (AV×Hp)}{k:Nat}(hr:RG k nV r):RG k nV (tt h r):=by
 intro outs ho;obtain⟨l,rfl,rfl⟩:=Fy ho
 obtain⟨h1,h2⟩:=hr l rfl
 rcases my h l with e|⟨x,hx,hc,e⟩
 ·rw[e];exact⟨h1,h2⟩
 rw[e];refine⟨by simp,λy hy=>?_⟩
 rw[List.mem_singleton.1 hy];exact zA2 (h2 x hx) (ra hx)
def OJ{E:Env}{rec:Rec}(J0:RecM rec){f:FuncId}{args:List AV}{h:Hp}:RG h.nx nV (jG E rec f args h):=by
 unfold jG RW;split
 ·split
  ·exact RG.ifE (RG.join (RG.bind (nx:=nE) (qt J0 _ none _ h) λx hx=>pf hx)) RG.bad
  exact RG.bad
 exact RG.bad
def ln(E:Env):∀n,RecM (eval E n)
 |0=>⟨λ_ _ _ _=>RG.bad,λ_ _ _=>RG.bad⟩
 |n+1=>⟨λr c a h=>qt (ln E n) c r a h,λf args h=>OJ (ln E n)⟩
def SN{β:Pl}{v:Value}(h:v.oneCell'=true):CR β (cOf v) v:=by
 unfold cOf;split
 ·rfl
 ·rfl
 ·rfl
 ·rfl
 ·rfl
 ·rfl
 ·rfl
 exact⟨rfl,h⟩
def KC{β:Pl}:∀(l:List Value),l.all Value.oneCell'=true->CRs β (l.map cOf) l
 |[],_=>trivial
 |v::l,h=>by
  simp only[List.all_cons,Bool.and_eq_true]at h;exact⟨SN h.1,KC l h.2⟩
def cZ{β:Pl}{v:Value}(h:okV v=true):AR β (ofValue v) v:=by
 unfold ofValue;split
 ·rename_i cs
  exact⟨cs.toList,KC _ h,by simp⟩
 ·rename_i vs
  have h':vs.toList=[]:=by simpa [okV]using h
  have:vs=#[]:=by cases vs;simpa using h'
  subst this;exact⟨[],trivial,rfl⟩
 rename_i h1 h2
 refine SN ?_;cases v<;>first|rfl|exact absurd rfl (h1 _)|exact absurd rfl (h2 _)
def mB{v:Value}(h:∀vs,v≠.tuple vs):(ofValue v).bz=true:=by
 unfold ofValue;split
 ·rfl
 ·exact absurd rfl (h _)
 rfl
def AC.ij{β:Pl}{c:AC}{u v:Value}(h:c.val?=some u)(hr:CR β c v):v=u:=by
 cases c with
 |b x=>cases h;exact hr
 |i k n=>cases h;exact hr
 |o x=>cases x<;>simp[AC.val?]at h<;>subst h<;>first|exact hr|exact hr.1
def tu{β:Pl}:∀{l:List AC}{us vs:List Value},aW l=some us->CRs β l vs->vs=us
 |[],us,vs,h,hr=>by
  cases h
  cases vs with
  |nil=>rfl
  |cons=>exact hr.elim
 |c::l,us,vs,h,hr=>by
  cases vs with
  |nil=>exact hr.elim
  |cons v vs=>
   unfold aW at h;split at h
   ·rename_i u us' hc hl
    cases h
    rw[AC.ij hc hr.1,tu hl hr.2]
   cases h
def AV.ij{β:Pl}{x:AV}{u v:Value}(h:x.val?=some u)(hr:AR β x v):v=u:=by
 cases x with
 |one c=>exact AC.ij h hr
 |agg l=>
  obtain⟨vs,h1,rfl⟩:=hr
  unfold AV.val? at h;simp only at h
  split at h
  ·rename_i us hu
   cases h
   rw[tu hu h1]
  cases h
 |tup l=>
  obtain⟨vs,h1,rfl⟩:=hr
  cases l with
  |nil=>
   cases h
   cases vs with
   |nil=>rfl
   |cons=>exact h1.elim
  |cons=>cases h
 |any=>cases h
def bG{β:Pl}{tm:PT AV}{a:Act}(h:∀t,AR β (aw (tm.get t) aD λv=>v) (a.tmps.getD t undef))(x:Operand):AR β (ev tm x) (a.eval x):=by
 cases x with
 |tmp t=>exact h t
 |const v=>
  show AR β (bif okV v then ofValue v else .any) v;cases ho:okV v with
  |true=>exact cZ ho
  |false=>trivial
 |global g=>trivial
 |func f=>exact⟨[],rfl,rfl,λk c v hc _=>by simp at hc⟩
def oL{α:Type}{P:Program}:∀{s:Sem α}{a:α},ax P s=some a->∀w,s.run P w=.ok a w:=by
 intro s;induction s with
 |pure a=>intro b h w;cases h;rfl
 |program k ih=>intro b h w;exact ih P h w
 |mark m k ih=>intro b h w;exact ih h w
 |load m a k _=>intro b h;cases h
 |store m a v k _=>intro b h;cases h
 |new o k _=>intro b h;cases h
 |shape r k _=>intro b h;cases h
 |freeze a n k _=>intro b h;cases h
 |frozen a k _=>intro b h;cases h
 |getObj r k _=>intro b h;cases h
 |setObj r o k _=>intro b h;cases h
 |choose q k _=>intro b h;cases h
 |sys c k _=>intro b h;cases h
 |halt hl=>intro b h;cases h
section tables
variable{P:Program}{t:TypeId}{w:World}
theorem eD{a:Bool}(h:ns P t=some a):(isAgg t).run P w=.ok a w:=by
 unfold ns at h;split at h
 ·rename_i fs hu;cases h;simp[isAgg,run_underlying hu]
 ·rename_i n e hu;cases h;simp[isAgg,run_underlying hu]
 ·rename_i d h1 h2 hu
  cases h
  simp only[isAgg,Sem.run_bind,run_underlying hu,Result.andThen_ok];cases d<;>first|rfl|exact absurd hu (h1 _)|exact absurd hu (h2 _ _)
 cases h
theorem iu{n:Nat}(h:aT P t=some n):∃i,P.info? t=some i∧i.size=n:=by
 unfold aT at h;split at h
 ·rename_i i hi;cases h;exact⟨i,hi,rfl⟩
 cases h
theorem cy{n:Nat}(h:aT P t=some n):(sizeOf t).run P w=.ok n w:=by
 obtain⟨i,hi,rfl⟩:=iu h
 simp[sizeOf,typeInfo,hi]
theorem oy{n:Nat}(h:cK P t=some n):∃i,P.info? t=some i∧i.bytes=n:=by
 unfold cK at h;split at h
 ·rename_i i hi;cases h;exact⟨i,hi,rfl⟩
 cases h
theorem iG{z:Value}(h:ay P t=some z):okV z=true∧(∀vs,z≠.tuple vs)∧∃i,P.info? t=some i∧i.zero=some z:=by
 unfold ay at h;split at h
 ·rename_i i hi
  split at h
  ·rename_i y hy
   split at h
   ·cases h
   rename_i Z0
   cases ho:okV y with
   |true=>rw[ho]at h;cases h;exact⟨ho,λvs=>Z0 vs,i,hi,hy⟩
   |false=>rw[ho]at h;cases h
  cases h
 cases h
theorem dm{z:Value}(h:ay P t=some z):(zeroValue t).run P w=.ok z w:=by
 obtain⟨_,_,i,hi,hz⟩:=iG h
 simp[zeroValue,typeInfo,hi,hz]
theorem Bx{e:TypeId}(h:rU P t=some e):P.underlying t=some (.slice e):=by
 unfold rU at h;split at h
 ·cases h;assumption
 cases h
theorem jO{e:TypeId}{n:Nat}(h:bt P t=some (e,n)):P.underlying t=some (.slice e)∧aT P e=some n:=by
 unfold bt at h;split at h
 ·rename_i e' he
  split at h
  ·rename_i n' hn;cases h;exact⟨Bx he,hn⟩
  cases h
 cases h
theorem BC{k e:TypeId}(h:fW P t=some (k,e)):P.underlying t=some (.map k e):=by
 unfold fW at h;split at h
 ·cases h;assumption
 cases h
theorem Gy{a:Bool}{n:Nat}(h:loadT P t=some (a,n)):ns P t=some a∧aT P t=some n:=by
 unfold loadT at h;split at h
 ·rename_i a' n' h1 h2;cases h;exact⟨h1,h2⟩
 cases h
theorem Bh{f:Nat}{fo:Nat}{ft:TypeId}{n:Nat}(h:aE P t f=some (fo,ft,n)):
  ∃fs fd,P.underlying t=some (.struct fs)∧fs[f]?=some fd∧fd.offset=fo∧fd.type=ft∧aT P ft=some n:=by
 unfold aE at h;split at h
 ·rename_i fs hu
  split at h
  ·rename_i fd hf
   split at h
   ·rename_i n' hn;cases h;exact⟨fs,fd,hu,hf,rfl,rfl,hn⟩
   cases h
  cases h
 cases h
end tables
def Out(m:Nat)(β:Pl)(H:Hp)(w:World)(l:List (AV×Hp))(v:Value)(w':World):Prop:=
 ∃x,x∈l∧∃β',AR β' x.1 v∧Rel m β' x.2 w'∧Ext β H w β' x.2 w'
def ah(P:Program)(m:Nat)(β:Pl)(H:Hp)(w:World)(n:ab)(r:Result Next):Prop:=
 match n with
 |.val av H'=>H'.nx≤m->∃v w',(r=.ok (.value v) w'∨(r=.ok .skip w'∧v=undef))∧Out m β H w [(av,H')] v w'
 |.om l=>(∀x∈l,x.2.nx≤m)->∃v w',r=.ok (.value v) w'∧Out m β H w l v w'
 |.enter f args=>∃vs:List Value,r=(callFunc f vs.toArray).run P w∧ARs β args vs∧ao P f=true
 |.round id args=>∃p vs,β id 0=some p∧ARs β args vs∧r=(Instr.yield p.b vs.toArray).run P w
 |.bad _=>True
section
variable{P:Program}{m:Nat}{β:Pl}{H:Hp}{w:World}
theorem ah.same(hR:Rel m β H w){av:AV}{v:Value}{r:Result Next}(hr:r=.ok (.value v) w)(ha:AR β av v):ah P m β H w (.val av H) r:=
 λ_=>⟨v,w,.inl hr,_,List.mem_singleton.2 rfl,β,ha,hR,Ext.refl _ _ _⟩
theorem ah.guard{b:Bool}{s:String}{n:ab}{r:Result Next}(h:b=true->ah P m β H w n r):ah P m β H w (aA b s n) r:=by
 cases b with
 |true=>exact h rfl
 |false=>exact trivial
theorem ah.nd{α:Type}{o:Option α}{s:String}{f:α->ab}{r:Result Next}(h:∀a,o=some a->ah P m β H w (f a) r):ah P m β H w (nd o s f) r:=by
 cases o with
 |none=>exact trivial
 |some a=>exact h a rfl
theorem ag{a b:Bool}(h:both a b=true):a=true∧b=true:=by
 cases a<;>cases b<;>first|exact⟨rfl,rfl⟩|cases h
end
def Dc{P:Program}{m:Nat}{β:Pl}{H:Hp}{w:World}{x:AV}{v:Value}{e:ab}{f:Nat->Nat->Nat->Nat->ab}{r:Result Next}(hx:AR β x v)(he:∃s,e=.bad s)
  (h:∀id g off lim p,x=.one (.o (.ptr id g off lim))->β id g=some p->off+lim≤p.hi->v=.pointer (some ⟨p.b,p.o+off,none⟩)->ah P m β H w (f id g off lim) r):
  ah P m β H w (sF x e f) r:=by
 obtain⟨s,rfl⟩:=he
 cases x with
 |one c=>
  cases c with
  |b _=>exact trivial
  |i _ _=>exact trivial
  |o x=>
   cases x with
   |ptr id g off lim=>
    obtain⟨p,h1,h2,h3⟩:=hx
    exact h id g off lim p rfl h1 h2 h3
   |_=>exact trivial
 |agg _=>exact trivial
 |tup _=>exact trivial
 |any=>exact trivial
def JD{P:Program}{m:Nat}{β:Pl}{H:Hp}{w:World}{x:AV}{v:Value}{e:ab}{f:Nat->Nat->Nat->Nat->Nat->ab}{r:Result Next}(hx:AR β x v)(he:ah P m β H w e r)
  (h:∀id g off len sz p cap o',x=.one (.o (.sl id g off len sz))->β id g=some p->off+len*sz≤p.hi->len≤cap->v=.slice (some o') len cap ->
   (cap=0∨(o'=⟨p.b,p.o+off,none⟩∧p.o+off+cap*sz≤p.n))->ah P m β H w (f id g off len sz) r):
  ah P m β H w (slE x e f) r:=by
 cases x with
 |one c=>
  cases c with
  |b _=>exact he
  |i _ _=>exact he
  |o x=>
   cases x with
   |sl id g off len sz=>
    obtain⟨p,cap,o',h1,h2,h3,h4,h5⟩:=hx
    exact h id g off len sz p cap o' rfl h1 h2 h3 h4 h5
   |_=>exact he
 |agg _=>exact he
 |tup _=>exact he
 |any=>exact he
def pS{P:Program}{m:Nat}{β:Pl}{H:Hp}{w:World}{x:AV}{v:Value}{e:ab}{f:IntKind->Int->ab}{r:Result Next}(hx:AR β x v)(he:ah P m β H w e r)
  (h:∀k n,v=.int k n->ah P m β H w (f k n) r):ah P m β H w (dY x e f) r:=by
 cases x with
 |one c=>
  cases c with
  |b _=>exact he
  |i k n=>exact h k n hx
  |o x=>exact he
 |agg _=>exact he
 |tup _=>exact he
 |any=>exact he
def Fe{P:Program}{m:Nat}{β:Pl}{H:Hp}{w:World}{x:AV}{v:Value}{e:ab}{f:Bool->ab}{r:Result Next}(hx:AR β x v)(he:ah P m β H w e r)
  (h:∀b,v=.bool b->ah P m β H w (f b) r):ah P m β H w (dO x e f) r:=by
 cases x with
 |one c=>
  cases c with
  |b b=>exact h b hx
  |i k n=>exact he
  |o x=>exact he
 |agg _=>exact he
 |tup _=>exact he
 |any=>exact he
def tN{P:Program}{m:Nat}{β:Pl}{H:Hp}{w:World}{x:AV}{v:Value}{e:ab}{f:List UInt8->ab}{r:Result Next}(hx:AR β x v)(he:ah P m β H w e r)
  (h:∀s,v=.string ⟨s.toArray⟩->ah P m β H w (f s) r):ah P m β H w (gZ x e f) r:=by
 cases x with
 |one c=>
  cases c with
  |b b=>exact he
  |i k n=>exact he
  |o x=>
   cases x with
   |str s=>exact h s hx
   |_=>exact he
 |agg _=>exact he
 |tup _=>exact he
 |any=>exact he
def iT{β:Pl}{w:World}{cells:List AC}{p:Place}(h:oX β w cells p)(off n:Nat)(hn:off+n≤p.hi):
  ∃vs:List Value,vs.length=n∧CRs β ((cells.drop off).take n) vs∧∀j v,vs[j]?=some v->w.cell? ((⟨p.b,p.o+off,none⟩:Addr).add j)=some v:=by
 obtain⟨c,e,f,h1,h2,h3,h4,h5⟩:=h
 refine⟨(c.toList.drop (p.o+off)).take n,?_,?_,?_⟩
 ·simp only[List.length_take,List.length_drop,Array.length_toList];omega
 ·refine CRs.dG (by simp only[List.length_take,List.length_drop,Array.length_toList];omega) λk x v hx hv=>?_;rw[List.getElem?_take]at hx hv;split at hx
  ·rename_i hk
   rw[zB0 hk]at hv;rw[List.getElem?_drop]at hx hv;obtain⟨v',Z3,hr⟩:=h5 (off+k) x (by omega) hx
   have:v'=v:=by
    rw[Array.getElem?_toList]at hv;rw[show p.o+(off+k)=p.o+off+k from by omega,hv]at Z3;exact(Option.some.inj Z3).symm
   exact this▸hr
  cases hx
 intro j v hv;rw[List.getElem?_take]at hv;split at hv
 ·rename_i hk
  rw[List.getElem?_drop,Array.getElem?_toList]at hv;have:(⟨p.b,p.o+off,none⟩:Addr).add j=⟨p.b,p.o+off+j,none⟩:=by unfold Addr.add;split<;>simp_all
  rw[this];simp[World.cell?,h1,hv]
 cases hv
def jj{m:Nat}{β:Pl}{H:Hp}{w:World}(hR:Rel m β H w){id g:Nat}{cells:List AC}{e:TypeId}{lo gen:Nat}(ho:H.get id=some (.arr cells e lo gen))(h1:lo≤g)(h2:g≤gen)
  {p:Place} (hp:β id g=some p):fV β w cells e p∧(g=gen->p.hi=cells.length):=by
 obtain⟨_,P0,_,_⟩:=hR.obj id _ ho
 obtain⟨q,hq,hr,hh⟩:=P0 g h1 h2
 rw[hp]at hq;cases hq;exact⟨hr,hh⟩
def nK{H:Hp}{id g off lim n:Nat}{c:List AC}(h:eN H id g off lim n=some c):
  ∃cells,(∀{m:Nat}{β:Pl}{w:World},Rel m β H w->∀{p:Place},β id g=some p->oX β w cells p)∧n≤lim∧off+n≤cells.length∧c=(cells.drop off).take n:=by
 unfold eN rdO at h;cases ho:H.get id with
 |none=>rw[ho]at h;cases h
 |some o=>
  cases o with
  |oth x=>rw[ho]at h;cases h
  |arr cells e lo gen=>
   rw[ho]at h;simp only[bL,cF,bj,jz]at h;split at h
   ·rename_i hc
    simp only[Bool.and_eq_true,Nat.ble_eq]at hc;cases h
    exact⟨cells,λhR _ hp=>(jj hR ho hc.1 hc.2.1 hp).1.d,hc.2.2.1,hc.2.2.2,rfl⟩
   cases h
  |ro cells=>
   rw[ho]at h;simp only[bL,cF,bj,jz]at h;split at h
   ·rename_i hc
    simp only[Bool.and_eq_true,Nat.ble_eq]at hc;cases h
    have U6:=zA3 hc.1;refine⟨cells,λhR p hp=>?_,hc.2.1,hc.2.2,rfl⟩
    obtain⟨q,hq,hr⟩:=hR.obj id _ ho
    rw[U6,hq]at hp;cases hp;exact hr
   cases h
def Ve{P:Program}{m:Nat}{β:Pl}{H:Hp}{w:World}(hR:Rel m β H w){t:TypeId}{a:Bool}{n:Nat}(ht:loadT P t=some (a,n)){x:AV}{v:Value}(hx:AR β x v):
  ah P m β H w (cH H a n x) ((do let y <-Instr.loadAt t v;pure (Next.value y):Sem Next).run P w):=by
 obtain⟨ha,hn⟩:=Gy ht
 unfold cH;refine Dc hx ⟨_,rfl⟩ λid g off lim p _ hp I4 hv=>?_;subst hv;refine ah.nd λc hc=>?_;obtain⟨cells,hD,h3,h4,rfl⟩:=nK hc
 have hr:=hD hR hp;obtain⟨vs,I1,V3,N3⟩:=iT hr off n (by omega)
 cases a with
 |true=>
  show ah P m β H w (.val (.agg _) H) _;refine ah.same hR (v:=.agg vs.toArray) ?_ ⟨vs,V3,rfl⟩;have hl:=run_loadCells_list (P:=P) w ⟨p.b,p.o+off,none⟩ vs N3;rw[I1]at hl;simp[Instr.loadAt,Instr.sureAddr,loadVar,eD ha,cy hn,hl]
 |false=>
  cases W2:(cells.drop off).take n with
  |nil=>exact trivial
  |cons y l=>
   rw[W2]at V3;cases vs with
   |nil=>exact V3.elim
   |cons u us=>
    show ah P m β H w (.val (.one y) H) _;refine ah.same hR (v:=u) ?_ V3.1;have h0:=N3 0 u rfl;have:(⟨p.b,p.o+off,none⟩:Addr).add 0=⟨p.b,p.o+off,none⟩:=rfl;rw[this]at h0;simp[Instr.loadAt,Instr.sureAddr,loadVar,eD ha,run_load,h0]
def gj{α:Type}(l:List α)(off:Nat)(c:List α)(k:Nat)(h:off+c.length≤l.length):
  (l.take off++(c++l.drop (off+c.length)))[k]?=if k<off then l[k]? else if k<off+c.length then c[k-off]? else l[k]?:=by
 have ht:(l.take off).length=off:=by simp;omega
 by_cases h1:k<off
 ·rw[zB0 h1,List.getElem?_append_left (by omega),List.getElem?_take,zB0 h1]
 rw[zB1 h1,List.getElem?_append_right (by omega),ht];by_cases h2:k<off+c.length
 ·rw[zB0 h2,List.getElem?_append_left (by omega)]
 rw[zB1 h2,List.getElem?_append_right (by omega),List.getElem?_drop];congr 1
 omega
def fj{α:Type}(l:List α)(off:Nat)(c:List α)(h:off+c.length≤l.length):(l.take off++(c++l.drop (off+c.length))).length=l.length:=by
 simp only[List.length_append,List.length_take,List.length_drop];omega
def wW{β:Pl}{w:World}{cells:List AC}{e:TypeId}{p:Place}(h:fV β w cells e p)(hp:p.hi=cells.length){off:Nat}{c:List AC}{vs:List Value}(hc:CRs β c vs)(hoff:off+c.length≤cells.length):
  ∃cur:Array Value,w.heap[p.b]?=some (.cells cur e (0,0))∧p.o+off+0+vs.length≤cur.size ∧
   fV β (w.setRow p.b (cur.toList.take (p.o+off+0)++vs++cur.toList.drop (p.o+off+0+vs.length)).toArray) (cells.take off++(c++cells.drop (off+c.length))) e p:=by
 obtain⟨cur,h1,h2,h3,h4,h5⟩:=h
 have hl:=hc.length;refine⟨cur,h1,by omega,?_⟩
 have J3:p.o+off+0+vs.length≤cur.toList.length:=by simp;omega
 refine⟨_,setRow_heap w p.b cur _ e _ h1,?_,h3,by rw[fj _ _ _ hoff];exact h4,?_⟩
 ·rw[List.append_assoc,List.size_toArray,fj _ _ _ J3];simpa using h2
 intro k x hk hx;rw[gj _ _ _ _ hoff]at hx;rw[List.append_assoc,List.getElem?_toArray,gj _ _ _ _ J3];by_cases a1:k<off
 ·rw[zB0 a1]at hx;rw[zB0 (by omega)];simpa using h5 k x hk hx
 rw[zB1 a1]at hx;rw[zB1 (by omega)];by_cases a2:k<off+c.length
 ·rw[zB0 a2]at hx;rw[zB0 (by omega)];have C0:k-off<vs.length:=by omega
  refine⟨vs[k-off],?_,hc.get (k-off) x _ hx (zB4 C0)⟩
  rw[show p.o+k-(p.o+off+0)=k-off from by omega,zB4 C0]
 rw[zB1 a2]at hx;rw[zB1 (by omega)];simpa using h5 k x hk hx
def JW{β:Pl}{w w':World}{id:Nat}{cells cells':List AC}{e:TypeId}{lo gen:Nat}{p:Place}(h:fk β w id (.arr cells e lo gen))(hp:β id gen=some p)(hr:fV β w' cells' e p)(hl:p.hi=cells'.length):
  fk β w' id (.arr cells' e gen gen):=by
 refine⟨zA1 _,?_,?_,h.2.2.2⟩
 ·intro g h1 h2;have:g=gen:=by omega
  subst this;exact⟨p,hp,hr,λ_=>hl⟩
 intro g g' q q' h1 h2 h3 hq I8;have e1:g=gen:=by omega
 have e2:g'=gen:=by omega
 subst e1;subst e2;rw[hq]at I8;cases I8;exact⟨zA1 _,λ_=>rfl⟩
def PU{P:Program}{m:Nat}{β:Pl}{H:Hp}{w:World}(hR:Rel m β H w)(hm:m≤m){t:TypeId}{n:Nat}(ht:aT P t=some n){x y:AV}{v u:Value}(hx:AR β x v)(hy:AR β y u):
  ah P m β H w (im H n x y) ((do Instr.storeAt t u v;pure Next.skip:Sem Next).run P w):=by
 unfold im;refine Dc hy ⟨_,rfl⟩ λid g off lim p _ hp I4 hu=>?_;subst hu;unfold nh;cases ho:H.get id with
 |none=>exact trivial
 |some o=>
  cases o with
  |oth x=>exact trivial
  |ro x=>exact trivial
  |arr cells e lo gen=>
   refine ah.guard λhc=>?_;have A0:x.bz=true:=(ag (ag (ag (ag (ag hc).2).2).2).2).2;have E8:Nat.beq g gen=true:=(ag hc).1;have N7:Nat.beq (bq x.cells) n=true:=(ag (ag hc).2).1;have N6:Nat.ble n lim=true:=(ag (ag (ag hc).2).2).1;have hc4:Nat.ble (Nat.add off n) (bq cells)=true:=(ag (ag (ag (ag hc).2).2).2).1;have hc5:Nat.ble lo gen=true:=(ag (ag (ag (ag (ag hc).2).2).2).2).1;have e1:g=gen:=zA3 E8;have e2:(bq x.cells)=n:=zA3 N7;have e4:off+n≤bq cells:=zA4 hc4;have e5:lo≤gen:=zA4 hc5;rw[bj]at e2 e4;subst e1;intro V0;have W2:=hx.cells A0;have I1:v.cells.size=n:=by rw[<-e2];simpa using W2.length
   obtain⟨P0,I9⟩:=jj hR ho e5 (zA1 _) hp
   obtain⟨cur,hg,J3,O2⟩:=wW P0 (I9 rfl) W2 (by rw[e2];exact e4)
   have Y2:=run_storeCells_at P p.b (p.o+off) e v.cells.toList 0 cur w hg J3 W2.gG;have P2:=ik hR hm V0 ho (.arr (eQ cells off x.cells) e g g) (β':=β) (w':=w.setRow p.b (cur.toList.take (p.o+off+0)++v.cells.toList++cur.toList.drop (p.o+off+0+v.cells.toList.length)).toArray)
    (λ_ _ _ h=>h) (λ_ _ _=>rfl) (by simp) (by simp) (by simp) (by simp)
    (λb _ hb=>setRow_other w p.b b _ (λhh=>hb g p ⟨e5,zA1 _⟩ hp hh.symm))
    (by rw[fm];exact JW (hR.obj id _ ho) hp O2 (by rw[fj _ _ _ (by rw[e2];exact e4)];exact I9 rfl))
    (λg0 p0 U6 hp0=>.inr ⟨g,p,⟨e5,zA1 _⟩,hp,by
     have:g0=g:=by have:=U6.1;have:=U6.2;omega
     subst this;rw[hp]at hp0;cases hp0;rfl⟩)
   refine⟨undef,_,.inr ⟨?_,rfl⟩,_,List.mem_singleton.2 rfl,β,⟨[],trivial,rfl⟩,P2.1,P2.2⟩
   simp[Instr.storeAt,Instr.sureAddr,storeVar,cy ht,I1,Y2]
def Out.one{m:Nat}{β β':Pl}{H H':Hp}{w w':World}{av:AV}{v:Value}(ha:AR β' av v)(h:Rel m β' H' w'∧Ext β H w β' H' w'):Out m β H w [(av,H')] v w':=
 ⟨_,List.mem_singleton.2 rfl,β',ha,h.1,h.2⟩
def Ap{P:Program}{m:Nat}{β:Pl}{H:Hp}{w:World}(hR:Rel m β H w)(hm:m≤m){cells:List AC}{vs:Array Value}(e:TypeId)(hc:CRs β cells vs.toList){r:Result Next}
  (hr:r=.ok (.value (.pointer (some ⟨w.heap.size,0,none⟩))) (w.alloc (.cells vs e))):ah P m β H w (jx H cells e) r:=by
 intro V0;have Z7:H.nx+1≤m:=V0;have h:=tU hR hm (by omega) cells vs e hc w rfl rfl rfl rfl #[];refine⟨_,_,.inl hr,Out.one ?_ (by simpa using h)⟩
 refine⟨_,aN _ _ _ _,?_,rfl⟩
 show 0+bq cells≤cells.length;rw[bj];omega
def SJ{P:Program}{m:Nat}{β:Pl}{H:Hp}{w:World}(hR:Rel m β H w)(hm:m≤m){e:TypeId}{z:Value}(hz:ay P e=some z):
  ah P m β H w (jx H (ofValue z).cells e) ((do let y <-Instr.alloc e true (.tuple #[]);pure (Next.value y):Sem Next).run P w):=by
 obtain⟨ho,hn,_⟩:=iG hz
 refine Ap hR hm e (vs:=z.cells) ((cZ ho).cells (mB hn)) ?_;simp only[Instr.alloc,Sem.run_bind,dm hz,Result.andThen_ok];rfl
def Yp{P:Program}{m:Nat}{β:Pl}{H:Hp}{w:World}(hR:Rel m β H w)(hm:m≤m)(e:TypeId){x:AV}{v:Value}(hx:AR β x v):
  ah P m β H w (aA x.bz "box - a tuple" (jx H x.cells e)) ((do let y <-Instr.box e v;pure (Next.value y):Sem Next).run P w):=by
 refine ah.guard λhn=>?_;refine Ap hR hm e (vs:=v.cells) (hx.cells hn) ?_;rfl
def OU(off:Nat):∀(vs:List Value)(i:Nat)(cs:Array Value),off+i+vs.length≤cs.size ->
  ((vs.zipIdx i).foldl (λcs(x:Value×Nat)=>cs.setIfInBounds (off+x.2) x.1) cs).toList=cs.toList.take (off+i)++(vs++cs.toList.drop (off+i+vs.length)):=by
 intro vs;induction vs with
 |nil=>intro i cs _;simp
 |cons v vs ih=>
  intro i cs h;simp only[List.length_cons]at h;simp only[List.zipIdx_cons,List.foldl_cons];rw[ih (i+1) _ (by simp;omega)];rw[Array.toList_setIfInBounds];apply List.ext_getElem?
  intro k;have hlen:cs.toList.length=cs.size:=by simp
  have e1:=gj (cs.toList.set (off+i) v) (off+(i+1)) vs k (by simp;omega);have e2:=gj cs.toList (off+i) (v::vs) k (by simp;omega);rw[e1];rw[e2];simp only[List.length_cons];by_cases a1:k<off+i
  ·rw[zB0 (by omega),zB0 a1,List.getElem?_set_ne (by omega)]
  by_cases a2:k=off+i
  ·subst a2;rw[zB0 (by omega),zB1 (by omega),zB0 (by omega),List.getElem?_set_self (by omega)];simp
  rw[zB1 (by omega),zB1 a1];by_cases a3:k<off+(i+1)+vs.length
  ·rw[zB0 a3,zB0 (by omega)];rw[show k-(off+i)=(k-(off+(i+1)))+1 from by omega,List.getElem?_cons_succ]
  rw[zB1 a3,zB1 (by omega),List.getElem?_set_ne (by omega)]
def Lb{β:Pl}{tm:PT AV}{a:Act}(R0:∀t,AR β (aw (tm.get t) aD λv=>v) (a.tmps.getD t undef)){place:Nat->Option (Nat×Nat)}:
  ∀{l:List (Nat×Operand)}{r:List (Nat×Nat×OpF)}{z:List AC}{c:List AC}{vs:Array Value},cY place l=some r->hY tm r z=some c->CRs β z vs.toList ->
   ∃us:Array Value,Instr.fill place vs (l.map λp=>(p.1,a.eval p.2))=some us∧CRs β c us.toList∧c.length=z.length:=by
 intro l;induction l with
 |nil=>
  intro r z c vs h hf hz;cases h
  have:z=c:=by injection hf
  subst this;exact⟨vs,rfl,hz,rfl⟩
 |cons q l ih=>
  intro r z c vs h hf hz;obtain⟨i,x⟩:=q
  unfold cY at h;split at h
  ·rename_i p r' hp E3
   cases h
   have hx:=bG R0 x;have K8:ifE (both (Nat.beq (bq ((opF x).ev tm).cells) p.2) (both (Nat.ble (Nat.add p.1 p.2) (bq z)) ((opF x).ev tm).bz)) (hY tm r' (eQ z p.1 ((opF x).ev tm).cells)) none=some c:=hf;rw[bL]at K8;split at K8
   ·rename_i hc
    have h1:bq ((opF x).ev tm).cells=p.2:=zA3 (ag hc).1;have h2:p.1+p.2≤bq z:=zA4 (ag (ag hc).2).1;have h3:((opF x).ev tm).bz=true:=(ag (ag hc).2).2;rw[bj]at h1 h2;have W2:CRs β ((opF x).ev tm).cells (a.eval x).cells.toList:=AR.cells hx h3;have hl:=W2.length;have B2:=hz.length;simp only[Array.length_toList]at hl B2;have L1:¬((a.eval x).cells.size≠p.2∨p.1+(a.eval x).cells.size>vs.size):=by omega
    have hfs:=OU p.1 (a.eval x).cells.toList 0 vs (by simp;omega);have hrel:CRs β (eQ z p.1 ((opF x).ev tm).cells) (((a.eval x).cells.zipIdx.foldl (λcs(x:Value×Nat)=>cs.setIfInBounds (p.1+x.2) x.1) vs)).toList:=by
     rw[<-Array.foldl_toList,Array.toList_zipIdx,hfs,fm];refine CRs.append (by simpa using hz.take p.1) (CRs.append W2 ?_);have:=hz.drop (p.1+((opF x).ev tm).cells.length);simpa [hl]using this
    obtain⟨us,X1,j6,g_⟩:=ih E3 K8 hrel
    refine⟨us,?_,j6,by rw[g_,fm,fj _ _ _ (by omega)]⟩
    simp only[List.map_cons,Instr.fill,hp];rw[zB1 (by simpa using L1)];exact X1
   cases K8
  cases h
def QS{P:Program}{m:Nat}{β:Pl}{H:Hp}{w:World}(hR:Rel m β H w){tm:PT AV}{a:Act}(R0:∀t,AR β (aw (tm.get t) aD λv=>v) (a.tmps.getD t undef))
  {t:TypeId} {z:Value} {pl:Nat->Option (Nat×Nat)} {parts:Array (Nat×Operand)} {ps:List (Nat×Nat×OpF)} (hz:ay P t=some z) (G7:cB P t=some pl) (B8:cY pl parts.toList=some ps):
  ah P m β H w (ue H (ofValue z).cells tm ps) ((do let y <-Instr.build t (parts.map λ(i,x)=>(i,a.eval x));pure (Next.value y):Sem Next).run P w):=by
 refine ah.nd λc hc=>?_;obtain⟨ho,hn,it,S3,hiz⟩:=iG hz
 obtain⟨us,hu,W2,_⟩:=Lb R0 B8 hc (vs:=z.cells) ((cZ ho).cells (mB hn))
 have hb:P.built t (parts.map λ(i,x)=>(i,a.eval x)).toList=some us:=by
  unfold cB at G7;unfold Program.built;rw[S3];split at G7
  ·rename_i fs S6
   split at G7
   ·rename_i places hp
    cases G7
    simp only[S6,hiz,hp];rw[<-hu];simp
   cases G7
  ·rename_i n el S6
   split at G7
   ·rename_i ie S1
    cases G7
    simp only[S6,hiz,S1];rw[<-hu];simp
   cases G7
  cases G7
 refine ah.same hR (v:=.agg us) ?_ ⟨us.toList,W2,by simp⟩;simp only[Sem.run_bind,run_build w t _ us hb,Result.andThen_ok];rfl
def Ts(z:List AC):∀(n k:Nat),(jA z n)[k]?=if k<n*z.length then z[k%z.length]? else none:=by
 intro n;induction n with
 |zero=>intro k;show([]:List AC)[k]?=_;simp
 |succ n ih=>
  intro k;show(lL z (jA z n))[k]?=_
  rw[gE];have e:(n+1)*z.length=n*z.length+z.length:=by rw[Nat.add_mul];simp
  by_cases h:k<z.length
  ·rw[List.getElem?_append_left h,zB0 (by omega),Nat.mod_eq_of_lt h]
  rw[List.getElem?_append_right (by omega),ih];by_cases h2:k<(n+1)*z.length
  ·rw[zB0 h2,zB0 (by omega)];congr 1
   exact(Nat.mod_eq_sub_mod (by omega)).symm
  rw[zB1 h2,zB1 (by omega)]
def wY(z:List AC)(n:Nat):(jA z n).length=n*z.length:=by
 induction n with
 |zero=>show([]:List AC).length=_;simp
 |succ n ih=>
  show(lL z (jA z n)).length=_
  rw[gE,List.length_append,ih,Nat.add_mul];omega
def Nd{β:Pl}{z:List AC}{vs:Array Value}(h:CRs β z vs.toList)(n:Nat):CRs β (jA z n) ((Array.range (n*vs.size)).map (vs[·%vs.size]!)).toList:=by
 have hl:vs.size=z.length:=by simpa using h.length
 refine CRs.dG (by simp[wY,hl]) λk c v hc hv=>?_;rw[Ts]at hc;split at hc
 ·rename_i hk
  have O3:k<n*vs.size:=by rw[hl];exact hk
  have D4:0<vs.size:=by
   rcases Nat.eq_zero_or_pos vs.size with h0|h0
   ·rw[h0]at O3;omega
   exact h0
  have hm:k%vs.size<vs.size:=Nat.mod_lt _ D4;have Z3:v=vs[k%vs.size]:=by
   simp[O3]at hv;rw[<-hv,getElem!_pos vs _ hm]
  rw[Z3];refine h.get (k%vs.size) c _ ?_ ?_
  ·rw[hl];exact hc
  simp[hm]
 cases hc
def xx{P:Program}{m:Nat}{β:Pl}{H:Hp}{w:World}(hR:Rel m β H w)(hm:m≤m){tm:PT AV}{a:Act}(R0:∀t,AR β (aw (tm.get t) aD λv=>v) (a.tmps.getD t undef))
  {t e:TypeId} {sz len:Nat} {z:Value} {parts:Array (Nat×Operand)} {ps:List (Nat×Nat×OpF)} (he:bt P t=some (e,sz)) (hz:ay P e=some z) (h24:len*sz≤16777216) (B2:(ofValue z).cells.length=sz)
  (B8:cY (λi=>some (i*sz,sz)) parts.toList=some ps):
  ah P m β H w (ic H (jA (ofValue z).cells len) tm e sz len ps) ((do let y <-Instr.buildSlice t len (parts.map λ(i,x)=>(i,a.eval x));pure (Next.value y):Sem Next).run P w):=by
 refine ah.nd λc hc=>?_;intro V0;have Z7:H.nx+1≤m:=V0;obtain⟨hu,hs⟩:=jO he
 obtain⟨ho,hn,it,S3,hiz⟩:=iG hz
 have q8:CRs β (ofValue z).cells z.cells.toList:=(cZ ho).cells (mB hn);have hzs:z.cells.size=sz:=by rw[<-B2];simpa using q8.length
 have hrep:=Nd q8 len;rw[hzs]at hrep;obtain⟨us,z',W2,hclen⟩:=Lb R0 B8 hc hrep
 have hlen:c.length=len*sz:=by rw[hclen,wY,B2]
 have h:=tU hR hm (by omega) c us e W2 w rfl rfl rfl rfl #[];have O8:Instr.fill (λi=>some (i*sz,sz)) ((Array.range (len*sz)).map (z.cells[·%sz]!)) (parts.map λ(i,x)=>(i,a.eval x)).toList=some us:=by rw[<-z'];simp
 have Q1:(Instr.buildSlice t len (parts.map λ(i,x)=>(i,a.eval x))).run P w=.ok (.slice (some ⟨w.heap.size,0,none⟩) len len) (w.alloc (.cells us e)):=by
  have h24':¬(len*sz>2^24):=by omega
  by_cases h0:len*sz=0
  ·rw[h0]at O8;simp only[Instr.buildSlice,Sem.run_bind,run_underlying hu,Result.andThen_ok,cy hs,h0];rw[zB1 (by omega)];simp only[if_true,Sem.run_bind,Sem.run_pure,Result.andThen_ok];have hr:∀f:Nat->Value,(Array.range 0).map f=#[]:=λf=>by apply Array.ext';simp
   simp only[hr]at O8 ⊢;rw[O8];rfl
  simp only[Instr.buildSlice,Sem.run_bind,run_underlying hu,Result.andThen_ok,cy hs,zB1 h24',zB1 h0,dm hz,Sem.run_pure];rw[hzs,O8];rfl
 refine⟨_,_,.inl (by simp only[Sem.run_bind,Q1,Result.andThen_ok];rfl),Out.one ?_ (by simpa using h)⟩
 refine⟨_,len,_,aN _ _ _ _,?_,zA1 _,rfl,.inr ⟨rfl,?_⟩⟩
 ·show 0+len*sz≤c.length;omega
 have:=W2.length;simp at this
 show 0+0+len*sz≤us.size+(#[]:Array Value).size;simp
 omega
section
variable{P:Program}{m:Nat}{β:Pl}{H:Hp}{w:World}
theorem re(b o n:Nat):(⟨b,o,none⟩:Addr).add n=⟨b,o+n,none⟩:=by unfold Addr.add;split<;>simp_all
theorem Dh(hR:Rel m β H w){s:TypeId}{f fo:Nat}{ft:TypeId}{n:Nat}(ht:aE P s f=some (fo,ft,n)){x:AV}{v:Value}(hx:AR β x v):
  ah P m β H w (fl H fo n x) ((do let y <-Instr.fieldAt s v f;pure (Next.value y):Sem Next).run P w):=by
 obtain⟨fs,fd,hu,hf,rfl,rfl,hn⟩:=Bh ht
 unfold fl;refine Dc hx ⟨_,rfl⟩ λid g off lim p _ hp I4 hv=>?_;subst hv;refine ah.guard λhc=>?_;have h1:1≤n:=zA4 (ag hc).1;have h2:fd.offset+n≤lim:=zA4 (ag hc).2;refine ah.same hR (v:=.pointer (some ⟨p.b,p.o+off+fd.offset,none⟩)) ?_ ⟨p,hp,?_,?_⟩
 ·have J2:¬n=0:=by omega
  simp[Instr.fieldAt,run_underlying hu,hf,Instr.sureAddr,fieldPlace,cy hn,J2,re]
 ·show Nat.add off fd.offset+Nat.sub lim fd.offset≤p.hi;have e1:Nat.add off fd.offset=off+fd.offset:=rfl;have e2:Nat.sub lim fd.offset=lim-fd.offset:=rfl;omega
 show _=Value.pointer (some ⟨p.b,p.o+(off+fd.offset),none⟩);rw[Nat.add_assoc]
theorem mN{n:Int}{k:Nat}(h:uL n=some k):n=(k:Int):=by
 cases n with
 |ofNat j=>cases h;rfl
 |negSucc j=>cases h
theorem CM(hR:Rel m β H w){t e:TypeId}{sz':Nat}(ht:bt P t=some (e,sz')){x i:AV}{v u:Value}(hx:AR β x v)(hi:AR β i u):
  ah P m β H w (cC H sz' x i) ((do let y <-Instr.indexAt t v u;pure (Next.value y):Sem Next).run P w):=by
 obtain⟨hu,hs⟩:=jO ht
 unfold cC;refine JD hx trivial λid g off len sz p cap o' _ hp hlen k8 hv hex=>?_;subst hv;refine pS hi trivial λk n hn=>?_;subst hn;refine ah.nd λn' D9=>?_;rw[mN D9];refine ah.guard λhc=>?_;have h1:sz=sz':=zA3 (ag hc).1;have h2:n'<len:=zA4 (ag hc).2;subst h1;have hex':o'=⟨p.b,p.o+off,none⟩:=by
  rcases hex with h|h
  ·omega
  exact h.1
 subst hex';have hmul:(n'+1)*sz≤len*sz:=Nat.mul_le_mul_right _ h2;rw[Nat.add_mul]at hmul;refine ah.same hR (v:=.pointer (some ⟨p.b,p.o+off+n'*sz,none⟩)) ?_ ⟨p,hp,?_,?_⟩
 ·simp[Instr.indexAt,asIntOf,run_underlying hu,cy hs,re];intro hge;omega
 ·show Nat.add off (Nat.mul n' sz)+sz≤p.hi;have e1:Nat.add off (Nat.mul n' sz)=off+n'*sz:=rfl;omega
 show _=Value.pointer (some ⟨p.b,p.o+(off+n'*sz),none⟩);rw[Nat.add_assoc]
theorem xh{lo:Option Operand}{tm:PT AV}{a:Act}(R0:∀t,AR β (aw (tm.get t) aD λv=>v) (a.tmps.getD t undef)){d k:Nat}(h:Bw (lo.map (ev tm)) d=some k):
  match lo.map a.eval with
  |none=>k=d
  |some v=>∃kd,v=.int kd k:=by
 cases lo with
 |none=>exact(Option.some.inj h).symm
 |some x=>
  have hx:=bG R0 x;show∃kd,a.eval x=.int kd k
  have h':dY (ev tm x) none (λ_ n=>uL n)=some k:=h;revert hx h'
  cases ev tm x with
  |one c=>
   cases c with
   |i kd n=>intro hx h';rw[mN h']at hx;exact⟨kd,hx⟩
   |b _=>intro _ h';cases h'
   |o _=>intro _ h';cases h'
  |agg _=>intro _ h';cases h'
  |tup _=>intro _ h';cases h'
  |any=>intro _ h';cases h'
theorem run_sliceBound(kd:IntKind)(k y:Nat)(code:BoundsCode)(h:k≤y):(Instr.sliceBound (.int kd k) y code).run P w=.ok k w:=by
 have h':(k:Int)≤(y:Int):=by omega
 simp[Instr.sliceBound,asIntOf,h']
theorem Uq(hR:Rel m β H w){tm:PT AV}{a:Act}(R0:∀t,AR β (aw (tm.get t) aD λv=>v) (a.tmps.getD t undef)){t e:TypeId}{sz':Nat}(ht:bt P t=some (e,sz')){x:Operand}{lo hi:Option Operand}
  {alt:ab} (halt:ah P m β H w alt ((do let y <-Instr.sliceAt t (a.eval x) (lo.map a.eval) (hi.map a.eval) none;pure (Next.value y):Sem Next).run P w)):
  ah P m β H w (cR H sz' (ev tm x) (lo.map (ev tm)) (hi.map (ev tm)) alt) ((do let y <-Instr.sliceAt t (a.eval x) (lo.map a.eval) (hi.map a.eval) none;pure (Next.value y):Sem Next).run P w):=by
 obtain⟨hu,hs⟩:=jO ht
 unfold cR;refine JD (bG R0 x) halt λid g off len sz p cap o' _ hp hlen k8 hv hex=>?_;rw[hv];refine ah.nd λl hl=>ah.nd λr hr=>ah.guard λhc=>?_;have h1:sz=sz':=zA3 (ag hc).1;have h2:l≤r:=zA4 (ag (ag hc).2).1;have h3:r≤len:=zA4 (ag (ag hc).2).2;subst h1;have bl:=xh R0 hl;have br:=xh R0 hr;have hb:(Instr.sliceBounds true len cap (lo.map a.eval) (hi.map a.eval) none).run P w=.ok (l,r,cap) w:=by
  cases hi with
  |none=>
   have E3:r=len:=br;cases lo with
   |none=>
    have J7:l=0:=bl;rw[E3,J7];rfl
   |some y=>
    obtain⟨kd,hk⟩:=(bl:∃kd,a.eval y=.int kd l)
    rw[E3];simp only[Instr.sliceBounds,Option.map_some,Option.map_none,hk,Sem.run_bind,Sem.run_pure,Result.andThen_ok,run_sliceBound kd l len _ (by omega)]
  |some z=>
   obtain⟨kd2,R2⟩:=(br:∃kd,a.eval z=.int kd r)
   cases lo with
   |none=>
    have J7:l=0:=bl;rw[J7];simp only[Instr.sliceBounds,Option.map_some,Option.map_none,R2,Sem.run_bind,Sem.run_pure,Result.andThen_ok,run_sliceBound kd2 r cap _ (by omega)]
   |some y=>
    obtain⟨kd,hk⟩:=(bl:∃kd,a.eval y=.int kd l)
    simp only[Instr.sliceBounds,Option.map_some,hk,R2,Sem.run_bind,Sem.run_pure,Result.andThen_ok,run_sliceBound kd2 r cap _ (by omega),run_sliceBound kd l r _ h2]
 have hmul:r*sz≤len*sz:=Nat.mul_le_mul_right _ h3;have U0:(r-l)*sz=r*sz-l*sz:=Nat.sub_mul _ _ _;have hmul2:l*sz≤r*sz:=Nat.mul_le_mul_right _ h2;refine ah.same hR (v:=.slice (some (if cap=l then o' else o'.add (l*sz))) (r-l) (cap-l)) ?_ ⟨p,cap-l,_,hp,?_,?_,rfl,?_⟩
 ·simp only[Instr.sliceAt,Instr.slice,Sem.run_bind,run_underlying hu,Result.andThen_ok,hb,cy hs];by_cases J1:cap=l
  ·simp[J1]
  simp[J1]
 ·show Nat.add off (Nat.mul l sz)+Nat.sub r l*sz≤p.hi;have e1:Nat.add off (Nat.mul l sz)=off+l*sz:=rfl;have e2:Nat.sub r l=r-l:=rfl;rw[e1,e2,U0];omega
 ·show Nat.sub r l≤cap-l;have e2:Nat.sub r l=r-l:=rfl;omega
 by_cases J1:cap=l
 ·exact .inl (by omega)
 rw[zB1 J1];have W2:(cap-l)*sz=cap*sz-l*sz:=Nat.sub_mul _ _ _;have hcm:l*sz≤cap*sz:=Nat.mul_le_mul_right _ (by omega);rcases hex with h|⟨h,h'⟩
 ·omega
 refine .inr ⟨?_,?_⟩
 ·show o'.add (l*sz)=⟨p.b,p.o+(off+l*sz),none⟩;rw[h,re,Nat.add_assoc]
 show p.o+(off+l*sz)+(cap-l)*sz≤p.n;omega
theorem IU(hR:Rel m β H w){x:AV}{v:Value}(hx:AR β x v)(i:Nat):ah P m β H w (bV H x i) ((do let y <-Instr.extract v i;pure (Next.value y):Sem Next).run P w):=by
 cases x with
 |one c=>exact trivial
 |agg l=>exact trivial
 |any => 
  show ah P m β H w (Nat.rec (motive:=λ_=>List (Bool×List AC)->ab) _ _ i []) _;cases i<;>exact trivial
 |tup l=>
  obtain⟨vs,V3,rfl⟩:=hx
  have key:∀(l:List (Bool×List AC))(vs:List Value)(i:Nat),TRs β l vs->∀r:Result Next,(∀u,vs[i]?=some u->r=.ok (.value u) w) ->
    ah P m β H w (bV H (.tup l) i) r:=by
   intro l vs i;induction i generalizing l vs with
   |zero=>
    intro h r hr;cases l with
    |nil=>exact trivial
    |cons c l=>
     cases vs with
     |nil=>exact h.elim
     |cons u us=>
      obtain⟨b,cs⟩:=c
      have h0:=hr u rfl;cases b with
      |true=>exact ah.same hR h0 h.1
      |false=>
       match cs,h.1 with
       |[c],hc=>exact ah.same hR h0 hc
   |succ i ih=>
    intro h r hr;cases l with
    |nil=>exact trivial
    |cons c l=>
     cases vs with
     |nil=>exact h.elim
     |cons u us=>exact ih l us h.2 r (λy hy=>hr y (by simpa using hy))
  refine key l vs i V3 _ λu hu=>?_;simp[Instr.extract,hu]
theorem QN(hR:Rel m β H w){t:TypeId}{f fo:Nat}{ft:TypeId}{n:Nat}{a:Bool}(ht:aE P t f=some (fo,ft,n))(ha:ns P ft=some a){x:AV}{v:Value}(hx:AR β x v):
  ah P m β H w (rJ H fo n a x) ((do let y <-Instr.field t v f;pure (Next.value y):Sem Next).run P w):=by
 obtain⟨fs,fd,hu,hf,rfl,rfl,hn⟩:=Bh ht
 cases x with
 |one c=>exact trivial
 |tup l=>exact trivial
 |any=>exact trivial
 |agg l=>
  obtain⟨vs,V3,rfl⟩:=hx
  cases a with
  |true=>
   show ah P m β H w (aA (Nat.ble (Nat.add fd.offset n) (bq l)) "field - part" (.val (.agg (cut l fd.offset n)) H)) _
   refine ah.guard λhc=>?_;have h1:fd.offset+n≤bq l:=zA4 hc;rw[bj]at h1;refine ah.same hR (v:=.agg ((vs.drop fd.offset).take n).toArray) ?_ ⟨_,?_,rfl⟩
   ·simp[Instr.field,run_underlying hu,hf,asAgg,part,eD ha,cy hn]
   rw[jz];exact(V3.drop _).take _
  |false=>
   show ah P m β H w (nd (Vc fd.offset l) "field - part" λc=>.val (.one c) H) _
   refine ah.nd λc hc=>?_;rw[VZ]at hc;have C0:fd.offset<vs.length:=by rw[V3.length];exact(List.getElem?_eq_some_iff.1 hc).1
   have hv:vs[fd.offset]?=some vs[fd.offset]:=zB4 C0;refine ah.same hR (v:=vs[fd.offset]) ?_ (V3.get _ c _ hc hv);simp[Instr.field,run_underlying hu,hf,asAgg,part,eD ha,C0]
end
end Go.Eng
end
