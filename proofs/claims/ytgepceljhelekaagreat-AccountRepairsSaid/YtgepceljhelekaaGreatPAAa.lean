/- A part of the proof: EngDef, EngRun, EngTree, EngCong, EngRel, EngSteps, EngAbs, EngAbs2, EngOps1, EngOps2, EngOps3. No conditions. -/
import Derived.RangeFuncLeaves
import Derived.OrdersIn
import Derived.WalkKit
set_option maxRecDepth 100000
set_option maxHeartbeats 64000000
set_option linter.all false
noncomputable section
namespace Go
universe u
def zA0 {n m k:Nat} (h:n<m) (g:m<=k):n<k:=Nat.lt_of_lt_of_le h g
def zA1 (n:Nat):n<=n:=Nat.le_refl n
def zA2 {n m k:Nat} (h:n<=m) (g:m<=k):n<=k:=Nat.le_trans h g
def zA3 {n m:Nat} (h:Nat.beq n m=true):n=m:=Nat.eq_of_beq_eq_true h
def zA4 {n m:Nat} (h:Nat.ble n m=true):n<=m:=Nat.le_of_ble_eq_true h
def zA5 {n m:Nat} (h:n<=m):Nat.ble n m=true:=Nat.ble_eq_true_of_le h
def zA6 (n:Nat):n<Nat.succ n:=Nat.lt_succ_self n
def zA7 {n m:Nat} (h:n<=m):n<=Nat.succ m:=Nat.le_succ_of_le h
def zA8:¬false=true:=Bool.false_ne_true
def zB0 {c:Prop} {h:Decidable c} (p:c) {α:Sort u} {t e:α}:ite c t e=t:=if_pos p
def zB1 {c:Prop} {h:Decidable c} (p:¬c) {α:Sort u} {t e:α}:ite c t e=e:=if_neg p
def zB2:¬False:=not_false
def zB3 {a b:Prop} (x:a) (y:b):a/\b:=And.intro x y
def zB4 {α:Type u} {l:List α} {i:Nat} (h:i<l.length):l[i]?=some l[i]:=List.getElem?_eq_getElem h
def zB5 {α:Type u} [BEq α] [LawfulBEq α] {a b:α} (h:a≠b):(a==b)=false:=beq_false_of_ne h
def zC0 (i:Nat) (h:(i:Int)+1<=9223372036854775807):IntKind.i64.wrap ((i:Int)+1)=((i+1:Nat):Int):=by rw[IntKind.wrap_i64];omega
def zC1 {α:Type u} {i:Nat} {l:List α} (h:i<l.length):l.drop i=l[i]::l.drop (i+1):=List.drop_eq_getElem_cons h
def zC2 {α:Type u} {i:Nat} {l:List α} (h:i<l.length):l.take (i+1)=l.take i++[l[i]]:=List.take_succ_eq_append_getElem h
def zDd {a0 a1 a2:Prop} (x0:a0) (x1:a1) (x2:a2):a0/\a1/\a2:=⟨x0,x1,x2⟩
def zDe {a0 a1 a2 a3:Prop} (x0:a0) (x1:a1) (x2:a2) (x3:a3):a0/\a1/\a2/\a3:=⟨x0,x1,x2,x3⟩
def zDf {a0 a1 a2 a3 a4:Prop} (x0:a0) (x1:a1) (x2:a2) (x3:a3) (x4:a4):a0/\a1/\a2/\a3/\a4:=⟨x0,x1,x2,x3,x4⟩
def zDg {a0 a1 a2 a3 a4 a5:Prop} (x0:a0) (x1:a1) (x2:a2) (x3:a3) (x4:a4) (x5:a5):a0/\a1/\a2/\a3/\a4/\a5:=⟨x0,x1,x2,x3,x4,x5⟩
def zDh {a0 a1 a2 a3 a4 a5 a6:Prop} (x0:a0) (x1:a1) (x2:a2) (x3:a3) (x4:a4) (x5:a5) (x6:a6):a0/\a1/\a2/\a3/\a4/\a5/\a6:=⟨x0,x1,x2,x3,x4,x5,x6⟩
def zDi {a0 a1 a2 a3 a4 a5 a6 a7:Prop} (x0:a0) (x1:a1) (x2:a2) (x3:a3) (x4:a4) (x5:a5) (x6:a6) (x7:a7):a0/\a1/\a2/\a3/\a4/\a5/\a6/\a7:=⟨x0,x1,x2,x3,x4,x5,x6,x7⟩
def zDj {a0 a1 a2 a3 a4 a5 a6 a7 a8:Prop} (x0:a0) (x1:a1) (x2:a2) (x3:a3) (x4:a4) (x5:a5) (x6:a6) (x7:a7) (x8:a8):a0/\a1/\a2/\a3/\a4/\a5/\a6/\a7/\a8:=⟨x0,x1,x2,x3,x4,x5,x6,x7,x8⟩
def zDk {a0 a1 a2 a3 a4 a5 a6 a7 a8 a9:Prop} (x0:a0) (x1:a1) (x2:a2) (x3:a3) (x4:a4) (x5:a5) (x6:a6) (x7:a7) (x8:a8) (x9:a9):a0/\a1/\a2/\a3/\a4/\a5/\a6/\a7/\a8/\a9:=⟨x0,x1,x2,x3,x4,x5,x6,x7,x8,x9⟩
def zDl {a0 a1 a2 a3 a4 a5 a6 a7 a8 a9 a10:Prop} (x0:a0) (x1:a1) (x2:a2) (x3:a3) (x4:a4) (x5:a5) (x6:a6) (x7:a7) (x8:a8) (x9:a9) (x10:a10):a0/\a1/\a2/\a3/\a4/\a5/\a6/\a7/\a8/\a9/\a10:=⟨x0,x1,x2,x3,x4,x5,x6,x7,x8,x9,x10⟩
def zDm {a0 a1 a2 a3 a4 a5 a6 a7 a8 a9 a10 a11:Prop} (x0:a0) (x1:a1) (x2:a2) (x3:a3) (x4:a4) (x5:a5) (x6:a6) (x7:a7) (x8:a8) (x9:a9) (x10:a10) (x11:a11):a0/\a1/\a2/\a3/\a4/\a5/\a6/\a7/\a8/\a9/\a10/\a11:=⟨x0,x1,x2,x3,x4,x5,x6,x7,x8,x9,x10,x11⟩
end Go
namespace Go
universe u v w
def ab:=@if_neg.{u}
def ad:=@if_pos.{u}
def ai:=@Nat.le_refl
def ax:=@Nat.lt_of_lt_of_le
def aE:=@not_false
def aA:=@List.getElem?_eq_getElem.{u}
def aS:=@Nat.le_trans
def aT:=@List.mem_cons_self.{u}
def aV:=@Bool.and_eq_true
def aF:=@beq_false_of_ne.{u}
def aI:=@List.length_append.{u}
def aO:=@Nat.eq_of_beq_eq_true
def aR:=@List.mem_cons_of_mem.{u}
def bh:=@eq_false
def ba:=@Nat.lt_succ_self
def bp:=@decide_eq_true
def bt:=@List.getD_eq_getElem?_getD.{u}
def jr:=@beq_iff_eq.{u}
def bA:=@Nat.le_of_ble_eq_true
def bH:=@eq_true
def bI:=@decide_eq_true_eq
def bJ:=@decide_eq_false
def bL:=@List.append_assoc.{u}
def iU:=@List.mem_append.{u}
def bU:=@Nat.ble_eq_true_of_le
def bW:=@List.getElem_mem.{u}
def cr:=@Nat.mul_one
def ct:=@List.drop_length.{u}
def cK:=@List.take_succ_eq_append_getElem.{u}
def cL:=@Nat.lt_or_ge
def cP:=@List.length_map.{u,v}
def cZ:=@Nat.beq_refl
def dk:=@beq_self_eq_true.{u}
def du:=@List.mem_append_right.{u}
def dC:=@List.mem_append_left.{u}
def CD:=@List.mem_range
def dM:=@List.length_take.{u}
def eh:=@Option.some.inj.{u}
def fl:=@List.length_set.{u}
def fL:=@Classical.byContradiction
def ga:=@Nat.sub_self
def om:=@List.all_eq_true.{u}
def gN:=@List.mem_of_getElem?.{u}
def iw:=@List.getElem?_append_left.{u}
def ix:=@Bool.eq_iff_iff
def iy:=@List.take_of_length_le.{u}
def iz:=@List.nil_append.{u}
def iV:=@List.getElem?_drop.{u}
def iW:=@List.length_drop.{u}
def iX:=@List.flatMap_append.{u,v}
def iY:=@List.getElem?_eq_none.{u}
def iZ:=@Bool.or_eq_true
def js:=@List.drop_drop.{u}
def HW:=@List.pairwise_append.{u}
def jL:=@Int.eq_ofNat_of_zero_le
def lD:=@Nat.mul_le_mul_right
def lE:=@List.getElem?_append_right.{u}
def lF:=@Nat.add_mul
def lG:=@Int.one_mul
def lH:=@List.cons.inj.{u}
def mW:=@List.getElem?_take.{u}
def mX:=@Nat.add_assoc
def mY:=@Nat.le_of_lt
def mZ:=@Nat.le_of_eq
def oo:=@Array.getElem?_toList.{u}
def ot:=@Int.le_refl
def ow:=@Int.neg_mul
def pU:=@List.drop_of_length_le.{u}
def pV:=@List.getElem?_map.{u,v}
def pW:=@Nat.succ_mul
def pX:=@of_decide_eq_true
def pY:=@Nat.le_max_right
def pZ:=@List.take_length.{u}
def xP:=@List.mem_filter.{u}
def qf:=@decide_eq_false_iff_not
def sx:=@Array.getElem?_eq_getElem.{u}
def sy:=@Nat.le_max_left
def sA:=@List.size_toArray.{u}
def sB:=@Nat.eq_zero_or_pos
def sC:=@Int.mul_le_mul
def sD:=@List.Nodup.length_le_of_subset.{u}
def HX:=@beq_eq_false_iff_ne.{u}
def sE:=@UInt8.le_iff_toNat_le
def sF:=@List.take_append_drop.{u}
def uM:=@Int.toNat_natCast
def uN:=@Nat.succ_pos
def uO:=@Array.length_toList.{u}
def NA:=@Classical.not_not
def uP:=@List.length_replicate.{u}
def uQ:=@List.all_append.{u}
def uR:=@Prod.mk.inj.{u,v}
def uS:=@Array.getD_eq_getD_getElem?.{u}
def xQ:=@List.append_cancel_right.{u}
def tu:=@Nat.ble_eq
def tv:=@List.getElem?_take_of_lt.{u}
def tw:=@List.take_append_of_le_length.{u}
def tx:=@Nat.lt_succ_of_lt
def tz:=@Option.elim_some.{u,v}
def tC:=@Nat.le_succ_of_le
def tD:=@List.Pairwise.imp_of_mem.{u}
def tE:=@List.cons.injEq.{u}
def tF:=@Bool.or_eq_false_iff
def tG:=@Bool.not_eq_true'
def tH:=@Nat.beq_eq
def tI:=@Option.some.injEq.{u}
def wU:=@List.getElem?_of_mem.{u}
def wV:=@Array.ext'.{u}
def wW:=@Nat.min_eq_left
def wX:=@List.length_range
def wY:=@Nat.lt_trans
def wZ:=@Int.mul_le_mul_of_nonneg_left
def xa:=@List.filter_append.{u}
def xb:=@List.any_eq_false.{u}
def xc:=@List.eq_nil_iff_forall_not_mem.{u}
def Ac:=@Nat.mul_comm
def Ad:=@List.getElem?_toArray.{u}
def Ae:=@getElem!_pos.{u,v,w}
def Af:=@List.Perm.refl.{u}
def Ag:=@List.cons_append.{u}
def Ah:=@Option.getD_some.{u}
def Ai:=@Array.size_setIfInBounds.{u}
def Aj:=@List.drop_append.{u}
def Ak:=@List.getLast?_eq_getElem?.{u}
def Am:=@List.take_left'.{u}
def An:=@Int.ofNat_eq_natCast
def HI:=@Array.getElem?_push_size.{u}
def HJ:=@Array.getElem?_append_left.{u}
def HK:=@Array.toList_setIfInBounds.{u}
def HL:=@List.getElem?_set_ne.{u}
def HM:=@Option.elim_none.{u,v}
def HN:=@List.drop_eq_nil_of_le.{u}
def HO:=@List.getElem?_set.{u}
def HP:=@bne_self_eq_false.{u}
def HQ:=@Bool.and_eq_false_iff
def HR:=@Bool.not_eq_false
def HT:=@List.mem_of_mem_drop.{u}
def HU:=@Bool.not_eq_true
def HV:=@Array.toArray_toList.{u}
def ae{p:Prop}(h:p:=by kernel_rfl):p:=h
def aa{p:Prop}(h:p:=by omega):p:=h
def aU{p:Prop}(h:p:=by decide):p:=h
def dI{α:Type}(a:α):∃q,q=a:=⟨_,rfl⟩
def cB(x:Int)(h:-9223372036854775808<=x:=by omega)(g:x<=9223372036854775807:=by omega):IntKind.i64.wrap x=x:=by rw[IntKind.wrap_i64];omega
def bB(i:Nat)(h:(i:Int)+1<=9223372036854775807:=by omega):IntKind.i64.wrap ((i:Int)+1)=((i+1:Nat):Int):=by rw[IntKind.wrap_i64];omega
end Go
namespace Go.Eng
open Go
def aG{α β:Type}(o:Option α)(e:β)(f:α->β):β:=Option.rec (motive:=λ_=>β) e f o
def ifE{β:Type}(b:Bool)(x y:β):β:=Bool.rec (motive:=λ_=>β) y x b
def both(a b:Bool):Bool:=Bool.rec (motive:=λ_=>Bool) false b a
inductive PT(α:Type)where
 |leaf:PT α
 |node:PT α->Option α->PT α->PT α
def PT.get{α:Type}(t:PT α):Nat->Option α:=
 PT.rec (motive:=λ_=>Nat->Option α) (λ_=>none)
  (λ_ v _ gl gr n=>Nat.rec (motive:=λ_=>Option α) v
   (λk _=>Bool.rec (motive:=λ_=>Option α) (gr (Nat.div k 2)) (gl (Nat.div k 2)) (Nat.beq (Nat.mod k 2) 0)) n) t
def PT.mk{α:Type}(a:Option α)(f:Nat):Nat->PT α:=
 Nat.rec (motive:=λ_=>Nat->PT α) (λ_=>.node .leaf a .leaf)
  (λ_ ih n=>Nat.rec (motive:=λ_=>PT α) (.node .leaf a .leaf)
   (λk _=>Bool.rec (motive:=λ_=>PT α) (.node .leaf none (ih (Nat.div k 2))) (.node (ih (Nat.div k 2)) none .leaf) (Nat.beq (Nat.mod k 2) 0)) n) f
def PT.put{α:Type}(a:Option α)(t:PT α):Nat->PT α:=
 PT.rec (motive:=λ_=>Nat->PT α) (λn=>PT.mk a n n)
  (λl v r sl sr n=>Nat.rec (motive:=λ_=>PT α) (.node l a r)
   (λk _=>Bool.rec (motive:=λ_=>PT α) (.node l v (sr (Nat.div k 2))) (.node (sl (Nat.div k 2)) v r) (Nat.beq (Nat.mod k 2) 0)) n) t
def PT.set{α:Type}(t:PT α)(n:Nat)(a:α):PT α:=PT.put (some a) t n
def PT.del{α:Type}(t:PT α)(n:Nat):PT α:=PT.put none t n
inductive AO where
 |p (v:Value)
 |str (s:List UInt8)
 |nilP
 |nilS
 |nilM
 |wv
 |ptr (id gen off lim:Nat)
 |sl (id gen off len sz:Nat)
 |mp (id:Nat)
 |clo (f:FuncId) (caps:List (Nat×Nat×Nat×Nat))
 |yl (id:Nat)
 |it (id:Nat)
inductive AC where
 |b (x:Bool)
 |i (k:IntKind) (n:Int)
 |o (x:AO)
inductive AV where
 |one (c:AC)
 |agg (l:List AC)
 |tup (l:List (Bool×List AC))
 |any
def avE{β:Type}(v:AV)(f:AC->β)(g:List AC->β)(h:List (Bool×List AC)->β):β:=AV.rec (motive:=λ_=>β) f g h (h []) v
def acE{β:Type}(c:AC)(f:Bool->β)(g:IntKind->Int->β)(h:AO->β):β:=AC.rec (motive:=λ_=>β) f g h c
def gj{β:Type}(v:AV)(e:β)(f:Bool->β):β:=avE v (λc=>acE c f (λ_ _=>e) (λ_=>e)) (λ_=>e) (λ_=>e)
def gW{β:Type}(v:AV)(e:β)(f:IntKind->Int->β):β:=avE v (λc=>acE c (λ_=>e) f (λ_=>e)) (λ_=>e) (λ_=>e)
def RO{β:Type}(v:AV)(e:β)(f:AO->β):β:=avE v (λc=>acE c (λ_=>e) (λ_ _=>e) f) (λ_=>e) (λ_=>e)
def xF{β:Type}(v:AV)(e:β)(f:Nat->Nat->Nat->Nat->β):β:=
 RO v e λx=>AO.rec (motive:=λ_=>β) (λ_=>e) (λ_=>e) e e e e f (λ_ _ _ _ _=>e) (λ_=>e) (λ_ _=>e) (λ_=>e) (λ_=>e) x
def slE{β:Type}(v:AV)(e:β)(f:Nat->Nat->Nat->Nat->Nat->β):β:=
 RO v e λx=>AO.rec (motive:=λ_=>β) (λ_=>e) (λ_=>e) e e e e (λ_ _ _ _=>e) f (λ_=>e) (λ_ _=>e) (λ_=>e) (λ_=>e) x
structure cC where
 key:AV
 val:AV
 born:Nat
inductive CK where
 |map (es:List cC) (clock:Nat)
 |iter (m:Option Nat) (since:Nat) (seen:List Nat) (stepped:Nat)
 |loop (state:LoopState) (pending:Option Code) (tm:PT AV) (nt:Nat) (params:List Tmp) (assign body:Code) (defers:Nat)
 |dfr (open_:Bool)
 |fmap (l:List (Int×AV))
 |lost
inductive aX where
 |arr (cells:List AC) (elem:TypeId) (lo gen:Nat)
 |oth (x:CK)
 |ro (cells:List AC)
structure Hp where
 t:PT aX
 nx:Nat
 log:List Nat
def Hp.get(h:Hp)(i:Nat):Option aX:=h.t.get i
def Hp.new(h:Hp)(o:aX):Hp:=⟨h.t.set h.nx o,Nat.add h.nx 1,h.log⟩
def Hp.mod(h:Hp)(i:Nat)(o:aX):Hp:=⟨h.t.set i o,h.nx,i::h.log⟩
def qN{β:Type}(o:Option aX)(e:β)(f:List AC->TypeId->Nat->Nat->β):β:=
 Option.rec (motive:=λ_=>β) e (λx=>aX.rec (motive:=λ_=>β) f (λ_=>e) (λ_=>e) x) o
inductive R(α:Type)where
 |ok (l:List α)
 |bad (why:String)
def AB{α:Type}(x y:R α):R α:=
 R.rec (motive:=λ_=>R α) (λa=>R.rec (motive:=λ_=>R α) (λb=>.ok (a++b)) (λs=>.bad s) y) (λs=>.bad s) x
def dO{α β:Type}(f:α->R β)(l:List α):R β:=
 List.rec (motive:=λ_=>R β) (.bad "no way") (λx l' ih=>List.rec (motive:=λ_=>R β) (f x) (λ_ _ _=>AB (f x) ih) l') l
def R.bind{α β:Type}(r:R α)(f:α->R β):R β:=R.rec (motive:=λ_=>R β) (λl=>dO f l) (λs=>.bad s) r
def aQ:AV:=.tup []
def AV.cells(v:AV):List AC:=avE v (λc=>[c]) (λl=>l) (λ_=>[])
def AV.cE(v:AV):Bool:=avE v (λ_=>true) (λ_=>true) (λ_=>false)
def cOf:Value->AC
 |.bool b=>.b b
 |.int k n=>.i k n
 |.string s=>.o (.str s.data.toList)
 |.pointer none=>.o .nilP
 |.slice none 0 0=>.o .nilS
 |.map none=>.o .nilM
 |.nilFunc=>.o .wv
 |v=>.o (.p v)
def ofValue:Value->AV
 |.agg cs=>.agg (cs.toList.map cOf)
 |.tuple vs=>.tup (vs.toList.map λv=>match v with|.agg cs=>(true,cs.toList.map cOf)|v=>(false,[cOf v]))
 |v=>.one (cOf v)
def okV:Value->Bool
 |.agg cs=>cs.toList.all Value.oneCell'
 |.tuple vs=>vs.toList.isEmpty
 |_=>true
def AC.val?:AC->Option Value
 |.b x=>some (.bool x)
 |.i k n=>some (.int k n)
 |.o (.p v)=>some v
 |.o (.str s)=>some (.string ⟨s.toArray⟩)
 |.o .nilP=>some (.pointer none)
 |.o .nilS=>some (.slice none 0 0)
 |.o .nilM=>some (.map none)
 |.o .wv=>some .nilFunc
 |_=>none
def bQ:List AC->Option (List Value)
 |[]=>some []
 |c::l=>
  match c.val?,bQ l with
  |some v,some vs=>some (v::vs)
  |_,_=>none
def AV.val?:AV->Option Value
 |.one c=>c.val?
 |.agg l=>match bQ l with|some vs=>some (.agg vs.toArray)|none=>none
 |.tup []=>some (.tuple #[])
 |_=>none
inductive OpF where
 |slot (t:Tmp)
 |cst (v:AV)
def opF:Operand->OpF
 |.tmp t=>.slot t
 |.const v=>.cst (bif okV v then ofValue v else .any)
 |.global _=>.cst .any
 |.func f=>.cst (.one (.o (.clo f [])))
def OpF.ev(x:OpF)(tm:PT AV):AV:=OpF.rec (motive:=λ_=>AV) (λt=>aG (tm.get t) aQ λv=>v) (λv=>v) x
def ev(tm:PT AV)(x:Operand):AV:=(opF x).ev tm
def aH{α:Type}(P:Program):Sem α->Option α
 |.pure a=>some a
 |.program k=>aH P (k P)
 |.mark _ k=>aH P k
 |_=>none
def xx(P:Program)(t:TypeId):Option Bool:=
 match P.underlying t with
 |some (.struct _)=>some true
 |some (.array _ _)=>some true
 |some _=>some false
 |none=>none
def cM(P:Program)(t:TypeId):Option Nat:=match P.info? t with|some i=>some i.size|none=>none
def dB(P:Program)(t:TypeId):Option Nat:=match P.info? t with|some i=>some i.bytes|none=>none
def aW(P:Program)(t:TypeId):Option Value:=
 match P.info? t with
 |some i=>
  match i.zero with
  |some z=>match z with|.tuple _=>none|z=>bif okV z then some z else none
  |none=>none
 |none=>none
def xJ(P:Program)(t:TypeId):Option TypeId:=match P.underlying t with|some (.slice e)=>some e|_=>none
def bG(P:Program)(s:TypeId)(f:Nat):Option (Nat×TypeId×Nat):=
 match P.underlying s with
 |some (.struct fs)=>
  match fs[f]? with
  |some fd=>
   match cM P fd.type with
   |some n=>some (fd.offset,fd.type,n)
   |none=>none
  |none=>none
 |_=>none
def kg(P:Program)(t:TypeId):Option (TypeId×TypeId):=match P.underlying t with|some (.map k e)=>some (k,e)|_=>none
def loadT(P:Program)(t:TypeId):Option (Bool×Nat):=
 match xx P t,cM P t with
 |some a,some n=>some (a,n)
 |_,_=>none
def cG(P:Program)(t:TypeId):Option (TypeId×Nat):=
 match xJ P t with
 |some e=>match cM P e with|some n=>some (e,n)|none=>none
 |none=>none
def cA(l:List AC):Nat:=List.rec (motive:=λ_=>Nat) 0 (λ_ _ ih=>Nat.add ih 1) l
def IV(n:Nat):List AC->List AC:=
 Nat.rec (motive:=λ_=>List AC->List AC) (λl=>l) (λ_ ih l=>List.rec (motive:=λ_=>List AC) [] (λ_ l' _=>ih l') l) n
def Qj(n:Nat):List AC->List AC:=
 Nat.rec (motive:=λ_=>List AC->List AC) (λ_=>[]) (λ_ ih l=>List.rec (motive:=λ_=>List AC) [] (λx l' _=>x::ih l') l) n
def qu(l m:List AC):List AC:=List.rec (motive:=λ_=>List AC) m (λx _ ih=>x::ih) l
def cut(l:List AC)(off n:Nat):List AC:=Qj n (IV off l)
def iT(l:List AC)(off:Nat)(c:List AC):List AC:=qu (Qj off l) (qu c (IV (Nat.add off (cA c)) l))
inductive au where
 |normal
 |exit (id:Nat)
 |ret
inductive ah where
 |val (v:AV) (h:Hp)
 |tN (l:List (AV×Hp))
 |enter (f:FuncId) (args:List AV)
 |round (id:Nat) (args:List AV)
 |bad (why:String)
def nd{α:Type}(o:Option α)(why:String)(f:α->ah):ah:=Option.rec (motive:=λ_=>ah) (.bad why) f o
def aN(b:Bool)(why:String)(n:ah):ah:=Bool.rec (motive:=λ_=>ah) (.bad why) n b
def rdO(o:Option aX)(g off lim n:Nat):Option (List AC):=
 Option.rec (motive:=λ_=>Option (List AC)) none (λx=>aX.rec (motive:=λ_=>Option (List AC))
  (λcells _ lo gen=>ifE (both (Nat.ble lo g) (both (Nat.ble g gen) (both (Nat.ble n lim) (Nat.ble (Nat.add off n) (cA cells))))) (some (cut cells off n)) none) (λ_=>none)
  (λcells=>ifE (both (Nat.beq g 0) (both (Nat.ble n lim) (Nat.ble (Nat.add off n) (cA cells)))) (some (cut cells off n)) none) x) o
def iS(h:Hp)(id g off lim n:Nat):Option (List AC):=rdO (h.get id) g off lim n
def eu(h:Hp)(a:Bool)(n:Nat)(v:AV):ah:=
 xF v (.bad "load - no pointer") λid g off lim=>nd (iS h id g off lim n) "load - cells" λc=>ifE a (.val (.agg c) h) (List.rec (motive:=λ_=>ah) (.bad "load - no cell") (λx _ _=>.val (.one x) h) c)
def lR(h:Hp)(n:Nat)(x v:AV):ah:=
 xF v (.bad "store - no pointer") λid g off lim=>
  qN (h.get id) (.bad "store - no row") λcells e lo gen=>
   aN (both (Nat.beq g gen) (both (Nat.beq (cA x.cells) n) (both (Nat.ble n lim) (both (Nat.ble (Nat.add off n) (cA cells)) (both (Nat.ble lo gen) x.cE))))) "store - stale or of another size"
    (.val aQ (h.mod id (.arr (iT cells off x.cells) e gen gen)))
def oe(h:Hp)(cells:List AC)(e:TypeId):ah:=
 .val (.one (.o (.ptr h.nx 0 0 (cA cells)))) (h.new (.arr cells e 0 0))
def nq(z:List AC)(n:Nat):List AC:=Nat.rec (motive:=λ_=>List AC) [] (λ_ ih=>qu z ih) n
def BT:Int->Option Nat
 |.ofNat n=>some n
 |.negSucc _=>none
def Gd(v:Option AV)(d:Nat):Option Nat:=aG v (some d) λv=>gW v none λ_ n=>BT n
def dE(P:Program)(t:TypeId):Nat:=
 match P.underlying t with
 |some (.pointer _)=>0
 |some (.slice _)=>1
 |some (.map _ _)=>2
 |some (.func _ _ _)=>3
 |_=>4
def BE:AO->Nat
 |.nilP=>0
 |.nilS=>1
 |.nilM=>2
 |.wv=>3
 |_=>5
def BD:AO->Nat
 |.ptr ..=>0
 |.sl ..=>1
 |.mp _=>2
 |.clo ..=>3
 |_=>5
def Pt(k:Nat):AV->AV->Option Bool
 |.one (.o a),.one (.o b)=>bif Nat.blt k 4&&((Nat.beq (BD a) k&&Nat.beq (BE b) k)||(Nat.beq (BE a) k&&Nat.beq (BD b) k))then some false else none
 |_,_=>none
def Mv:IntKind->Nat
 |.i8=>0|.i16=>1|.i32=>2|.i64=>3|.u8=>4|.u16=>5|.u32=>6|.u64=>7
def sameKind(a b:IntKind):Bool:=Nat.beq (Mv a) (Mv b)
def iE{β:Type}(a:Int)(f g:Nat->β):β:=Int.rec (motive:=λ_=>β) f g a
def iLe(a b:Int):Bool:=iE a (λm=>iE b (λn=>Nat.ble m n) (λ_=>false)) (λm=>iE b (λ_=>true) (λn=>Nat.ble n m))
def iEq(a b:Int):Bool:=iE a (λm=>iE b (λn=>Nat.beq m n) (λ_=>false)) (λm=>iE b (λ_=>false) (λn=>Nat.beq m n))
def wS(k:IntKind)(n:Int):Int:=
 ifE (Nat.beq (Mv k) 3) (iE n (λm=>ifE (Nat.ble 9223372036854775808 m) (k.wrap n) n) (λm=>ifE (Nat.ble 9223372036854775808 m) (k.wrap n) n)) (k.wrap n)
inductive BF where
 |i (f:IntKind->Int->Int->Int)
 |b (f:Int->Int->Bool)
 |no
def gV(op:BinOp):BF:=
 match op with
 |.add=>.i λk a b=>wS k (Int.add a b)
 |.sub=>.i λk a b=>wS k (Int.sub a b)
 |.mul=>.i λk a b=>wS k (Int.mul a b)
 |.eql=>.b iEq
 |.neq=>.b λa b=>!iEq a b
 |.lss=>.b λa b=>!iLe b a
 |.leq=>.b iLe
 |.gtr=>.b λa b=>!iLe a b
 |.geq=>.b λa b=>iLe b a
 |_=>.no
def bEq(a b:UInt8):Bool:=Nat.beq a.toNat b.toNat
def lEq(x:List UInt8):List UInt8->Bool:=
 List.rec (motive:=λ_=>List UInt8->Bool) (λy=>List.rec (motive:=λ_=>Bool) true (λ_ _ _=>false) y)
  (λa _ ih y=>List.rec (motive:=λ_=>Bool) false (λb y' _=>both (bEq a b) (ih y')) y) x
def EB(x:List UInt8):List UInt8->Bool:=
 List.rec (motive:=λ_=>List UInt8->Bool) (λy=>List.rec (motive:=λ_=>Bool) false (λ_ _ _=>true) y)
  (λa _ ih y=>List.rec (motive:=λ_=>Bool) false (λb y' _=>ifE (Nat.blt a.toNat b.toNat) true (both (bEq a b) (ih y'))) y) x
def acB(op:BinOp):Option (List UInt8->List UInt8->Bool):=
 match op with
 |.eql=>some lEq
 |.neq=>some λa b=>!lEq a b
 |.lss=>some EB
 |.leq=>some λa b=>EB a b||lEq a b
 |.gtr=>some λa b=>!(EB a b||lEq a b)
 |.geq=>some λa b=>!EB a b
 |_=>none
def lC{β:Type}(v:AV)(e:β)(f:List UInt8->β):β:=
 RO v e λx=>AO.rec (motive:=λ_=>β) (λ_=>e) f e e e e (λ_ _ _ _=>e) (λ_ _ _ _ _=>e) (λ_=>e) (λ_ _=>e) (λ_=>e) (λ_=>e) x
def bY(P:Program)(kt:TypeId):Nat:=
 match P.underlying kt with
 |some .string=>0
 |some (.int _)=>1
 |some .bool=>3
 |some _=>2
 |none=>3
def lM(P:Program)(kt:TypeId)(a b:AV):Option Bool:=
 Nat.rec (motive:=λ_=>Option Bool) (lC a none λx=>lC b none λy=>some (lEq x y))
  (λk _=>Nat.rec (motive:=λ_=>Option Bool) (gW a none λk x=>gW b none λk' y=>ifE (sameKind k k') (some (iEq x y)) none)
   (λk _=>Nat.rec (motive:=λ_=>Option Bool) (aG a.val? none λx=>aG b.val? none λy=>aH P (Op.equal kt x y)) (λ_ _=>none) k) k) (bY P kt)
def mI(P:Program)(kt:TypeId)(k:AV)(l:List cC):Option (Option cC):=
 List.rec (motive:=λ_=>Option (Option cC)) (some none) (λe _ ih=>aG (lM P kt k e.key) none λb=>ifE b (some (some e)) ih) l
def jw(P:Program)(empty:Bool)(kt:TypeId)(k:AV):Option Unit:=
 Nat.rec (motive:=λ_=>Option Unit) (lC k none λ_=>some ())
  (λn _=>Nat.rec (motive:=λ_=>Option Unit) (gW k none λ_ _=>some ())
   (λn _=>Nat.rec (motive:=λ_=>Option Unit) (aG k.val? none λv=>aH P (Instr.checkKey empty 10000 kt v)) (λ_ _=>none) n) n) (bY P kt)
def sameKey(P:Program)(kt:TypeId)(a b:AV):Bool:=
 Nat.rec (motive:=λ_=>Bool) (lC a false λx=>lC b false λy=>lEq x y)
  (λn _=>Nat.rec (motive:=λ_=>Bool) (gW a false λk x=>gW b false λk' y=>both (sameKind k k') (iEq x y))
   (λ_ _=>aG a.val? false λx=>aG b.val? false λy=>Instr.sameBits 10000 x y) n) (bY P kt)
def se(P:Program)(kt:TypeId)(k x:AV)(l:List cC):Option (Bool×List cC):=
 List.rec (motive:=λ_=>Option (Bool×List cC)) (some (false,[]))
  (λe es ih=>aG (lM P kt k e.key) none λb=>ifE b (ifE (sameKey P kt e.key k) (some (true,⟨k,x,e.born⟩::es)) none) (aG ih none λr=>some (r.1,e::r.2))) l
def QO:AV->Bool×List AC
 |.one a=>(false,[a])
 |.agg l=>(true,l)
 |.tup _=>(false,[])
 |.any=>(false,[])
def VX(k v:AV):AV:=.tup [QO k,QO v]
def sv(k v:AV):AV:=.tup [(false,[.b true]),QO k,QO v]
def bO(h:Hp)(ok:Bool)(v:AV)(b:Bool):ah:=
 match ok with
 |false=>.val v h
 |true=>aN v.cE "lookup - tuple" (.val (.tup [QO v,(false,[.b b])]) h)
def fq(n:Int):List (Int×AV)->Option AV
 |[]=>none
 |x::l=>if n=x.1 then some x.2 else fq n l
def rS(P:Program)(h:Hp)(kt:TypeId)(z k:AV)(ok:Bool)(l:List (Int×AV)):ah:=
 aN (Nat.beq (bY P kt) 1) "lookup - key" (gW k (.bad "lookup - key") λkd n=>aN (sameKind kd .i64) "lookup - key" (aG (fq n l) (bO h ok z false) λv=>bO h ok v true))
def bR(P:Program)(h:Hp)(kt:TypeId)(z:AV)(m k:AV)(ok:Bool):ah:=
 match m with
 |.one (.o .nilM)=>nd (jw P true kt k) "lookup - key" λ_=>bO h ok z false
 |.one (.o (.mp id))=>
  match h.get id with
  |some (.oth (.map es _))=>nd (jw P es.isEmpty kt k) "lookup - key" λ_=>
   match mI P kt k es with
   |some (some e)=>bO h ok e.val true
   |some none=>bO h ok z false
   |none=>.bad "lookup - keys"
  |some (.oth (.fmap l))=>rS P h kt z k ok l
  |_=>.bad "lookup - no map"
 |_=>.bad "lookup - not a map"
def bE(P:Program)(h:Hp)(kt:TypeId)(m k x:AV):ah:=
 match m with
 |.one (.o (.mp id))=>
  match h.get id with
  |some (.oth (.map es clock))=>nd (jw P false kt k) "mapUpdate - key" λ_=>aN (both k.cE x.cE) "mapUpdate - tuple" <| nd (se P kt k x es) "mapUpdate - keys" λr=>ifE r.1 (.val aQ (h.mod id (.oth (.map r.2 clock)))) (.val aQ (h.mod id (.oth (.map (es++[⟨k,x,clock⟩]) (Nat.add clock 1)))))
  |_=>.bad "mapUpdate - no map"
 |_=>.bad "mapUpdate - nil or not a map"
def qq:AV:=.tup [(false,[.b false])]
def ib(h:Hp):AV->ah
 |.one (.o (.it r))=>
  match h.get r with
  |some (.oth (.iter none _ _ _))=>.val qq h
  |some (.oth (.iter (some m) since seen last))=>
   match h.get m with
   |some (.oth (.map es clock))=>
    aN (!(!seen.isEmpty&&!es.isEmpty&&es.all (λe=>Nat.ble last e.born))) "next - all gone" <|
     match es.filter (λe=>!seen.contains e.born)with
     |[]=>.val qq h
     |e::l=>
      aN ((e::l).all λe=>Nat.blt e.born since) "next - new entries"
       (.tN ((e::l).map λe=>(sv e.key e.val,h.mod r (.oth (.iter (some m) since (seen++[e.born]) clock)))))
   |_=>.bad "next - no map"
  |_=>.bad "next - no iterator"
 |_=>.bad "next - not an iterator"
def kD(h:Hp):AV->ah
 |.one (.o (.it r))=>
  match h.get r with
  |some (.oth (.iter (some m) _ seen stepped))=>
   match h.get m with
   |some (.oth (.map es clock))=>
    match seen.getLast? with
    |some st=>
     aN (Nat.beq clock stepped) "entry - clock" <|
      match es.find? (λe=>Nat.beq e.born st)with
      |some e=>.val (VX e.key e.val) h
      |none=>.bad "entry - gone"
    |none=>.bad "entry - no step"
   |_=>.bad "entry - no map"
  |_=>.bad "entry - no iterator"
 |_=>.bad "entry - not an iterator"
def lO(h:Hp)(sz:Nat):AV->Option (Nat×List AC)
 |.one (.o (.sl id g off len sz'))=>
  match Nat.beq sz' sz,iS h id g off (Nat.mul len sz) (Nat.mul len sz)with
  |true,some c=>some (len,c)
  |_,_=>none
 |.one (.o .nilS)=>some (0,[])
 |_=>none
def fC(h:Hp)(e sz by_:Nat)(n:Nat)(c:List AC)(s:AV):ah:=
 match s with
 |.one (.o .nilS)=>
  ifE (Nat.beq n 0) (.val s h)
   (aN (both (Nat.ble n 140737488355328) (Nat.ble (Nat.mul n by_) 140737488355328)) "append - too much"
    (.val (.one (.o (.sl h.nx 0 0 n sz))) (h.new (.arr c e 0 0))))
 |.one (.o (.sl id g off len sz'))=>
  qN (h.get id) (.bad "append - no row") λcells e' lo gen=>
   aN (both (Nat.beq sz' sz) (both (Nat.beq e' e) (both (Nat.ble lo g) (both (Nat.ble g gen) (both (Nat.ble (Nat.add off (Nat.mul len sz)) (cA cells))
     (both (Nat.ble (Nat.add len n) 140737488355328) (Nat.ble (Nat.mul (Nat.add len n) by_) 140737488355328))))))) "append - stale or too much"
    (ifE (Nat.beq n 0) (.val s h)
     (ifE (both (Nat.beq g gen) (both (Nat.beq off 0) (Nat.beq (Nat.mul len sz) (cA cells))))
      (.val (.one (.o (.sl id (Nat.add gen 1) 0 (Nat.add len n) sz))) (h.mod id (.arr (qu cells c) e lo (Nat.add gen 1))))
      (.val (.one (.o (.sl id (Nat.add gen 1) 0 (Nat.add len n) sz))) (h.mod id (.arr (qu (cut cells off (Nat.mul len sz)) c) e (Nat.add gen 1) (Nat.add gen 1))))))
 |_=>.bad "append - no slice"
def bM(P:Program)(h:Hp)(t:TypeId)(s x:AV):ah:=
 nd (cG P t) "append - type" λes=>nd (dB P es.1) "append - bytes" λby_=>nd (aW P es.1) "append - zero" λz=>
  aN (both (!Nat.beq es.2 0) (Nat.beq (cA (ofValue z).cells) es.2)) "append - size 0" <|
   nd (lO h es.2 x) "append - what is appended" λnc=>fC h es.1 es.2 by_ nc.1 nc.2 s
def Gm(P:Program)(h:Hp)(t:TypeId)(d s:AV):ah:=
 nd (cG P t) "copy - type" λes=>
  match d,s with
  |.one (.o (.sl id g off len sz1)),.one (.o (.sl id2 g2 off2 len2 sz2))=>
   aN (both (Nat.beq sz1 es.2) (Nat.beq sz2 es.2)) "copy - sizes" <|
    nd (iS h id2 g2 off2 (Nat.mul len2 es.2) (Nat.mul (ifE (Nat.ble len2 len) len2 len) es.2)) "copy - source" λc=>
     qN (h.get id) (.bad "copy - no row") λcells e' lo gen=>
      aN (both (Nat.beq g gen) (both (Nat.ble (Nat.add off (Nat.mul (ifE (Nat.ble len2 len) len2 len) es.2)) (cA cells)) (Nat.ble lo gen))) "copy - stale"
       (.val (.one (.i .i64 (.ofNat (ifE (Nat.ble len2 len) len2 len)))) (h.mod id (.arr (iT cells off c) e' gen gen)))
  |.one (.o (.sl ..)),.one (.o .nilS)=>.val (.one (.i .i64 (.ofNat 0))) h
  |.one (.o .nilS),.one (.o (.sl ..))=>.val (.one (.i .i64 (.ofNat 0))) h
  |.one (.o .nilS),.one (.o .nilS)=>.val (.one (.i .i64 (.ofNat 0))) h
  |_,_=>.bad "copy - not slices"
def lp:List AV->Option (List (Nat×Nat×Nat×Nat))
 |[]=>some []
 |.one (.o (.ptr id g off lim))::l=>match lp l with|some r=>some ((id,g,off,lim)::r)|none=>none
 |_::_=>none
def iD:List (Nat×Nat×Nat×Nat)->List AV
 |[]=>[]
 |(id,g,off,lim)::l=>.one (.o (.ptr id g off lim))::iD l
def ao(P:Program)(f:FuncId):Bool:=
 match P.funcs[f]? with
 |some fn=>fn.body.isSome
 |none=>false
def uv(P:Program)(f:AV)(args:List AV):ah:=
 RO f (.bad "call - no function value") λx=>
  AO.rec (motive:=λ_=>ah) (λ_=>.bad "call") (λ_=>.bad "call") (.bad "call - nil") (.bad "call - nil") (.bad "call - nil") (.bad "call - nil") (λ_ _ _ _=>.bad "call") (λ_ _ _ _ _=>.bad "call") (λ_=>.bad "call")
   (λg caps=>aN (ao P g) "call - no body" (.enter g (args++iD caps))) (λid=>.round id args) (λ_=>.bad "call") x
def cq(x:AV):Value:=match x.val? with|some v=>v|none=>undef
def aD(P:Program)(tm:PT AV)(h:Hp)(o:Oper):ah:=
 aN (o.op.operands.toList.all (λx=>(ev tm x).val?.isSome)) "plain - an address" <|
  match aH P (execOp (λx=>cq (ev tm x)) o)with
  |some (.value v)=>aN (okV v) "plain - value" (.val (ofValue v) h)
  |_=>.bad "plain - no value"
def fj(place:Nat->Option (Nat×Nat)):List (Nat×Operand)->Option (List (Nat×Nat×OpF))
 |[]=>some []
 |(i,x)::l=>
  match place i,fj place l with
  |some p,some r=>some ((p.1,p.2,opF x)::r)
  |_,_=>none
def lL(tm:PT AV)(parts:List (Nat×Nat×OpF)):List AC->Option (List AC):=
 List.rec (motive:=λ_=>List AC->Option (List AC)) (λcells=>some cells)
  (λx _ ih cells=>ifE (both (Nat.beq (cA (x.2.2.ev tm).cells) x.2.1) (both (Nat.ble (Nat.add x.1 x.2.1) (cA cells)) (x.2.2.ev tm).cE)) (ih (iT cells x.1 (x.2.2.ev tm).cells)) none) parts
def jm(P:Program)(t:TypeId):Option (Nat->Option (Nat×Nat)):=
 match P.underlying t with
 |some (.struct fs)=>
  match fs.toList.mapM (λf=>(P.info? f.type).map λi=>(f.offset,i.size))with
  |some places=>some λi=>places.toArray[i]?
  |none=>none
 |some (.array _ el)=>
  match P.info? el with
  |some ie=>some λi=>some (i*ie.size,ie.size)
  |none=>none
 |_=>none
def zm(h:Hp)(z:List AC)(tm:PT AV)(parts:List (Nat×Nat×OpF)):ah:=nd (lL tm parts z) "build - fill" λc=>.val (.agg c) h
def lP(h:Hp)(z:List AC)(tm:PT AV)(e sz len:Nat)(parts:List (Nat×Nat×OpF)):ah:=
 nd (lL tm parts z) "buildSlice - fill" λc=>.val (.one (.o (.sl h.nx 0 0 len sz))) (h.new (.arr c e 0 0))
def eU(h:Hp)(sz':Nat)(x:AV)(lo hi:Option AV)(alt:ah):ah:=
 slE x alt λid g off len sz=>nd (Gd lo 0) "slice - low" λl=>nd (Gd hi len) "slice - high" λr=>aN (both (Nat.beq sz sz') (both (Nat.ble l r) (Nat.ble r len))) "slice - out" (.val (.one (.o (.sl id g (Nat.add off (Nat.mul l sz)) (Nat.sub r l) sz))) h)
def eI(h:Hp)(x:AV)(i:Nat):ah:=
 avE x (λ_=>.bad "extract - no tuple") (λ_=>.bad "extract - no tuple") λl=>
  Nat.rec (motive:=λ_=>List (Bool×List AC)->ah)
   (λl=>List.rec (motive:=λ_=>ah) (.bad "extract") (λx _ _=>ifE x.1 (.val (.agg x.2) h) (List.rec (motive:=λ_=>ah) (.bad "extract") (λc m _=>List.rec (motive:=λ_=>ah) (.val (.one c) h) (λ_ _ _=>.bad "extract") m) x.2)) l)
   (λ_ ih l=>List.rec (motive:=λ_=>ah) (.bad "extract") (λ_ l' _=>ih l') l) i l
def dY(P:Program)(h:Hp)(t:TypeId)(l c:AV):ah:=
 nd (cG P t) "makeSlice - type" λes=>nd (dB P es.1) "makeSlice - bytes" λby_=>nd (aW P es.1) "makeSlice - zero" λz=>
  gW l (.bad "makeSlice - sizes unknown") λ_ n=>gW c (.bad "makeSlice - sizes unknown") λ_ m=>nd (BT n) "makeSlice - negative" λn=>nd (BT m) "makeSlice - negative" λm=>
   aN (both (Nat.ble n m) (both (Nat.ble m 1073741824) (both (Nat.ble (Nat.mul m by_) 140737488355328) (Nat.beq (cA (ofValue z).cells) es.2)))) "makeSlice - sizes"
    (.val (.one (.o (.sl h.nx 0 0 n es.2))) (h.new (.arr (nq (ofValue z).cells m) es.1 0 0)))
def kE(h:Hp)(x:AV):ah:=
 match x with
 |.one (.o .nilM)=>.val (.one (.o (.it h.nx))) (h.new (.oth (.iter none 0 [] 0)))
 |.one (.o (.mp m))=>
  match h.get m with
  |some (.oth (.map _ clock))=>.val (.one (.o (.it h.nx))) (h.new (.oth (.iter (some m) clock [] clock)))
  |_=>.bad "range - no map"
 |_=>.bad "range - of what"
def ly(P:Program)(t:TypeId):Option Nat:=
 match P.underlying t with
 |some .string=>some 0
 |some (.slice _)=>some 1
 |some (.map _ _)=>some 2
 |_=>none
def Rs(l:List UInt8):Nat:=List.rec (motive:=λ_=>Nat) 0 (λ_ _ ih=>Nat.add ih 1) l
def Rk(n:Nat):AV:=.one (.i .i64 (.ofNat n))
def gk(h:Hp)(x:AV):ah:=
 match x with
 |.one (.o .nilM)=>.val (Rk 0) h
 |.one (.o (.mp id))=>
  match h.get id with
  |some (.oth (.map es _))=>.val (Rk es.length) h
  |_=>.bad "len - no map"
 |_=>.bad "len - not a map"
def UQ(x:AV):Bool:=
 RO x false λx=>AO.rec (motive:=λ_=>Bool) (λ_=>false) (λ_=>false) false true false false (λ_ _ _ _=>false) (λ_ _ _ _ _=>false) (λ_=>false) (λ_ _=>false) (λ_=>false) (λ_=>false) x
def eD(h:Hp)(k:Nat)(x:AV):ah:=
 Nat.rec (motive:=λ_=>ah) (lC x (.bad "len - not a string") λs=>.val (Rk (Rs s)) h)
  (λk' _=>Nat.rec (motive:=λ_=>ah) (slE x (aN (UQ x) "len - not a slice" (.val (Rk 0) h)) λ_ _ _ len _=>.val (Rk len) h) (λ_ _=>gk h x) k') k
def sO(h:Hp)(kd:Nat)(op:BinOp)(x y:AV)(alt:ah):ah:=
 match Pt kd x y with
 |some b=>
  match op with
  |.eql=>.val (.one (.b b)) h
  |.neq=>.val (.one (.b (!b))) h
  |_=>.bad "binOp - addresses"
 |none=>alt
def oK(h:Hp)(f:BF)(k:IntKind)(a:Int)(k':IntKind)(b:Int)(alt:ah):ah:=
 ifE (sameKind k k') (BF.rec (motive:=λ_=>ah) (λf=>.val (.one (.i k (f k a b))) h) (λf=>.val (.one (.b (f a b))) h) alt f) alt
def oL(h:Hp)(kd:Nat)(op:BinOp)(x y:AV)(alt:ah):ah:=
 lC x (sO h kd op x y alt) λa=>lC y alt λb=>aG (acB op) alt λf=>.val (.one (.b (f a b))) h
def cF(h:Hp)(kd:Nat)(op:BinOp)(f:BF)(x y:AV)(alt:ah):ah:=
 avE x (λc=>acE c (λ_=>alt) (λk a=>gW y alt λk' b=>oK h f k a k' b alt) (λ_=>oL h kd op x y alt)) (λ_=>alt) (λ_=>alt)
def jv(h:Hp)(fo n:Nat)(x:AV):ah:=
 xF x (.bad "fieldAddr - no pointer") λid g off lim=>aN (both (Nat.ble 1 n) (Nat.ble (Nat.add fo n) lim)) "fieldAddr - lim" (.val (.one (.o (.ptr id g (Nat.add off fo) (Nat.sub lim fo)))) h)
def dz(h:Hp)(sz':Nat)(x i:AV):ah:=
 slE x (.bad "indexAddr - no slice") λid g off len sz=>gW i (.bad "indexAddr - index") λ_ n=>nd (BT n) "indexAddr - negative" λn=>aN (both (Nat.beq sz sz') (Nat.blt n len)) "indexAddr - out" (.val (.one (.o (.ptr id g (Nat.add off (Nat.mul n sz)) sz))) h)
def Zc(n:Nat):List UInt8->Option UInt8:=
 Nat.rec (motive:=λ_=>List UInt8->Option UInt8) (λl=>List.rec (motive:=λ_=>Option UInt8) none (λx _ _=>some x) l)
  (λ_ ih l=>List.rec (motive:=λ_=>Option UInt8) none (λ_ l' _=>ih l') l) n
def lQ(h:Hp)(isStr:Bool)(x i:AV)(alt:ah):ah:=
 ifE isStr (lC x alt λs=>gW i alt λ_ n=>nd (BT n) "index - negative" λn=>nd (Zc n s) "index - out" λb=>.val (.one (.i .u8 (.ofNat b.toNat))) h) alt
def Me(h:Hp)(op:UnOp)(x:AV)(alt:ah):ah:=
 match op with
 |.not=>gj x alt λb=>.val (.one (.b (!b))) h
 |_=>alt
def Zd(n:Nat)(l:List AC):Option AC:=List.rec (motive:=λ_=>Option AC) none (λx _ _=>some x) (IV n l)
def zn(h:Hp)(fo n:Nat)(a:Bool)(x:AV):ah:=
 avE x (λ_=>.bad "field - no struct") (λl=>ifE a (aN (Nat.ble (Nat.add fo n) (cA l)) "field - part" (.val (.agg (cut l fo n)) h)) (nd (Zd fo l) "field - part" λc=>.val (.one c) h)) (λ_=>.bad "field - no struct")
inductive SF where
 |mk (f:PT AV->Hp->ah)
def SF.run(s:SF):PT AV->Hp->ah:=SF.rec (motive:=λ_=>PT AV->Hp->ah) (λf=>f) s
def evs(l:List Operand)(tm:PT AV):List AV:=List.rec (motive:=λ_=>List AV) [] (λx _ ih=>(opF x).ev tm::ih) l
def oH(why:String):SF:=.mk λ_ _=>.bad why
def ndF{α:Type}(o:Option α)(why:String)(f:α->SF):SF:=Option.rec (motive:=λ_=>SF) (oH why) f o
def mA(P:Program)(o:Oper)(b:Builtin)(args:List Operand)(ts:List TypeId):SF:=
 match b,args,ts with
 |.append,[s,x],[t,t2]=>ifE (Nat.beq t t2) (.mk λtm h=>bM P h t (ev tm s) (ev tm x)) (oH "append - types")
 |.copy,[d,s],[t,t2]=>ifE (Nat.beq t t2) (.mk λtm h=>Gm P h t (ev tm d) (ev tm s)) (oH "copy - types")
 |.len,[x],[t]=>ndF (ly P t) "len - type" λk=>.mk λtm h=>eD h k ((opF x).ev tm)
 |.min,_,_=>.mk λtm h=>aD P tm h o
 |.max,_,_=>.mk λtm h=>aD P tm h o
 |_,_,_=>oH "builtin"
def yg(P:Program)(o:Oper)(c:Call):SF:=
 match c.callee with
 |.value f=>.mk λtm _=>uv P ((opF f).ev tm) (evs c.args.toList tm)
 |.builtin b=>mA P o b c.args.toList c.argTypes.toList
 |.invoke ..=>oH "invoke"
def rN(P:Program)(t:TypeId):Bool:=match P.underlying t with|some .string=>true|_=>false
def VF(x:OpF):SF:=OpF.rec (motive:=λ_=>SF) (λt=>.mk λtm h=>.val (aG (tm.get t) aQ λv=>v) h) (λv=>.mk λ_ h=>.val v h) x
def aao(c a b:OpF):SF:=.mk λtm h=>gj (c.ev tm) (.bad "pick") λx=>.val (ifE x (a.ev tm) (b.ev tm)) h
def kh(h:Hp)(v:AV):ah:=
 RO v (.bad "nilCheck") λx=>
  AO.rec (motive:=λ_=>ah) (λ_=>.bad "nilCheck") (λ_=>.bad "nilCheck") (.bad "nilCheck") (.bad "nilCheck") (.bad "nilCheck") (.bad "nilCheck") (λ_ _ _ _=>.val v h) (λ_ _ _ _ _=>.bad "nilCheck") (λ_=>.bad "nilCheck")
   (λ_ _=>.val v h) (λ_=>.bad "nilCheck") (λ_=>.bad "nilCheck") x
def bf(P:Program)(o:Oper):SF:=
 match o.op with
 |.move x=>VF (opF x)
 |.assign x=>VF (opF x)
 |.pick c a b=>aao (opF c) (opF a) (opF b)
 |.alloc e=>ndF (aW P e) "alloc - zero" λz=>.mk λ_ h=>oe h (ofValue z).cells e
 |.box e x=>.mk λtm h=>aN ((opF x).ev tm).cE "box - a tuple" (oe h ((opF x).ev tm).cells e)
 |.build t parts=>ndF (aW P t) "build - zero" λz=>ndF (jm P t) "build - type" λpl=>ndF (fj pl parts.toList) "build - parts" λps=>.mk λtm h=>zm h (ofValue z).cells tm ps
 |.buildSlice t len parts=>ndF (cG P t) "buildSlice - type" λes=>ndF (aW P es.1) "buildSlice - zero" λz=>
  ifE (both (Nat.ble (Nat.mul len es.2) 16777216) (Nat.beq (cA (ofValue z).cells) es.2))
   (ndF (fj (λi=>some (i*es.2,es.2)) parts.toList) "buildSlice - parts" λps=>.mk λtm h=>lP h (nq (ofValue z).cells len) tm es.1 es.2 len ps) (oH "buildSlice - too much")
 |.load t a=>ndF (loadT P t) "load - type" λp=>.mk λtm h=>eu h p.1 p.2 ((opF a).ev tm)
 |.store t a x=>ndF (cM P t) "store - type" λn=>.mk λtm h=>lR h n ((opF x).ev tm) ((opF a).ev tm)
 |.nilCheck x=>.mk λtm h=>kh h ((opF x).ev tm)
 |.binOp op t x y _=>.mk λtm h=>cF h (dE P t) op (gV op) ((opF x).ev tm) ((opF y).ev tm) (aD P tm h o)
 |.fieldAddr s x f=>ndF (bG P s f) "fieldAddr - type" λp=>.mk λtm h=>jv h p.1 p.2.2 ((opF x).ev tm)
 |.field t x f=>ndF (bG P t f) "field - type" λp=>ndF (xx P p.2.1) "field - type" λa=>.mk λtm h=>zn h p.1 p.2.2 a ((opF x).ev tm)
 |.indexAddr t x i=>ndF (cG P t) "indexAddr - type" λp=>.mk λtm h=>dz h p.2 ((opF x).ev tm) ((opF i).ev tm)
 |.slice t x lo hi mx=>
  match mx with
  |none=>
   match cG P t with
   |some p=>.mk λtm h=>eU h p.2 ((opF x).ev tm) (lo.map (ev tm)) (hi.map (ev tm)) (aD P tm h o)
   |none=>.mk λtm h=>aD P tm h o
  |some _=>oH "slice - three"
 |.extract x i=>.mk λtm h=>eI h ((opF x).ev tm) i
 |.makeFunc fn first caps=>
  match fn with
  |.func f=>ifE first.isEmpty (.mk λtm h=>nd (lp (evs caps.toList tm)) "makeFunc - captured" λcs=>.val (.one (.o (.clo f cs))) h) (oH "makeFunc - bound")
  |_=>oH "makeFunc - kind"
 |.makeMap _ r=>
  match r with
  |none=>.mk λ_ h=>.val (.one (.o (.mp h.nx))) (h.new (.oth (.map [] 0)))
  |some _=>oH "makeMap - hint"
 |.makeSlice t l c=>.mk λtm h=>dY P h t (ev tm l) (ev tm c)
 |.lookup t m k ok=>ndF (kg P t) "lookup - type" λp=>ndF (aW P p.2) "lookup - zero" λz=>.mk λtm h=>bR P h p.1 (ofValue z) (ev tm m) (ev tm k) ok
 |.mapUpdate t m k x=>ndF (kg P t) "mapUpdate - type" λp=>.mk λtm h=>bE P h p.1 (ev tm m) (ev tm k) (ev tm x)
 |.insert t m k x=>ndF (kg P t) "insert - type" λp=>.mk λtm h=>bE P h p.1 (ev tm m) (ev tm k) (ev tm x)
 |.range t x=>ndF (kg P t) "range - type" λ_=>.mk λtm h=>kE h (ev tm x)
 |.next x b=>
  match b with
  |true=>oH "next - string"
  |false=>.mk λtm h=>ib h (ev tm x)
 |.entry x=>.mk λtm h=>kD h (ev tm x)
 |.call c=>yg P o c
 |.unOp op _ x=>.mk λtm h=>Me h op ((opF x).ev tm) (aD P tm h o)
 |.convert ..=>.mk λtm h=>aD P tm h o
 |.index t x i=>.mk λtm h=>lQ h (rN P t) (ev tm x) (ev tm i) (aD P tm h o)
 |_=>oH "operation"
def VP(P:Program)(tm:PT AV)(h:Hp)(o:Oper):ah:=(bf P o).run tm h
structure ag where
 tm:PT AV
 nt:Nat
 dfr:List Nat
def ag.put(a:ag)(d:Tmp)(v:AV):ag:=⟨a.tm.set d v,a.nt,a.dfr⟩
structure Rec where
 code:Option Nat->Code->ag->Hp->R (au×ag×Hp)
 call:FuncId->List AV->Hp->R (AV×Hp)
def gOf(ops:List Oper):Option (Nat×Bool)->Option (Option Tmp×Bool)
 |none=>none
 |some (j,w)=>
  match ops[j]? with
  |none=>some (none,w)
  |some o=>some (o.dst,w)
def cJ(tm:PT AV)(g:Option (Option Tmp×Bool))(yes no:R (ag×Hp)):R (ag×Hp):=
 aG g yes λp=>aG p.1 no λt=>aG (tm.get t) no λv=>AV.rec (motive:=λ_=>R (ag×Hp)) (λc=>acE c (λb=>ifE b (ifE p.2 yes no) (ifE p.2 no yes)) (λ_ _=>no) (λ_=>.bad "guard")) (λ_=>no) (λ_=>no) (.bad "guard") v
structure OF where
 g:Option (Option Tmp×Bool)
 dst:Option Tmp
 f:SF
 o:Oper
def jH(P:Program)(ops:List Oper)(l:List Oper):List OF:=
 List.rec (motive:=λ_=>List OF) [] (λo _ ih=>⟨gOf ops o.guard,o.dst,bf P o,o⟩::ih) l
def uF(P:Program)(ops:Array Oper):List OF:=jH P ops.toList ops.toList
def setArgs(l:List AV):Nat->PT AV->PT AV:=
 List.rec (motive:=λ_=>Nat->PT AV->PT AV) (λ_ t=>t) (λv _ ih k t=>ih (Nat.add k 1) (t.set k v)) l
def iM:List Tmp->List AV->PT AV->PT AV
 |p::ps,v::vs,t=>iM ps vs (t.set p v)
 |_,_,t=>t
def vZ{α:Type}(l:List α):Nat:=l.length
def mT(id:Nat)(x:au×ag×Hp):R (AV×Hp):=
 match x.2.1.dfr,x.2.2.get id with
 |[],some (.oth (.loop _ _ tm nt ps as bo d))=>
  match x.1 with
  |.normal=>.ok [(.one (.b true),x.2.2.mod id (.oth (.loop .ready none tm nt ps as bo d)))]
  |.ret=>.ok [(.one (.b false),x.2.2.mod id (.oth (.loop .done (some .ret) tm nt ps as bo d)))]
  |.exit k=>.ok [(.one (.b false),x.2.2.mod id (.oth (.loop .done (some (.exit k)) tm nt ps as bo d)))]
 |_,_=>.bad "round - its end"
def ir(rec:Rec)(id:Nat)(body:Code)(x:au×ag×Hp):R (AV×Hp):=
 match x.1,x.2.2.get id with
 |.normal,some (.oth (.loop .ready pe tm nt ps as bo d))=>
  (rec.code (some id) body x.2.1 (x.2.2.mod id (.oth (.loop .busy pe tm nt ps as bo d)))).bind (mT id)
 |_,_=>.bad "round - assignments"
def jD(rec:Rec)(id:Nat)(args:List AV)(h:Hp):R (AV×Hp):=
 match h.get id with
 |some (.oth (.loop .ready _ tm nt params assign body _))=>
  ifE (both (Nat.beq (vZ args) (vZ params)) (params.all λp=>Nat.blt p nt))
   ((rec.code (some id) assign ⟨iM params args tm,nt,[]⟩ h).bind (ir rec id body)) (.bad "round - arguments")
 |_=>.bad "round - no loop that is ready"
structure Env where
 P:Program
 fJ:FuncId->List AV->Option AV
 eN:FuncId->List AV->Hp->Option (AV×Nat×aX):=λ_ _ _=>none
 jn:Nat->Bool:=λ_=>false
def rk(E:Env)(rec:Rec)(f:FuncId)(args:List AV)(h:Hp):R (AV×Hp):=
 aG (E.fJ f args) (aG (E.eN f args h) (rec.call f args h) λx=>.ok [(x.1,h.mod x.2.1 x.2.2)]) λv=>.ok [(v,h)]
def mF(E:Env)(rec:Rec)(h:Hp)(n:ah):R (AV×Hp):=
 ah.rec (motive:=λ_=>R (AV×Hp)) (λv h'=>.ok [(v,h')]) (λl=>.ok l) (λf args=>rk E rec f args h) (λid args=>jD rec id args h) (λs=>.bad s) n
def Un(E:Env)(rec:Rec)(tm:PT AV)(h:Hp)(f:SF):R (AV×Hp):=mF E rec h (f.run tm h)
def jA(a:ag)(dst:Option Tmp)(v:AV)(h:Hp)(k:ag->Hp->R (ag×Hp)):R (ag×Hp):=
 aG dst (k a h) λd=>ifE (Nat.blt d a.nt) (k (a.put d v) h) (.bad "slot")
def qs(E:Env)(rec:Rec)(a:ag)(dst:Option Tmp)(h:Hp)(k:ag->Hp->R (ag×Hp))(n:ah):R (ag×Hp):=
 ah.rec (motive:=λ_=>R (ag×Hp)) (λv h'=>jA a dst v h' k) (λl=>dO (λx=>jA a dst x.1 x.2 k) l) (λf args=>(rk E rec f args h).bind λx=>jA a dst x.1 x.2 k)
  (λid args=>(jD rec id args h).bind λx=>jA a dst x.1 x.2 k) (λs=>.bad s) n
def gm(E:Env)(rec:Rec)(l:List OF):ag->Hp->R (ag×Hp):=
 List.rec (motive:=λ_=>ag->Hp->R (ag×Hp)) (λa h=>.ok [(a,h)])
  (λo _ ih a h=>cJ a.tm o.g (qs E rec a o.dst h ih (o.f.run a.tm h)) (jA a o.dst aQ h ih)) l
def jq(e:Edge):Bool:=match e.ground with|.textOnly _=>false|.gcOnly _=>false|_=>true
def mO(acc:List Nat)(j:Nat):List Edge->Nat
 |[]=>0
 |e::es=>bif jq e&&Nat.blt e.on j then Nat.lor (Nat.lor (Nat.shiftLeft 1 e.on) (acc.getD e.on 0)) (mO acc j es)else mO acc j es
def gR:List Nat->Nat->List Oper->List Nat
 |acc,_,[]=>acc
 |acc,j,o::os=>gR (acc++[mO acc j o.after.toList]) (Nat.add j 1) os
def abx:Operand->Option Nat
 |.tmp t=>some t
 |_=>none
def Eo(ops:Array Oper):Option (Nat×Bool)->List Nat
 |none=>[]
 |some (j,_)=>
  match ops[j]? with
  |none=>[]
  |some oj=>
   match oj.dst with
   |some d=>[d]
   |none=>[]
def slotsOf(ops:Array Oper)(o:Oper):List Nat:=o.op.operands.toList.filterMap abx++Eo ops o.guard
def Rx(l:List Nat)(i:Nat):Bool:=
 match l with
 |[]=>false
 |x::l=>bif Nat.beq x i then true else Rx l i
def DJ(ops:Array Oper)(x y:Oper):Bool:=
 (match x.dst with|some d=>Rx (slotsOf ops y) d||(match y.dst with|some d'=>Nat.beq d d'|none=>false)|none=>false) ||
 (match y.dst with|some d=>Rx (slotsOf ops x) d|none=>false)
def ss(ops:Array Oper)(m:Nat)(y:Oper):Nat->List Oper->Bool
 |_,[]=>true
 |i,x::xs=>(Nat.testBit m i||!DJ ops x y)&&ss ops m y (Nat.add i 1) xs
def tq(ops:Array Oper)(before:List Oper):List Oper->List Nat->Bool
 |[],_=>true
 |o::os,m::ms=>ss ops m o 0 before&&tq ops (before++[o]) os ms
 |_::_,[]=>false
def oM:Nat->List Oper->Bool
 |_,[]=>true
 |j,o::os=>(o.after.toList.all λe=>Nat.blt e.on j||!jq e)&&oM (Nat.add j 1) os
def iu(ops:Array Oper):Bool:=tq ops [] ops.toList (gR [] 0 ops.toList)&&oM 0 ops.toList
structure Did where
 idx:Nat
 U2:PT aX
 c0:Nat
 c1:Nat
 wr:List Nat
def AO.ids:AO->List Nat
 |.ptr id ..=>[id]
 |.sl id ..=>[id]
 |.mp id=>[id]
 |.clo _ cs=>cs.map λc=>c.1
 |.yl id=>[id]
 |.it id=>[id]
 |_=>[]
def AC.ids:AC->List Nat
 |.o x=>x.ids
 |_=>[]
def AV.ids:AV->List Nat
 |.one c=>c.ids
 |.agg l=>l.flatMap AC.ids
 |.tup l=>l.flatMap λx=>x.2.flatMap AC.ids
 |.any=>[]
def eF(o:Oper):Bool:=
 match o.op with
 |.call c=>match c.callee with|.value _=>true|_=>false
 |_=>false
def RC(o:Oper):Bool:=
 match o.op with
 |.load ..=>true
 |.store ..=>true
 |.lookup ..=>true
 |.mapUpdate ..=>true
 |.insert ..=>true
 |.range ..=>true
 |.next ..=>true
 |.entry ..=>true
 |.call _=>true
 |_=>false
def cx(o:Oper):Nat:=bif eF o then 2 else bif RC o then 1 else 0
def dK(a:Nat):Nat->List Nat
 |0=>[]
 |n+1=>a::dK (Nat.add a 1) n
def de(u:Did)(i:Nat):Bool:=Rx u.wr i||(Nat.ble u.c0 i&&Nat.blt i u.c1)
def rf(t:PT aX):List Nat->PT aX
 |[]=>t
 |i::l=>rf (t.del i) l
def dh(t src:PT aX):List Nat->PT aX
 |[]=>t
 |i::l=>dh (PT.put (src.get i) t i) src l
def ia(u:Did):List Nat:=u.wr++dK u.c0 (Nat.sub u.c1 u.c0)
def pH(t:PT aX):List Nat->List Nat
 |[]=>[]
 |i::l=>match t.get i with|some (.oth (.iter (some m) _ _ _))=>i::m::pH t l|_=>i::pH t l
def bu(t:PT aX)(nx:Nat)(tm:PT AV)(o:Oper)(us:List Did):PT aX:=
 match cx o with
 |0=>.leaf
 |1=>dh .leaf t ((pH t (o.op.operands.toList.flatMap λx=>(ev tm x).ids)).filter λi=>Nat.blt i nx&&!us.any (de · i))
 |_=>rf t (us.flatMap ia)
def bk(m:Nat)(did:List Did):List Did:=
 List.rec (motive:=λ_=>List Did) [] (λu _ ih=>ifE (Nat.testBit m u.idx) ih (u::ih)) did
def yr(U2:PT aX)(wr:List Nat):Bool:=List.rec (motive:=λ_=>Bool) true (λi _ ih=>aG (U2.get i) ih λ_=>false) wr
def iH(us:List Did)(wr:List Nat):Bool:=List.rec (motive:=λ_=>Bool) true (λu _ ih=>both (yr u.U2 wr) ih) us
def fk(sub:PT aX)(n:Nat)(l:List Nat):List Nat:=
 List.rec (motive:=λ_=>List Nat) [] (λi _ ih=>ifE (Nat.blt i n) (aG (sub.get i) ih λ_=>i::ih) ih) l
def eM(k:Nat)(h:Hp)(h':Hp)(us:List Did)(wr:List Nat):PT aX:=
 Nat.rec (motive:=λ_=>PT aX) (dh h.t h'.t (dK h.nx (Nat.sub h'.nx h.nx)))
  (λk' _=>Nat.rec (motive:=λ_=>PT aX) (dh h.t h'.t (wr++dK h.nx (Nat.sub h'.nx h.nx))) (λ_ _=>dh h'.t h.t (us.flatMap ia)) k') k
def note(k j:Nat)(sub:PT aX)(h h':Hp)(did:List Did)(wr:List Nat):List Did:=
 ifE (both (Nat.beq k 0) (Nat.beq h.nx h'.nx)) did (⟨j,sub,h.nx,h'.nx,wr⟩::did)
def Yq(k j:Nat)(a:ag)(dst:Option Tmp)(h:Hp)(sub:PT aX)(us did:List Did)(K:List Did->ag->Hp->R (ag×Hp))(x:AV×Hp)(wr:List Nat):R (ag×Hp):=
 ifE (iH us wr)
  (jA a dst x.1 ⟨eM k h x.2 us wr,x.2.nx,wr++h.log⟩ (K (note k j sub h x.2 did wr)))
  (.bad "draw - two operations that may change places touch one object")
def Bb(k j:Nat)(a:ag)(dst:Option Tmp)(h:Hp)(sub:PT aX)(us did:List Did)(K:List Did->ag->Hp->R (ag×Hp))(x:R (AV×Hp)):R (ag×Hp):=
 R.rec (motive:=λ_=>R (ag×Hp))
  (λl=>List.rec (motive:=λ_=>R (ag×Hp)) (.bad "draw - no way")
   (λx l' _=>List.rec (motive:=λ_=>R (ag×Hp)) (Yq k j a dst h sub us did K x (fk sub h.nx x.2.log))
    (λ_ _ _=>.bad "draw - several ways") l') l)
  (λs=>.bad s) x
def eG(E:Env)(rec:Rec)(l:List OF):Nat->List Nat->List Did->ag->Hp->R (ag×Hp):=
 List.rec (motive:=λ_=>Nat->List Nat->List Did->ag->Hp->R (ag×Hp)) (λ_ _ _ a h=>.ok [(a,h)])
  (λo _ ih j ms did a h=>
   List.rec (motive:=λ_=>R (ag×Hp)) (.bad "draw - masks")
    (λm ms' _=>
     cJ a.tm o.g
      (Bb (cx o.o) j a o.dst h (bu h.t h.nx a.tm o.o (bk m did)) (bk m did) did (ih (Nat.add j 1) ms')
       (Un E rec a.tm ⟨bu h.t h.nx a.tm o.o (bk m did),h.nx,[]⟩ o.f))
      (jA a o.dst aQ h (ih (Nat.add j 1) ms' did))) ms) l
inductive CF where
 |mk (f:Rec->Option Nat->ag->Hp->R (au×ag×Hp))
def CF.run(c:CF):Rec->Option Nat->ag->Hp->R (au×ag×Hp):=CF.rec (motive:=λ_=>Rec->Option Nat->ag->Hp->R (au×ag×Hp)) (λf=>f) c
def exE{β:Type}(e:au)(n:β)(x:Nat->β)(r:β):β:=au.rec (motive:=λ_=>β) n x r e
def xI(f:CF)(rec:Rec)(r:Option Nat)(x:au×ag×Hp):R (au×ag×Hp):=exE x.1 (f.run rec r x.2.1 x.2.2) (λ_=>.ok [x]) (.ok [x])
def nT(id:Nat)(x:au×ag×Hp):R (au×ag×Hp):=exE x.1 (.ok [x]) (λk=>ifE (Nat.beq k id) (.ok [(.normal,x.2)]) (.ok [x])) (.ok [x])
def aaN(o:aX):aX:=aX.casesOn (motive:=λ_=>aX) o (λc e _ gen=>.arr c e gen gen) (λx=>.oth x) (λc=>.ro c)
def dP(n id:Nat)(o:Option aX):Option aX:=if id<n then o else o.map aaN
def ql:List cC->Option (List (Int×AV))
 |[]=>some []
 |e::l=>match e.key,ql l with|.one (.i .i64 n),some r=>some ((n,e.val)::r)|_,_=>none
def wj:List (au×ag×Hp)->Nat
 |[]=>0
 |x::l=>Nat.max x.2.2.nx (wj l)
def abd(h:Hp)(l:List (au×ag×Hp)):List Nat:=l.flatMap λx=>x.2.2.log.take (x.2.2.log.length-h.log.length)
def pj(tm:PT AV)(t:Nat):AV:=aG (tm.get t) aQ λv=>v
open Classical in
def vR(l:List (au×ag×Hp))(tm:PT AV):Nat->PT AV
 |0=>.leaf
 |k+1=>PT.set (vR l tm k) k (if∀z∈l,pj z.2.1.tm k=pj tm k then pj tm k else .any)
def Ay(l:List (au×ag×Hp))(id:Nat)(k:List (Int×AV)):Prop:=∀z∈l,∃es c k',z.2.2.t.get id=some (.oth (.map es c))/\ql es=some k'/\∀n,fq n k'=fq n k
def Dq(z:au×ag×Hp)(id:Nat):Prop:=∃x,z.2.2.t.get id=some (.oth x)
open Classical in
def vQ(n:Nat)(l:List (au×ag×Hp))(t:PT aX)(id:Nat):Option aX:=
 if∀z∈l,dP n id (z.2.2.t.get id)=dP n id (t.get id)then dP n id (t.get id)else
  if h:∃k,Ay l id k then some (.oth (.fmap h.choose))else if∀z∈l,Dq z id then some (.oth .lost)else none
def HE(f:Nat->Option aX):Nat->PT aX
 |0=>.leaf
 |k+1=>PT.put (f k) (HE f k) k
open Classical in
def Md(n:Nat)(l:List (au×ag×Hp))(t:PT aX):Nat->List Nat
 |0=>[]
 |k+1=>if∀z∈l,dP n k (z.2.2.t.get k)=dP n k (t.get k)then Md n l t k else k::Md n l t k
def vP(h:Hp)(l:List (au×ag×Hp))(t:PT aX):Hp:=⟨HE (vQ h.nx l t) (wj l),wj l,(Md h.nx l t (wj l)++abd h l)++h.log⟩
open Classical in
def UX(h:Hp)(l:List (au×ag×Hp))(x:au×ag×Hp):List (au×ag×Hp):=
 if∀z∈l,z.1=x.1/\z.2.1.nt=x.2.1.nt/\z.2.1.dfr=x.2.1.dfr/\∀id,id<h.nx->z.2.2.t.get id=x.2.2.t.get id\/(∃k,Ay l id k)\/∀z∈l,Dq z id then[(x.1,⟨vR l x.2.1.tm x.2.1.nt,x.2.1.nt,x.2.1.dfr⟩,vP h l x.2.2.t)]else l
def rO(h:Hp)(l:List (au×ag×Hp)):List (au×ag×Hp):=
 List.rec (motive:=λ_=>List (au×ag×Hp)) [] (λx l' _=>List.rec (motive:=λ_=>List (au×ag×Hp)) [x] (λy l'' _=>UX h (x::y::l'') x) l') l
def oV(b:Bool)(h:Hp)(r:R (au×ag×Hp)):R (au×ag×Hp):=Bool.rec (motive:=λ_=>R (au×ag×Hp)) r (R.rec (motive:=λ_=>R (au×ag×Hp)) (λl=>.ok (rO h l)) (λs=>.bad s) r) b
def BP(rec:Rec)(r:Option Nat)(c:Code)(x:au×ag×Hp):R (au×ag×Hp):=exE x.1 (rec.code r (.loop c) x.2.1 x.2.2) (λ_=>.ok [x]) (.ok [x])
def iJ(x:ag×Hp):R (au×ag×Hp):=.ok [(.normal,x)]
def pN(r:Option Nat)(a:ag)(h:Hp):Option (Nat×Hp×ag):=
 match r with
 |none=>some (h.nx,h.new (.oth (.dfr true)),⟨a.tm,a.nt,h.nx::a.dfr⟩)
 |some l=>
  match h.get l with
  |some (.oth (.loop _ _ _ _ _ _ _ d))=>some (d,h,a)
  |_=>none
def im(l:Nat)(a1:ag)(x:AV×Hp):R (au×ag×Hp):=
 match x.2.get l with
 |some (.oth (.loop st pe tm nt ps as bo d))=>
  match st with
  |.busy=>.bad "rangeFunc - busy"
  |_=>
   match pe with
   |none=>.ok [(.normal,a1,x.2.mod l (.oth (.loop .exhausted pe tm nt ps as bo d)))]
   |some .ret=>.ok [(.ret,a1,x.2.mod l (.oth (.loop .exhausted pe tm nt ps as bo d)))]
   |some (.exit k)=>.ok [(.exit k,a1,x.2.mod l (.oth (.loop .exhausted pe tm nt ps as bo d)))]
   |some _=>.bad "rangeFunc - jump"
 |_=>.bad "rangeFunc - no record"
def kG(E:Env)(rec:Rec)(r:Option Nat)(f:OpF)(params:List Tmp)(assign body:Code)(a:ag)(h:Hp):R (au×ag×Hp):=
 match pN r a h with
 |none=>.bad "rangeFunc - no loop around"
 |some (d,h1,a1)=>
  match f.ev a.tm with
  |.one (.o (.clo g caps))=>ifE (ao E.P g) ((rec.call g (.one (.o (.yl h1.nx))::iD caps) (h1.new (.oth (.loop .ready none a.tm a.nt params assign body d)))).bind (im h1.nx a1)) (.bad "rangeFunc - no body")
  |_=>.bad "rangeFunc - no function"
def codeF(E:Env)(c:Code):CF:=
 Code.rec (motive:=λ_=>CF)
  (.mk λ_ _ a h=>.ok [(.normal,a,h)])
  (λ_ ops draw=>Bool.rec (motive:=λ_=>CF) (.mk λrec _ a h=>(gm E rec (uF E.P ops) a h).bind iJ)
    (ifE (iu ops) (.mk λrec _ a h=>(eG E rec (uF E.P ops) 0 (gR [] 0 ops.toList) [] a h).bind iJ) (.mk λ_ _ _ _=>.bad "draw - slots")) draw)
  (λ_ _ fx fy=>.mk λrec r a h=>(fx.run rec r a h).bind (xI fy rec r))
  (λc _ _ fx fy=>.mk λrec r a h=>gj ((opF c).ev a.tm) (.bad "cond") λb=>ifE b (fx.run rec r a h) (fy.run rec r a h))
  (λid _ fx=>.mk λrec r a h=>oV (E.jn id) h ((fx.run rec r a h).bind (nT id)))
  (λc fx=>.mk λrec r a h=>(fx.run rec r a h).bind (BP rec r c))
  (λf params assign body _ _=>.mk λrec r a h=>kG E rec r (opF f) params.toList assign body a h)
  (λid=>.mk λ_ _ a h=>.ok [(.exit id,a,h)])
  (λ_ fx=>fx)
  (λ_=>.mk λ_ _ a h=>.ok [(.normal,a,h)])
  (λ_=>.mk λ_ _ _ _=>.bad "goto")
  (.mk λ_ _ a h=>.ok [(.ret,a,h)])
  (λ_=>.mk λ_ _ _ _=>.bad "refuse") c
def aaV(E:Env)(rec:Rec)(r:Option Nat)(c:Code)(a:ag)(h:Hp):R (au×ag×Hp):=(codeF E c).run rec r a h
def closeAll(h:Hp):List Nat->Option Hp
 |[]=>some h
 |d::ds=>match h.get d with|some (.oth (.dfr true))=>closeAll (h.mod d (.oth (.dfr false))) ds|_=>none
def mS(v:AV):Option (Bool×List AC):=avE v (λc=>some (false,[c])) (λl=>some (true,l)) (λ_=>none)
def ph(P:Program)(x:ResultVar):PT AV->Hp->Option (Bool×List AC):=
 match x with
 |.tmp t=>λtm _=>aG (tm.get t) none mS
 |.cell a t=>
  match loadT P t with
  |some p=>λtm h=>aG (tm.get a) none λv=>ah.rec (motive:=λ_=>Option (Bool×List AC)) (λv _=>mS v) (λ_=>none) (λ_ _=>none) (λ_ _=>none) (λ_=>none) (eu h p.1 p.2 v)
  |none=>λ_ _=>none
def dq(P:Program)(l:List ResultVar)(tm:PT AV)(h:Hp):Option (List (Bool×List AC)):=
 List.rec (motive:=λ_=>Option (List (Bool×List AC))) (some []) (λr _ ih=>aG (ph P r tm h) none λx=>aG ih none λl=>some (x::l)) l
def gT:List (Bool×List AC)->AV
 |[(true,l)]=>.agg l
 |[(false,[c])]=>.one c
 |l=>.tup l
inductive FF where
 |mk (c:CF) (nt:Nat) (res:List ResultVar)
 |no
def Uv(E:Env)(f:FuncId):FF:=
 match E.P.funcs[f]? with
 |some fn=>
  match fn.body with
  |some c=>.mk (codeF E c) fn.ntmps fn.results.toList
  |none=>.no
 |none=>.no
def aK(E:Env)(res:List ResultVar)(x:au×ag×Hp):R (AV×Hp):=
 exE x.1
  (aG (closeAll x.2.2 x.2.1.dfr) (.bad "marks") λh2=>aG (dq E.P res x.2.1.tm h2) (.bad "results") λl=>.ok [(gT l,h2)])
  (λ_=>.bad "exit")
  (aG (closeAll x.2.2 x.2.1.dfr) (.bad "marks") λh2=>aG (dq E.P res x.2.1.tm h2) (.bad "results") λl=>.ok [(gT l,h2)])
def rW:List (AV×Hp)->Nat
 |[]=>0
 |x::l=>Nat.max x.2.nx (rW l)
def xG(n:Nat)(t src:PT aX):List Nat->PT aX
 |[]=>t
 |i::l=>xG n (PT.put (dP n i (src.get i)) t i) src l
open Classical in
def vh(n:Nat)(l:List (AV×Hp))(t:PT aX)(id:Nat):Bool:=decide (∀x∈l,dP n id (x.2.t.get id)=dP n id (t.get id))
def BU(h h':Hp):List Nat:=h'.log.take (h'.log.length-h.log.length)
def Jz(h:Hp)(l:List (AV×Hp))(t:PT aX):Hp:=
 ⟨xG h.nx .leaf t ((dK 0 (rW l)).filter (vh h.nx l t)),rW l,l.flatMap (λx=>BU h x.2)++h.log⟩
open Classical in
def aaj(h:Hp)(l:List (AV×Hp))(x:AV×Hp):List (AV×Hp):=
 if∀z∈l,z.1=x.1/\∀id,id<h.nx->z.2.t.get id=x.2.t.get id then[(x.1,Jz h l x.2.t)]else l
def BK(h:Hp)(l:List (AV×Hp)):List (AV×Hp):=
 List.rec (motive:=λ_=>List (AV×Hp)) [] (λx l' _=>List.rec (motive:=λ_=>List (AV×Hp)) [x] (λy l'' _=>aaj h (x::y::l'') x) l') l
def yy(h:Hp)(r:R (AV×Hp)):R (AV×Hp):=R.rec (motive:=λ_=>R (AV×Hp)) (λl=>.ok (BK h l)) (λs=>.bad s) r
def nX(E:Env)(rec:Rec)(f:FuncId)(args:List AV)(h:Hp):R (AV×Hp):=
 FF.rec (motive:=λ_=>R (AV×Hp))
  (λc nt res=>ifE (both (Nat.ble (vZ args) nt) (Nat.ble nt 1048576)) (yy h ((c.run rec none ⟨setArgs args 0 .leaf,nt,[]⟩ h).bind (aK E res))) (.bad "too many arguments"))
  (.bad "no function") (Uv E f)
def eval(E:Env)(n:Nat):Rec:=
 Nat.rec (motive:=λ_=>Rec) ⟨λ_ _ _ _=>.bad "fuel", λ_ _ _=>.bad "fuel"⟩
  (λ_ ih=>⟨λr c a h=>aaV E ih r c a h,λf args h=>nX E ih f args h⟩) n
def uf{n:Nat}(h:¬n=0):Nat.beq n 0=false:=by
 cases n with
 |zero=>exact absurd rfl h
 |succ n=>rfl
section
variable{α:Type}
def PT.rF(n:Nat):(PT.leaf:PT α).get n=none:=rfl
def PT.je(l r:PT α)(v:Option α):(PT.node l v r).get 0=v:=rfl
def PT.dS(l r:PT α)(v:Option α)(k:Nat):(PT.node l v r).get (k+1)=if k%2=0 then l.get (k/2)else r.get (k/2):=by
 show Bool.rec (motive:=λ_=>Option α) (r.get (Nat.div k 2)) (l.get (Nat.div k 2)) (Nat.beq (Nat.mod k 2) 0)=_;have e1:Nat.mod k 2=k%2:=rfl;have e2:Nat.div k 2=k/2:=rfl;rw[e1,e2];by_cases h:k%2=0
 ·rw[ad h,h];rfl
 rw[ab h];have:Nat.beq (k%2) 0=false:=uf h;rw[this]
def PT.mk_zero(a:Option α)(n:Nat):PT.mk a 0 n=.node .leaf a .leaf:=rfl
def PT.MC(a:Option α)(f:Nat):PT.mk a f 0=.node .leaf a .leaf:=by cases f<;>rfl
def PT.YS(a:Option α)(f k:Nat):PT.mk a (f+1) (k+1)=if k%2=0 then .node (PT.mk a f (k/2)) none .leaf else .node .leaf none (PT.mk a f (k/2)):=by
 show Bool.rec (motive:=λ_=>PT α) (.node .leaf none (PT.mk a f (Nat.div k 2))) (.node (PT.mk a f (Nat.div k 2)) none .leaf) (Nat.beq (Nat.mod k 2) 0)=_;have e1:Nat.mod k 2=k%2:=rfl;have e2:Nat.div k 2=k/2:=rfl;rw[e1,e2];by_cases h:k%2=0
 ·rw[ad h,h];rfl
 rw[ab h];have:Nat.beq (k%2) 0=false:=uf h;rw[this]
def PT.aaZ(a:Option α):∀(f n m:Nat),n<2^f->(PT.mk a f n).get m=if m=n then a else none:=by
 intro f;induction f with
 |zero=>
  intro n m h;have:n=0:=by simpa using h
  subst this;cases m with
  |zero=>simp[PT.mk_zero,PT.je]
  |succ k=>simp[PT.mk_zero,PT.dS,PT.rF]
 |succ f ih=>
  intro n m h;cases n with
  |zero=>
   rw[PT.MC];cases m with
   |zero=>simp[PT.je]
   |succ k=>simp[PT.dS,PT.rF]
  |succ k=>
   have hk:k/2<2^f:=by rw[Nat.pow_succ]at h;omega
   rw[PT.YS];cases m with
   |zero=>split<;>simp[PT.je]
   |succ j=>
    by_cases hp:k%2=0
    ·rw[ad hp,PT.dS];by_cases hj:j%2=0
     ·rw[ad hj,ih _ _ hk];by_cases e:j=k
      ·subst e;simp
      rw[ab aa,ab aa]
     rw[ab hj,PT.rF,ab aa]
    rw[ab hp,PT.dS];by_cases hj:j%2=0
    ·rw[ad hj,PT.rF,ab aa]
    rw[ab hj,ih _ _ hk];by_cases e:j=k
    ·subst e;simp
    rw[ab aa,ab aa]
def PT.Wj(a:Option α)(n:Nat):PT.put a .leaf n=PT.mk a n n:=rfl
def PT.Db(a:Option α)(l r:PT α)(v:Option α):PT.put a (.node l v r) 0=.node l a r:=rfl
def PT.Da(a:Option α)(l r:PT α)(v:Option α)(k:Nat):PT.put a (.node l v r) (k+1)=if k%2=0 then .node (PT.put a l (k/2)) v r else .node l v (PT.put a r (k/2)):=by
 show Bool.rec (motive:=λ_=>PT α) (.node l v (PT.put a r (Nat.div k 2))) (.node (PT.put a l (Nat.div k 2)) v r) (Nat.beq (Nat.mod k 2) 0)=_;have e1:Nat.mod k 2=k%2:=rfl;have e2:Nat.div k 2=k/2:=rfl;rw[e1,e2];by_cases h:k%2=0
 ·rw[ad h,h];rfl
 rw[ab h];have:Nat.beq (k%2) 0=false:=uf h;rw[this]
def PT.vM(a:Option α)(t:PT α):∀(n m:Nat),(PT.put a t n).get m=if m=n then a else t.get m:=by
 induction t with
 |leaf=>intro n m;rw[PT.Wj,PT.aaZ a n n m Nat.lt_two_pow_self,PT.rF]
 |node l v r ihl ihr=>
  intro n m;cases n with
  |zero=>
   rw[PT.Db];cases m with
   |zero=>simp[PT.je]
   |succ k=>simp[PT.dS]
  |succ k=>
   rw[PT.Da];cases m with
   |zero=>split<;>simp[PT.je]
   |succ j=>
    by_cases hp:k%2=0
    ·rw[ad hp,PT.dS,PT.dS];by_cases hj:j%2=0
     ·rw[ad hj,ad hj,ihl];by_cases e:j=k
      ·subst e;simp
      rw[ab aa,ab aa]
     rw[ab hj,ab hj,ab aa]
    rw[ab hp,PT.dS,PT.dS];by_cases hj:j%2=0
    ·rw[ad hj,ad hj,ab aa]
    rw[ab hj,ab hj,ihr];by_cases e:j=k
    ·subst e;simp
    rw[ab aa,ab aa]
def PT.zq(a:Option α)(t:PT α)(n m:Nat)(_:n<n+1):(PT.put a t n).get m=if m=n then a else t.get m:=PT.vM a t n m
def PT.sV(t:PT α)(n m:Nat)(a:α)(h:n<n+1):(t.set n a).get m=if m=n then some a else t.get m:=PT.zq _ _ _ _ h
def PT.fE(t:PT α)(n m:Nat)(a:α):(t.set n a).get m=if m=n then some a else t.get m:=PT.vM _ _ _ _
end
def cW{β:Type}(b:Bool)(x y:β):ifE b x y=if b=true then x else y:=by cases b<;>rfl
def RN{α β:Type}(e:β)(f:α->β):aG none e f=e:=rfl
def ET{α β:Type}(a:α)(e:β)(f:α->β):aG (some a) e f=f a:=rfl
def er(a b:Bool):both a b=(a&&b):=by cases a<;>cases b<;>rfl
def bZ(l:List AC):cA l=l.length:=by
 induction l with
 |nil=>rfl
 |cons a l ih=>show Nat.add (cA l) 1=_;rw[ih];rfl
def Bc(n:Nat):∀l:List AC,IV n l=l.drop n:=by
 induction n with
 |zero=>intro l;rfl
 |succ n ih=>
  intro l;cases l with
  |nil=>rfl
  |cons a l=>show IV n l=_;rw[ih];rfl
def Lk(n:Nat):∀l:List AC,Qj n l=l.take n:=by
 induction n with
 |zero=>intro l;rfl
 |succ n ih=>
  intro l;cases l with
  |nil=>rfl
  |cons a l=>show a::Qj n l=_;rw[ih];rfl
def kz(l m:List AC):qu l m=l++m:=by
 induction l with
 |nil=>rfl
 |cons a l ih=>show a::qu l m=_;rw[ih];rfl
def nU(l:List AC)(off n:Nat):cut l off n=(l.drop off).take n:=by rw[cut,Lk,Bc]
def mj(l:List AC)(off:Nat)(c:List AC):iT l off c=l.take off++(c++l.drop (off+c.length)):=by rw[iT,Lk,Bc,kz,kz,bZ];rfl
def GN(l:List UInt8):Rs l=l.length:=by
 induction l with
 |nil=>rfl
 |cons a l ih=>show Nat.add (Rs l) 1=_;rw[ih];rfl
def Px(n:Nat):∀l:List UInt8,Zc n l=l[n]?:=by
 induction n with
 |zero=>intro l;cases l<;>rfl
 |succ n ih=>intro l;cases l with|nil=>rfl|cons a l=>show Zc n l=_;rw[ih];rfl
def Ze(n:Nat)(l:List AC):Zd n l=l[n]?:=by
 unfold Zd;rw[Bc];have:l[n]?=(l.drop n)[0]?:=by simp
 rw[this];cases l.drop n<;>rfl
def QL{α β:Type}(f:α->R β):∀(l:List α)(outs:List β),dO f l=.ok outs->∀x∈l,∃o,f x=.ok o/\∀y∈o,y∈outs:=by
 intro l;induction l with
 |nil=>intro _ _ x hx;cases hx
 |cons a l ih=>
  intro outs h x hx;cases l with
  |nil=>
   have h':f a=.ok outs:=h;have:x=a:=by simpa using hx
   subst this;exact⟨outs,h',λ_ hy=>hy⟩
  |cons b l=>
   have h':AB (f a) (dO f (b::l))=.ok outs:=h;cases ha:f a with
   |bad s=>rw[ha]at h';cases h'
   |ok oa=>
    cases hb:dO f (b::l)with
    |bad s=>rw[ha,hb]at h';cases h'
    |ok ob=>
     rw[ha,hb]at h';have he:oa++ob=outs:=by injection h'
     subst he;rcases List.mem_cons.1 hx with rfl|hx
     ·exact⟨oa,ha,λy hy=>dC _ hy⟩
     obtain⟨o,ho,V1⟩:=ih ob hb x hx;exact⟨o,ho,λy hy=>du _ (V1 y hy)⟩
def R.gi{α β:Type}{r:R α}{f:α->R β}{outs:List β}(h:r.bind f=.ok outs):∃l,r=.ok l/\∀x∈l,∃o,f x=.ok o/\∀y∈o,y∈outs:=by
 cases r with
 |bad s=>cases h
 |ok l=>exact⟨l,rfl,QL f l outs h⟩
section
variable{P:Program}{H:Hp}{tm tm':PT AV}
def xr:∀{l:List Operand},(∀x∈l,ev tm x=ev tm' x)->evs l tm=evs l tm'
 |[],_=>rfl
 |x::l,h=>by show ev tm x::evs l tm=ev tm' x::evs l tm';rw[h x (aT ..),xr λy hy=>h y (aR _ hy)]
def rA{place:Nat->Option (Nat×Nat)}:∀{l:List (Nat×Operand)}{ps:List (Nat×Nat×OpF)},fj place l=some ps->(∀x∈l.map (·.2),ev tm x=ev tm' x)->∀cells,lL tm ps cells=lL tm' ps cells
 |[],ps,h,_,cells=>by cases h;rfl
 |(i,x)::l,ps,h,hx,cells=>by
  unfold fj at h;split at h
  ·rename_i p r hp hr
   cases h
   have O0:(opF x).ev tm=(opF x).ev tm':=hx x (by simp);show ifE (both (Nat.beq (cA ((opF x).ev tm).cells) p.2) (both (Nat.ble (Nat.add p.1 p.2) (cA cells)) ((opF x).ev tm).cE)) (lL tm r (iT cells p.1 ((opF x).ev tm).cells)) none =
    ifE (both (Nat.beq (cA ((opF x).ev tm').cells) p.2) (both (Nat.ble (Nat.add p.1 p.2) (cA cells)) ((opF x).ev tm').cE)) (lL tm' r (iT cells p.1 ((opF x).ev tm').cells)) none
   rw[O0,rA hr λy hy=>hx y (by simp only[List.map_cons];exact aR _ hy)]
  cases h
def Kv{o:Oper}(hs:∀cs b,o.op≠.select cs b)(h:∀x∈o.op.operands.toList,ev tm x=ev tm' x):aD P tm H o=aD P tm' H o:=by
 unfold aD;have h1:o.op.operands.toList.all (λx=>(ev tm x).val?.isSome)=o.op.operands.toList.all (λx=>(ev tm' x).val?.isSome):=by rw[ix,om,om];exact⟨λk x hx=>by rw[<-h x hx];exact k x hx,λk x hx=>by rw[h x hx];exact k x hx⟩
 have h2:execOp (λx=>cq (ev tm x)) o=execOp (λx=>cq (ev tm' x)) o:=
  execOp_congr o hs λx hx=>by rw[h x (by simpa using hx)]
 rw[h1,h2]
def cO{α:Type}{o:Option α}{s:String}{f:α->SF}(h:∀a,o=some a->(f a).run tm H=(f a).run tm' H):(ndF o s f).run tm H=(ndF o s f).run tm' H:=by
 cases o with
 |none=>rfl
 |some a=>exact h a rfl
def sW{b:Bool}{f g:SF}(h:f.run tm H=f.run tm' H)(hg:g.run tm H=g.run tm' H):(ifE b f g).run tm H=(ifE b f g).run tm' H:=by
 cases b with
 |false=>exact hg
 |true=>exact h
def mk_congr{f:PT AV->Hp->ah}(h:f tm H=f tm' H):(SF.mk f).run tm H=(SF.mk f).run tm' H:=h
def CT{o:Oper}{c:Call}{b:Builtin}(ho:o.op=.call c)(h:∀x∈c.args.toList,ev tm x=ev tm' x)(hp:aD P tm H o=aD P tm' H o):
  (mA P o b c.args.toList c.argTypes.toList).run tm H=(mA P o b c.args.toList c.argTypes.toList).run tm' H:=by
 unfold mA;split
 ·rename_i s x t t2 h1 h2
  have hs:=h s (by rw[h1];simp);have hx:=h x (by rw[h1];simp);exact sW (mk_congr (by rw[hs,hx])) rfl
 ·rename_i s x t t2 h1 h2
  have hs:=h s (by rw[h1];simp);have hx:=h x (by rw[h1];simp);exact sW (mk_congr (by rw[hs,hx])) rfl
 ·rename_i x t h1 h2
  have hx:(opF x).ev tm=(opF x).ev tm':=h x (by rw[h1];simp);exact cO λk _=>mk_congr (by rw[hx])
 ·exact mk_congr hp
 ·exact mk_congr hp
 rfl
def No(o:Oper)(h:∀x∈o.op.operands.toList,ev tm x=ev tm' x):(bf P o).run tm H=(bf P o).run tm' H:=by
 have hp:(∀cs b,o.op≠.select cs b)->aD P tm H o=aD P tm' H o:=λhs=>Kv hs h;obtain⟨dst,op,type,pos,after,guard⟩:=o;cases op with
 |move x=>
  have hx:(opF x).ev tm=(opF x).ev tm':=h x (by simp[Op.operands]);cases x with
  |tmp t=>exact congrArg (λv=>ah.val v H) hx
  |_=>rfl
 |assign x=>
  have hx:(opF x).ev tm=(opF x).ev tm':=h x (by simp[Op.operands]);cases x with
  |tmp t=>exact congrArg (λv=>ah.val v H) hx
  |_=>rfl
 |pick c x y=>have hc:(opF c).ev tm=(opF c).ev tm':=h c (by simp[Op.operands]);have hx:(opF x).ev tm=(opF x).ev tm':=h x (by simp[Op.operands]);have hy:(opF y).ev tm=(opF y).ev tm':=h y (by simp[Op.operands]);exact mk_congr (f:=λtm h=>gj ((opF c).ev tm) (.bad "pick") λb=>.val (ifE b ((opF x).ev tm) ((opF y).ev tm)) h) (by simp only[hc,hx,hy])
 |alloc e=>exact cO λ_ _=>rfl
 |box e x=>have hx:(opF x).ev tm=(opF x).ev tm':=h x (by simp[Op.operands]);exact mk_congr (f:=λtm h=>aN ((opF x).ev tm).cE "box - a tuple" (oe h ((opF x).ev tm).cells e)) (by simp only[hx])
 |build t parts=>refine cO λz _=>cO λpl _=>cO λps k_=>mk_congr (f:=λtm h=>zm h (ofValue z).cells tm ps) ?_;unfold zm;rw[rA k_ (tm:=tm) (tm':=tm') λx hx=>h x (by simpa [Op.operands]using hx)]
 |buildSlice t len parts=>refine cO λes _=>cO λz _=>sW (cO λps k_=>mk_congr (f:=λtm h=>lP h (nq (ofValue z).cells len) tm es.1 es.2 len ps) ?_) rfl;unfold lP;rw[rA k_ (tm:=tm) (tm':=tm') λx hx=>h x (by simpa [Op.operands]using hx)]
 |load t x=>have hx:(opF x).ev tm=(opF x).ev tm':=h x (by simp[Op.operands]);exact cO λp _=>mk_congr (by rw[hx])
 |store t x y=>have hx:(opF x).ev tm=(opF x).ev tm':=h x (by simp[Op.operands]);have hy:(opF y).ev tm=(opF y).ev tm':=h y (by simp[Op.operands]);exact cO λp _=>mk_congr (by rw[hx,hy])
 |nilCheck x=>have hx:(opF x).ev tm=(opF x).ev tm':=h x (by simp[Op.operands]);exact mk_congr (f:=λtm h=>kh h ((opF x).ev tm)) (by rw[hx])
 |binOp op t x y c=>have hx:(opF x).ev tm=(opF x).ev tm':=h x (by simp[Op.operands]);have hy:(opF y).ev tm=(opF y).ev tm':=h y (by simp[Op.operands]);exact mk_congr (f:=λtm h=>cF h (dE P t) op (gV op) ((opF x).ev tm) ((opF y).ev tm) (aD P tm h _)) (by rw[hx,hy,hp (by intro cs b hh;cases hh)])
 |unOp op t x=>have hx:(opF x).ev tm=(opF x).ev tm':=h x (by simp[Op.operands]);exact mk_congr (f:=λtm h=>Me h op ((opF x).ev tm) (aD P tm h _)) (by rw[hx,hp (by intro cs b hh;cases hh)])
 |convert s d x=>exact hp (by intro cs b hh;cases hh)
 |fieldAddr s x f=>have hx:(opF x).ev tm=(opF x).ev tm':=h x (by simp[Op.operands]);exact cO λp _=>mk_congr (by rw[hx])
 |field t x f=>have hx:(opF x).ev tm=(opF x).ev tm':=h x (by simp[Op.operands]);exact cO λp _=>cO λq _=>mk_congr (by rw[hx])
 |indexAddr t x i=>have hx:(opF x).ev tm=(opF x).ev tm':=h x (by simp[Op.operands]);have hi:(opF i).ev tm=(opF i).ev tm':=h i (by simp[Op.operands]);exact cO λp _=>mk_congr (by rw[hx,hi])
 |index t x i=>have hx:ev tm x=ev tm' x:=h x (by simp[Op.operands]);have hi:ev tm i=ev tm' i:=h i (by simp[Op.operands]);exact mk_congr (f:=λtm h=>lQ h (rN P t) (ev tm x) (ev tm i) (aD P tm h _)) (by rw[hx,hi,hp (by intro cs b hh;cases hh)])
 |slice t x lo hi mx=>
  cases mx with
  |some _=>rfl
  |none=>
   have hx:(opF x).ev tm=(opF x).ev tm':=h x (by simp[Op.operands]);have L7:lo.map (ev tm)=lo.map (ev tm'):=by cases lo with|none=>rfl|some y=>exact congrArg some (h y (by simp[Op.operands]))
   have hhi:hi.map (ev tm)=hi.map (ev tm'):=by cases hi with|none=>rfl|some y=>exact congrArg some (h y (by simp[Op.operands]))
   have U9:=hp (by intro cs b hh;cases hh);cases he:cG P t with
   |none=>
    have:bf P ⟨dst,.slice t x lo hi none,type,pos,after,guard⟩=.mk λtm h=>aD P tm h ⟨dst,.slice t x lo hi none,type,pos,after,guard⟩:=by simp[bf,he]
    rw[this];exact U9
   |some p=>
    have:bf P ⟨dst,.slice t x lo hi none,type,pos,after,guard⟩=.mk λtm h=>eU h p.2 ((opF x).ev tm) (lo.map (ev tm)) (hi.map (ev tm)) (aD P tm h ⟨dst,.slice t x lo hi none,type,pos,after,guard⟩):=by simp[bf,he]
    rw[this];exact mk_congr (f:=λtm h=>eU h p.2 ((opF x).ev tm) (lo.map (ev tm)) (hi.map (ev tm)) (aD P tm h _)) (by rw[hx,L7,hhi,U9])
 |extract x i=>have hx:ev tm x=ev tm' x:=h x (by simp[Op.operands]);exact mk_congr (f:=λtm h=>eI h (ev tm x) i) (by rw[hx])
 |makeFunc fn first caps=>
  cases fn with
  |func f=>exact sW (mk_congr (by rw[xr (tm:=tm) (tm':=tm') λx hx=>h x (by simp only[Op.operands,Array.toList_append];exact du _ hx)])) rfl
  |_=>rfl
 |makeMap t r=>
  cases r with
  |some _=>rfl
  |none=>rfl
 |makeSlice t l c=>have hl:ev tm l=ev tm' l:=h l (by simp[Op.operands]);have hc:ev tm c=ev tm' c:=h c (by simp[Op.operands]);exact mk_congr (f:=λtm h=>dY P h t (ev tm l) (ev tm c)) (by rw[hl,hc])
 |lookup t x k ok=>have hx:ev tm x=ev tm' x:=h x (by simp[Op.operands]);have hk:ev tm k=ev tm' k:=h k (by simp[Op.operands]);exact cO λp _=>cO λz _=>mk_congr (by rw[hx,hk])
 |mapUpdate t x k y=>have hx:ev tm x=ev tm' x:=h x (by simp[Op.operands]);have hk:ev tm k=ev tm' k:=h k (by simp[Op.operands]);have hy:ev tm y=ev tm' y:=h y (by simp[Op.operands]);exact cO λp _=>mk_congr (by rw[hx,hk,hy])
 |insert t x k y=>have hx:ev tm x=ev tm' x:=h x (by simp[Op.operands]);have hk:ev tm k=ev tm' k:=h k (by simp[Op.operands]);have hy:ev tm y=ev tm' y:=h y (by simp[Op.operands]);exact cO λp _=>mk_congr (by rw[hx,hk,hy])
 |range t x=>have hx:ev tm x=ev tm' x:=h x (by simp[Op.operands]);exact cO λp _=>mk_congr (by rw[hx])
 |next x b=>
  have hx:ev tm x=ev tm' x:=h x (by simp[Op.operands]);cases b with
  |true=>rfl
  |false=>exact mk_congr (f:=λtm h=>ib h (ev tm x)) (by rw[hx])
 |entry x=>have hx:ev tm x=ev tm' x:=h x (by simp[Op.operands]);exact mk_congr (f:=λtm h=>kD h (ev tm x)) (by rw[hx])
 |call c=>
  have E7:∀x∈c.args.toList,ev tm x=ev tm' x:=λx hx=>h x (by
   have z5:x∈c.args:=by simpa using hx
   simp[Op.operands,Call.operands,z5])
  show(yg P _ c).run tm H=(yg P _ c).run tm' H;unfold yg;split
  ·rename_i f hf
   have hff:(opF f).ev tm=(opF f).ev tm':=h f (by simp[Op.operands,Call.operands,hf]);exact mk_congr (f:=λtm _=>uv P ((opF f).ev tm) (evs c.args.toList tm)) (by rw[hff,xr E7])
  ·exact CT rfl E7 (hp (by intro cs b hh;cases hh))
  rfl
 |_=>rfl
end
structure Place where
 b:Nat
 o:Nat
 n:Nat
 hi:Nat
abbrev Pl:=Nat->Nat->Option Place
def CRO(β:Pl):AO->Value->Prop
 |.p v,x=>x=v/\v.oneCell'=true
 |.str s,x=>x=.string ⟨s.toArray⟩
 |.nilP,x=>x=.pointer none
 |.nilS,x=>x=.slice none 0 0
 |.nilM,x=>x=.map none
 |.wv,x=>x=.nilFunc
 |.ptr id g off lim,x=>∃p,β id g=some p/\off+lim<=p.hi/\x=.pointer (some ⟨p.b,p.o+off,none⟩)
 |.sl id g off len sz,x=>∃p cap o',β id g=some p/\off+len*sz<=p.hi/\len<=cap/\x=.slice (some o') len cap/\(cap=0\/(o'=⟨p.b,p.o+off,none⟩/\p.o+off+cap*sz<=p.n))
 |.mp id,x=>∃p,β id 0=some p/\x=.map (some p.b)
 |.clo f caps,x=>∃cs:List Value,x=.func (.func f) #[] cs.toArray/\cs.length=caps.length /\
   ∀(k:Nat)(c:Nat×Nat×Nat×Nat)(v:Value),caps[k]?=some c->cs[k]?=some v->∃p,β c.1 c.2.1=some p/\c.2.2.1+c.2.2.2<=p.hi/\v=.pointer (some ⟨p.b,p.o+c.2.2.1,none⟩)
 |.yl id,x=>∃p,β id 0=some p/\x=.func (.yield p.b) #[] #[]
 |.it id,x=>∃p,β id 0=some p/\x=.pointer (some ⟨p.b,0,none⟩)
def CR(β:Pl):AC->Value->Prop
 |.b x,v=>v=.bool x
 |.i k n,v=>v=.int k n
 |.o x,v=>CRO β x v
def CRs(β:Pl):List AC->List Value->Prop
 |[],[]=>True
 |c::l,v::vs=>CR β c v/\CRs β l vs
 |_,_=>False
def TR(β:Pl):Bool×List AC->Value->Prop
 |(true,l),v=>∃vs,CRs β l vs/\v=.agg vs.toArray
 |(false,[c]),v=>CR β c v
 |_,_=>False
def TRs(β:Pl):List (Bool×List AC)->List Value->Prop
 |[],[]=>True
 |c::l,v::vs=>TR β c v/\TRs β l vs
 |_,_=>False
def AR(β:Pl):AV->Value->Prop
 |.one c,v=>CR β c v
 |.agg l,v=>∃vs,CRs β l vs/\v=.agg vs.toArray
 |.tup l,v=>∃vs,TRs β l vs/\v=.tuple vs.toArray
 |.any,_=>True
def ARs(β:Pl):List AV->List Value->Prop
 |[],[]=>True
 |c::l,v::vs=>AR β c v/\ARs β l vs
 |_,_=>False
def ERs(β:Pl):List cC->List MapEntry->Prop
 |[],[]=>True
 |e::l,m::ms=>(AR β e.key m.key/\e.key.cE=true/\AR β e.val m.val/\e.val.cE=true/\m.born=e.born)/\ERs β l ms
 |_,_=>False
def TmR(β:Pl)(tm:PT AV)(nt:Nat)(tmps:Array Value):Prop:=
 tmps.size=nt/\nt<=1048576/\∀t,AR β (aG (tm.get t) aQ λv=>v) (tmps.getD t undef)
def fm:aX->Nat->Prop
 |.arr _ _ lo gen,g=>lo<=g/\g<=gen
 |.oth _,g=>g=0
 |.ro _,g=>g=0
def aX.oU:aX->Bool
 |.ro _=>true
 |_=>false
def Yv(o:aX)(g:Nat):Prop:=fm o g/\o.oU=false
def jQ(β:Pl)(w:World)(cells:List AC)(e:TypeId)(p:Place):Prop:=
 ∃c:Array Value,w.heap[p.b]?=some (.cells c e (0,0))/\c.size=p.n/\p.o+p.hi<=p.n/\p.hi<=cells.length /\
  ∀k x,k<p.hi->cells[k]?=some x->∃v,c[p.o+k]?=some v/\CR β x v
def ua(β:Pl)(w:World)(cells:List AC)(p:Place):Prop:=
 ∃(c:Array Value)(e:TypeId)(f:Nat×Nat),w.heap[p.b]?=some (.cells c e f)/\c.size=p.n/\p.o+p.hi<=p.n/\p.hi<=cells.length /\
  ∀k x,k<p.hi->cells[k]?=some x->∃v,c[p.o+k]?=some v/\CR β x v
def jQ.d{β:Pl}{w:World}{cells:List AC}{e:TypeId}{p:Place}(h:jQ β w cells e p):ua β w cells p:=
 let ⟨c,h1,r⟩:=h;⟨c,e,(0,0),h1,r⟩
def Ar(β:Pl)(w:World)(p:Place):CK->Prop
 |.map es clock=>∃ms:List MapEntry,w.heap[p.b]?=some (.map ms.toArray clock)/\ERs β es ms
 |.iter m since seen stepped=>
  match m with
  |none=>w.heap[p.b]?=some (.mapIter none since seen.toArray stepped)
  |some i=>∃q,β i 0=some q/\w.heap[p.b]?=some (.mapIter (some q.b) since seen.toArray stepped)
 |.loop st pe tm nt ps as bo d=>∃q fn tmps,β d 0=some q/\TmR β tm nt tmps /\
   w.heap[p.b]?=some (.loop { state:=st,pending:=pe,fn:=fn,tmps:=tmps,params:=ps.toArray,assign:=as,body:=bo,defers:=q.b })
 |.dfr b=>w.heap[p.b]?=some (.deferred (if b=true then some []else none))
 |.fmap l=>∃es clock,∃ms:List MapEntry,w.heap[p.b]?=some (.map ms.toArray clock)/\ERs β es ms/\∃k,ql es=some k/\∀n,fq n k=fq n l
 |.lost=>∃o,w.heap[p.b]?=some o
def ji(β:Pl)(w:World)(id:Nat):aX->Prop
 |.arr cells e lo gen=>lo<=gen /\
   (∀g,lo<=g->g<=gen->∃p,β id g=some p/\jQ β w cells e p/\(g=gen->p.hi=cells.length)) /\
   (∀g g' p p',lo<=g->g<=g'->g'<=gen->β id g=some p->β id g'=some p'->p.hi<=p'.hi/\(p.b=p'.b->p.o=p'.o)) /\
   (∀g,gen<g->β id g=none)
 |.oth x=>∃p,β id 0=some p/\Ar β w p x
 |.ro cells=>∃p,β id 0=some p/\ua β w cells p
structure Rel(m:Nat)(β:Pl)(H:Hp)(w:World):Prop where
 obj:∀id o,H.get id=some o->ji β w id o
 sep:∀id id' o o' g g' p p',H.get id=some o->H.get id'=some o'->fm o g->fm o' g'->β id g=some p->β id' g'=some p'->p.b=p'.b->id=id'\/(o.oU=true/\o'.oU=true)
 wf:∀id,H.nx<=id->H.get id=none
 free:∀id g,H.nx<=id->id<m->β id g=none
structure Ext(β:Pl)(H:Hp)(w:World)(β':Pl)(H':Hp)(w':World):Prop where
 sub:∀id g p,β id g=some p->β' id g=some p
 loc:∀id g p,β' id g=some p->β id g=some p\/(H.nx<=id/\id<H'.nx)\/∃o,H.get id=some o
 size:w.heap.size<=w'.heap.size
 os:w'.os=w.os
 tape:w'.tape=w.tape
 output:w'.output=w.output
 frame:∀b,b<w.heap.size->(∀id o g p,H.get id=some o->Yv o g->β id g=some p->p.b≠b)->w'.heap[b]?=w.heap[b]?
 prov:∀id o' g p,H'.get id=some o'->fm o' g->β' id g=some p->w.heap.size<=p.b\/∃o g0 p0,H.get id=some o/\fm o g0/\β id g0=some p0/\p0.b=p.b/\o.oU=o'.oU
 nx:H.nx<=H'.nx
 log:∃l,H'.log=l++H.log/\∀id,id<H.nx->id∉l->H'.get id=H.get id
 dom:∀id o,H.get id=some o->∃o',H'.get id=some o'
 old:∀id o',H'.get id=some o'->(∃o,H.get id=some o)\/(H.nx<=id/\id<H'.nx)
 far:∀l,H'.log=l++H.log->∀b,b<w.heap.size->(∀id o g p,id∈l->H.get id=some o->Yv o g->β id g=some p->p.b≠b)->w'.heap[b]?=w.heap[b]?
abbrev Sub(β β':Pl):Prop:=∀id g p,β id g=some p->β' id g=some p
section mono
variable{β β':Pl}(hs:Sub β β')
include hs
theorem CRO.mono{x:AO}{v:Value}(h:CRO β x v):CRO β' x v:=by
 cases x with
 |p v=>exact h
 |str s=>exact h
 |nilP=>exact h
 |nilS=>exact h
 |nilM=>exact h
 |wv=>exact h
 |ptr id g off lim=>obtain⟨p,hp,r⟩:=h;exact⟨p,hs _ _ _ hp,r⟩
 |sl id g off len sz=>obtain⟨p,cap,o',hp,r⟩:=h;exact⟨p,cap,o',hs _ _ _ hp,r⟩
 |mp id=>obtain⟨p,hp,r⟩:=h;exact⟨p,hs _ _ _ hp,r⟩
 |clo f caps=>obtain⟨cs,h1,h2,h3⟩:=h;refine⟨cs,h1,h2,λk c v hc hv=>?_⟩;obtain⟨p,hp,r⟩:=h3 k c v hc hv;exact⟨p,hs _ _ _ hp,r⟩
 |yl id=>obtain⟨p,hp,r⟩:=h;exact⟨p,hs _ _ _ hp,r⟩
 |it id=>obtain⟨p,hp,r⟩:=h;exact⟨p,hs _ _ _ hp,r⟩
theorem CR.mono{x:AC}{v:Value}(h:CR β x v):CR β' x v:=by
 cases x with
 |b x=>exact h
 |i k n=>exact h
 |o x=>exact CRO.mono hs h
theorem CRs.mono:∀{l:List AC}{vs:List Value},CRs β l vs->CRs β' l vs
 |[],[],_=>trivial
 |_::_,_::_,h=>⟨CR.mono hs h.1,CRs.mono h.2⟩
 |[],_::_,h=>h.elim
 |_::_,[],h=>h.elim
theorem TR.mono{x:Bool×List AC}{v:Value}(h:TR β x v):TR β' x v:=by
 obtain⟨b,l⟩:=x;cases b with
 |true=>obtain⟨vs,h1,h2⟩:=h;exact⟨vs,CRs.mono hs h1,h2⟩
 |false=>
  match l,h with
  |[c],h=>exact CR.mono hs h
theorem TRs.mono:∀{l:List (Bool×List AC)}{vs:List Value},TRs β l vs->TRs β' l vs
 |[],[],_=>trivial
 |_::_,_::_,h=>⟨TR.mono hs h.1,TRs.mono h.2⟩
 |[],_::_,h=>h.elim
 |_::_,[],h=>h.elim
theorem AR.mono{x:AV}{v:Value}(h:AR β x v):AR β' x v:=by
 cases x with
 |one c=>exact CR.mono hs h
 |agg l=>obtain⟨vs,h1,h2⟩:=h;exact⟨vs,CRs.mono hs h1,h2⟩
 |tup l=>obtain⟨vs,h1,h2⟩:=h;exact⟨vs,TRs.mono hs h1,h2⟩
 |any=>trivial
theorem ARs.mono:∀{l:List AV}{vs:List Value},ARs β l vs->ARs β' l vs
 |[],[],_=>trivial
 |_::_,_::_,h=>⟨AR.mono hs h.1,ARs.mono h.2⟩
 |[],_::_,h=>h.elim
 |_::_,[],h=>h.elim
theorem ERs.mono:∀{l:List cC}{ms:List MapEntry},ERs β l ms->ERs β' l ms
 |[],[],_=>trivial
 |_::_,_::_,h=>⟨⟨AR.mono hs h.1.1,h.1.2.1,AR.mono hs h.1.2.2.1,h.1.2.2.2⟩,ERs.mono h.2⟩
 |[],_::_,h=>h.elim
 |_::_,[],h=>h.elim
theorem TmR.mono{tm:PT AV}{nt:Nat}{tmps:Array Value}(h:TmR β tm nt tmps):TmR β' tm nt tmps:=⟨h.1,h.2.1,λt=>AR.mono hs (h.2.2 t)⟩
theorem jQ.mono{w w':World}{cells:List AC}{e:TypeId}{p:Place}(h:jQ β w cells e p)(hw:w'.heap[p.b]?=w.heap[p.b]?):jQ β' w' cells e p:=by obtain⟨c,h1,h2,h3,h4,h5⟩:=h;refine⟨c,hw.trans h1,h2,h3,h4,λk x hk hx=>?_⟩;obtain⟨v,hv,hr⟩:=h5 k x hk hx;exact⟨v,hv,CR.mono hs hr⟩
theorem Ar.mono{w w':World}{p:Place}{x:CK}(h:Ar β w p x)(hw:w'.heap[p.b]?=w.heap[p.b]?):Ar β' w' p x:=by
 cases x with
 |map es clock=>obtain⟨ms,h1,h2⟩:=h;exact⟨ms,hw.trans h1,ERs.mono hs h2⟩
 |iter m since seen stepped=>
  cases m with
  |none=>exact hw.trans h
  |some i=>obtain⟨q,h1,h2⟩:=h;exact⟨q,hs _ _ _ h1,hw.trans h2⟩
 |loop st pe tm nt ps as bo d=>obtain⟨q,fn,tmps,h1,h2,h3⟩:=h;exact⟨q,fn,tmps,hs _ _ _ h1,TmR.mono hs h2,hw.trans h3⟩
 |dfr b=>exact hw.trans h
 |fmap l=>obtain⟨es,clock,ms,h1,h2,h3⟩:=h;exact⟨es,clock,ms,hw.trans h1,ERs.mono hs h2,h3⟩
 |lost=>obtain⟨o,h1⟩:=h;exact⟨o,hw.trans h1⟩
theorem ji.mono{w w':World}{id:Nat}{o:aX}(h:ji β w id o)(hn:∀g,β' id g=β id g)(hw:∀g p,fm o g->β id g=some p->w'.heap[p.b]?=w.heap[p.b]?):ji β' w' id o:=by
 cases o with
 |arr cells e lo gen=>
  obtain⟨h0,h1,h2,h3⟩:=h;refine⟨h0,λg hl hg=>?_,λg g' p p' a b c d e=>?_,λg hg=>by rw[hn];exact h3 g hg⟩
  ·obtain⟨p,hp,hr,hh⟩:=h1 g hl hg;exact⟨p,hs _ _ _ hp,jQ.mono hs hr (hw g p ⟨hl,hg⟩ hp),hh⟩
  rw[hn]at d e;exact h2 g g' p p' a b c d e
 |oth x=>obtain⟨p,hp,hx⟩:=h;exact⟨p,hs _ _ _ hp,Ar.mono hs hx (hw 0 p rfl hp)⟩
 |ro cells=>obtain⟨p,hp,c,e,f,h1,h2,h3,h4,h5⟩:=h;refine⟨p,hs _ _ _ hp,c,e,f,(hw 0 p rfl hp).trans h1,h2,h3,h4,λk x hk hx=>?_⟩;obtain⟨v,hv,hr⟩:=h5 k x hk hx;exact⟨v,hv,CR.mono hs hr⟩
end mono
def ERs.get{β:Pl}:∀{l:List cC}{ms:List MapEntry},ERs β l ms->l.length=ms.length
 |[],[],_=>rfl
 |_::_,_::_,h=>by simp[ERs.get h.2]
 |[],_::_,h=>h.elim
 |_::_,[],h=>h.elim
def CRs.length{β:Pl}:∀{l:List AC}{vs:List Value},CRs β l vs->vs.length=l.length
 |[],[],_=>rfl
 |_::_,_::_,h=>by simp[CRs.length h.2]
 |[],_::_,h=>h.elim
 |_::_,[],h=>h.elim
def ARs.length{β:Pl}:∀{l:List AV}{vs:List Value},ARs β l vs->vs.length=l.length
 |[],[],_=>rfl
 |_::_,_::_,h=>by simp[ARs.length h.2]
 |[],_::_,h=>h.elim
 |_::_,[],h=>h.elim
def CRs.get{β:Pl}:∀{l:List AC}{vs:List Value},CRs β l vs->∀(k:Nat)(c:AC)(v:Value),l[k]?=some c->vs[k]?=some v->CR β c v
 |[],[],_,k,c,v,h,_=>by simp at h
 |_::_,_::_,h,0,c,v,hc,hv=>by simp at hc hv;subst hc hv;exact h.1
 |_::_,_::_,h,k+1,c,v,hc,hv=>CRs.get h.2 k c v (by simpa using hc) (by simpa using hv)
 |[],_::_,h,_,_,_,_,_=>h.elim
 |_::_,[],h,_,_,_,_,_=>h.elim
def CRs.fI{β:Pl}:∀{l:List AC}{vs:List Value},vs.length=l.length->(∀(k:Nat)(c:AC)(v:Value),l[k]?=some c->vs[k]?=some v->CR β c v)->CRs β l vs
 |[],[],_,_=>trivial
 |c::l,v::vs,hl,h=>⟨h 0 c v rfl rfl,CRs.fI (by simpa using hl) λk c' v' hc hv=>h (k+1) c' v' (by simpa using hc) (by simpa using hv)⟩
 |[],_::_,hl,_=>by simp at hl
 |_::_,[],hl,_=>by simp at hl
def CRs.append{β:Pl}{l l':List AC}{vs vs':List Value}(h:CRs β l vs)(h':CRs β l' vs'):CRs β (l++l') (vs++vs'):=by
 induction l generalizing vs with
 |nil=>cases vs with|nil=>exact h'|cons=>exact h.elim
 |cons c l ih=>cases vs with|nil=>exact h.elim|cons v vs=>exact⟨h.1,ih h.2⟩
def ARs.append{β:Pl}{l l':List AV}{vs vs':List Value}(h:ARs β l vs)(h':ARs β l' vs'):ARs β (l++l') (vs++vs'):=by
 induction l generalizing vs with
 |nil=>cases vs with|nil=>exact h'|cons=>exact h.elim
 |cons c l ih=>cases vs with|nil=>exact h.elim|cons v vs=>exact⟨h.1,ih h.2⟩
def CRs.take{β:Pl}{l:List AC}{vs:List Value}(h:CRs β l vs)(n:Nat):CRs β (l.take n) (vs.take n):=
 CRs.fI (by simp[h.length]) λk c v hc hv=>by
  rw[mW]at hc hv;split at hc
  ·rename_i hk;rw[ad hk]at hv;exact h.get k c v hc hv
  cases hc
def CRs.drop{β:Pl}{l:List AC}{vs:List Value}(h:CRs β l vs)(n:Nat):CRs β (l.drop n) (vs.drop n):=
 CRs.fI (by simp[h.length]) λk c v hc hv=>by rw[iV]at hc hv;exact h.get _ c v hc hv
def CR.kJ{β:Pl}{c:AC}{v:Value}(h:CR β c v):v.oneCell'=true:=by
 cases c with
 |b x=>cases h;rfl
 |i k n=>cases h;rfl
 |o x=>
  cases x with
  |p u=>obtain⟨h1,h2⟩:=h;subst h1;exact h2
  |str s=>cases h;rfl
  |nilP=>cases h;rfl
  |nilS=>cases h;rfl
  |nilM=>cases h;rfl
  |wv=>cases h;rfl
  |ptr id g off lim=>obtain⟨p,_,_,rfl⟩:=h;rfl
  |sl id g off len sz=>obtain⟨p,cap,o',_,_,_,rfl,_⟩:=h;rfl
  |mp id=>obtain⟨p,_,rfl⟩:=h;rfl
  |clo f caps=>obtain⟨cs,rfl,_⟩:=h;rfl
  |yl id=>obtain⟨p,_,rfl⟩:=h;rfl
  |it id=>obtain⟨p,_,rfl⟩:=h;rfl
def CRs.kJ{β:Pl}:∀{l:List AC}{vs:List Value},CRs β l vs->∀v∈vs,v.oneCell'=true
 |[],[],_,v,hv=>by cases hv
 |_::_,_::_,h,v,hv=>by
  rcases List.mem_cons.1 hv with rfl|hv
  ·exact h.1.kJ
  exact CRs.kJ h.2 v hv
 |[],_::_,h,_,_=>h.elim
 |_::_,[],h,_,_=>h.elim
def AR.cells{β:Pl}{x:AV}{v:Value}(h:AR β x v)(hn:x.cE=true):CRs β x.cells v.cells.toList:=by
 cases x with
 |one c=>
  have h1:=CR.kJ h;have:v.cells=#[v]:=by cases v<;>first|rfl|(simp[Value.oneCell']at h1)
  rw[this];exact⟨h,trivial⟩
 |agg l=>obtain⟨vs,h1,rfl⟩:=h;exact h1
 |tup l=>cases hn
 |any=>cases hn
def Ext.refl(β:Pl)(H:Hp)(w:World):Ext β H w β H w:=
 ⟨λ_ _ _ h=>h,λ_ _ _ h=>.inl h,ai _,rfl,rfl,rfl,λ_ _ _=>rfl,λid o g p h1 h2 h3=>.inr ⟨o,g,p,h1,h2,h3,rfl,rfl⟩,ai _,⟨[],rfl,λ_ _ _=>rfl⟩,λ_ o h=>⟨o,h⟩,λ_ o h=>.inl ⟨o,h⟩,λ_ _ _ _ _=>rfl⟩
def Ext.trans{β β1 β2:Pl}{H H1 H2:Hp}{w w1 w2:World}(h:Ext β H w β1 H1 w1)(k:Ext β1 H1 w1 β2 H2 w2):Ext β H w β2 H2 w2 where
 sub:=λid g p hp=>k.sub _ _ _ (h.sub _ _ _ hp)
 loc:=λid g p hp=>by
  rcases k.loc id g p hp with hp|hp|⟨o,ho⟩
  ·rcases h.loc id g p hp with hp|hp|hp
   ·exact .inl hp
   ·exact .inr (.inl ⟨hp.1,ax hp.2 k.nx⟩)
   exact .inr (.inr hp)
  ·exact .inr (.inl ⟨aS h.nx hp.1,hp.2⟩)
  rcases h.old id o ho with hq|hq
  ·exact .inr (.inr hq)
  exact .inr (.inl ⟨hq.1,ax hq.2 k.nx⟩)
 size:=aS h.size k.size
 os:=k.os.trans h.os
 tape:=k.tape.trans h.tape
 output:=k.output.trans h.output
 frame:=λb hb hn=>by
  rw[k.frame b (ax hb h.size) ?_,h.frame b hb hn];intro id o g p ho hg hp hpb;rcases h.prov id o g p ho hg.1 hp with hq|⟨o0,g0,p0,a1,a2,a3,a4,a5⟩
  ·omega
  exact hn id o0 g0 p0 a1 ⟨a2,a5.trans hg.2⟩ a3 (a4.trans hpb)
 prov:=λid o' g p ho hg hp=>by
  rcases k.prov id o' g p ho hg hp with hq|⟨o0,g0,p0,a1,a2,a3,a4,a5⟩
  ·exact .inl (aS h.size hq)
  rcases h.prov id o0 g0 p0 a1 a2 a3 with hq|⟨o1,g1,p1,b1,b2,b3,b4,b5⟩
  ·exact .inl aa
  exact .inr ⟨o1,g1,p1,b1,b2,b3,b4.trans a4,b5.trans a5⟩
 nx:=aS h.nx k.nx
 log:=by obtain⟨l,hl,hg⟩:=h.log;obtain⟨l2,P6,hg2⟩:=k.log;refine⟨l2++l,by rw[P6,hl,bL],λid hid hm=>?_⟩;rw[hg2 id (ax hid h.nx) (λhx=>hm (dC _ hx)),hg id hid (λhx=>hm (du _ hx))]
 dom:=λid o ho=>by obtain⟨o1,h1⟩:=h.dom id o ho;exact k.dom id o1 h1
 old:=λid o' ho=>by
  rcases k.old id o' ho with⟨o1,h1⟩|hq
  ·rcases h.old id o1 h1 with hq|hq
   ·exact .inl hq
   exact .inr ⟨hq.1,ax hq.2 k.nx⟩
  exact .inr ⟨aS h.nx hq.1,hq.2⟩
 far:=λl hl b hb hn=>by
  obtain⟨l1,e1,_⟩:=h.log;obtain⟨l2,e2,_⟩:=k.log;have e:l=l2++l1:=by rw[e2,e1,<-bL]at hl;exact(xQ hl).symm
  subst e;rw[k.far l2 e2 b (ax hb h.size) ?_,h.far l1 e1 b hb λid o g p hid=>hn id o g p (du _ hid)];intro id o g p hid ho hg hp hpb;rcases h.prov id o g p ho hg.1 hp with hq|⟨o0,g0,p0,a1,a2,a3,a4,a5⟩
  ·omega
  exact hn id o0 g0 p0 (dC _ hid) a1 ⟨a2,a5.trans hg.2⟩ a3 (a4.trans hpb)
def ee{α:Type}{a:Array α}{i:Nat}{x:α}(h:a[i]?=some x):i<a.size:=(Array.getElem?_eq_some_iff.1 h).1
def Ar.lt{β:Pl}{w:World}{p:Place}{x:CK}(h:Ar β w p x):p.b<w.heap.size:=by
 cases x with
 |map es clock=>obtain⟨ms,h1,_⟩:=h;exact ee h1
 |iter m since seen stepped=>
  cases m with
  |none=>exact ee h
  |some i=>obtain⟨q,_,h1⟩:=h;exact ee h1
 |loop st pe tm nt ps as bo d=>obtain⟨q,fn,tmps,_,_,h3⟩:=h;exact ee h3
 |dfr b=>exact ee h
 |fmap l=>obtain⟨_,_,ms,h1,_⟩:=h;exact ee h1
 |lost=>obtain⟨_,h1⟩:=h;exact ee h1
def ji.lt{β:Pl}{w:World}{id:Nat}{o:aX}(h:ji β w id o){g:Nat}{p:Place}(hg:fm o g)(hp:β id g=some p):p.b<w.heap.size:=by
 cases o with
 |arr cells e lo gen=>obtain⟨_,h1,_,_⟩:=h;obtain⟨q,hq,⟨c,hc,_⟩,_⟩:=h1 g hg.1 hg.2;rw[hp]at hq;cases hq;exact ee hc
 |oth x=>obtain⟨q,hq,hx⟩:=h;have:g=0:=hg;subst this;rw[hp]at hq;cases hq;exact hx.lt
 |ro cells=>obtain⟨q,hq,c,e,f,hc,_⟩:=h;have:g=0:=hg;subst this;rw[hp]at hq;cases hq;exact ee hc
def Yx(H:Hp)(o:aX)(h:H.nx<H.nx+1)(i:Nat):(H.new o).get i=if i=H.nx then some o else H.get i:=PT.sV _ _ _ _ h
def Yw(H:Hp)(id:Nat)(o:aX)(h:id<id+1)(i:Nat):(H.mod id o).get i=if i=id then some o else H.get i:=PT.sV _ _ _ _ h
def plus(β:Pl)(id g:Nat)(p:Place):Pl:=λi k=>if i=id/\k=g then some p else β i k
def bm(β:Pl)(id g:Nat)(p:Place):plus β id g p id g=some p:=by simp[plus]
def cD(β:Pl)(id g:Nat)(p:Place){i k:Nat}(h:¬(i=id/\k=g)):plus β id g p i k=β i k:=by simp[plus,h]
def jG{β:Pl}{id g:Nat}{p:Place}(h:β id g=none):Sub β (plus β id g p):=by
 intro i k q hq;by_cases e:i=id/\k=g
 ·obtain⟨rfl,rfl⟩:=e;rw[h]at hq;cases hq
 rw[cD _ _ _ _ e];exact hq
section
variable{m:Nat}{β:Pl}{H:Hp}{w:World}(hR:Rel m β H w)
include hR
theorem Rel.Uz{id:Nat}{o:aX}(ho:H.get id=some o):id<H.nx:=by
 rcases cL id H.nx with h|h
 ·exact h
 rw[hR.wf id h]at ho;cases ho
theorem lX(_hm:m<=m)(S0:H.nx<=m){id:Nat}{o:aX}(ho:H.get id=some o)(o':aX){β':Pl}{w':World}(V1:Sub β β')(W5:∀i,i≠id->∀g,β' i g=β i g)
  (B2:w.heap.size<=w'.heap.size) (hos:w'.os=w.os) (a9:w'.tape=w.tape) (Z3:w'.output=w.output)
  (hfr:∀b,b<w.heap.size->(∀g p,fm o g->β id g=some p->p.b≠b)->w'.heap[b]?=w.heap[b]?)
  (hobj:ji β' w' id o')
  (hprov:∀g p,fm o' g->β' id g=some p->w.heap.size<=p.b\/∃g0 p0,fm o g0/\β id g0=some p0/\p0.b=p.b) (hro:o.oU=false:=by rfl) (hro':o'.oU=false:=by rfl):
  Rel m β' (H.mod id o') w'/\Ext β H w β' (H.mod id o') w':=by
 have hid:=hR.Uz ho;have hid40:id<id+1:=aa;have D3:=Yw H id o' hid40;refine⟨⟨?_,?_,?_,?_⟩,?_⟩
 ·intro i x hx;rw[D3]at hx;by_cases e:i=id
  ·subst e;rw[ad rfl]at hx;cases hx;exact hobj
  rw[ab e]at hx;have hi:=hR.obj i x hx;refine ji.mono V1 hi (W5 i e) λg p hg hp=>?_;exact hfr p.b (hi.lt hg hp) λg0 p0 J5 hp0 hb=>(hR.sep _ _ _ _ _ _ _ _ hx ho hg J5 hp hp0 hb.symm).elim e λhh=>by rw[hro]at hh;cases hh.2
 ·intro i j x y g g' p p' hx hy hg Q2 hp U9 hb;rw[D3]at hx hy;by_cases e:i=id
  ·by_cases f:j=id
   ·exact .inl (by rw[e,f])
   subst e;rw[ad rfl]at hx;rw[ab f]at hy;cases hx;rw[W5 j f]at U9;have B0:=(hR.obj j y hy).lt Q2 U9;rcases hprov g p hg hp with hq|⟨g0,p0,a1,a2,a3⟩
   ·omega
   exact(hR.sep _ _ _ _ _ _ _ _ ho hy a1 Q2 a2 U9 (a3.trans hb)).imp (λh=>h) λhh=>by rw[hro]at hh;cases hh.1
  by_cases f:j=id
  ·subst f;rw[ab e]at hx;rw[ad rfl]at hy;cases hy;rw[W5 i e]at hp;have B0:=(hR.obj i x hx).lt hg hp;rcases hprov g' p' Q2 U9 with hq|⟨g0,p0,a1,a2,a3⟩
   ·omega
   exact(hR.sep _ _ _ _ _ _ _ _ hx ho hg a1 hp a2 (hb.trans a3.symm)).imp (λh=>h) λhh=>by rw[hro]at hh;cases hh.2
  rw[ab e]at hx;rw[ab f]at hy;rw[W5 i e]at hp;rw[W5 j f]at U9;exact hR.sep _ _ _ _ _ _ _ _ hx hy hg Q2 hp U9 hb
 ·intro i hi;have hi':H.nx<=i:=hi;rw[D3,ab aa];exact hR.wf i hi'
 ·intro i g hi him;have hi':H.nx<=i:=hi;rw[W5 i aa];exact hR.free i g hi' him
 refine⟨V1,?_,B2,hos,a9,Z3,?_,?_,ai _,⟨[id],rfl,?_⟩,?_,?_,?_⟩
 ·intro i g p hp;by_cases e:i=id
  ·subst e;exact .inr (.inr ⟨o,ho⟩)
  rw[W5 i e]at hp;exact .inl hp
 ·exactλb hb hn=>hfr b hb λg p hg hp=>hn id o g p ho ⟨hg,hro⟩ hp
 ·intro i x g p hx hg hp;rw[D3]at hx;by_cases e:i=id
  ·subst e;rw[ad rfl]at hx;cases hx;rcases hprov g p hg hp with hq|⟨g0,p0,a1,a2,a3⟩
   ·exact .inl hq
   exact .inr ⟨o,g0,p0,ho,a1,a2,a3,by rw[hro,hro']⟩
  rw[ab e]at hx;rw[W5 i e]at hp;exact .inr ⟨x,g,p,hx,hg,hp,rfl,rfl⟩
 ·intro i hi hl;rw[D3,ab (by simpa using hl)]
 ·intro i x hx;rw[D3];by_cases e:i=id
  ·rw[ad e];exact⟨_,rfl⟩
  rw[ab e];exact⟨x,hx⟩
 ·intro i x hx;rw[D3]at hx;by_cases e:i=id
  ·subst e;exact .inl ⟨o,ho⟩
  rw[ab e]at hx;exact .inl ⟨x,hx⟩
 intro l hl b hb hn;have e:l=[id]:=by have W9:[id]++H.log=l++H.log:=hl;exact(xQ W9).symm
 subst e;exact hfr b hb λg p hg hp=>hn id o g p (List.mem_singleton.2 rfl) ho ⟨hg,hro⟩ hp
theorem pO(_hm:m<=m)(S0:H.nx<m)(o':aX)(p:Place){w':World}(hb:w.heap.size<=p.b)
  (B2:w.heap.size<=w'.heap.size) (hos:w'.os=w.os) (a9:w'.tape=w.tape) (Z3:w'.output=w.output)
  (hfr:∀b,b<w.heap.size->w'.heap[b]?=w.heap[b]?) (hgen:∀g,fm o' g->g=0)
  (hobj:ji (plus β H.nx 0 p) w' H.nx o'):
  Rel m (plus β H.nx 0 p) (H.new o') w'/\Ext β H w (plus β H.nx 0 p) (H.new o') w':=by
 have D3:=Yx H o' aa;have hnone:β H.nx 0=none:=hR.free H.nx 0 (ai _) S0;have V1:Sub β (plus β H.nx 0 p):=jG hnone;have W5:∀i,i≠H.nx->∀g,plus β H.nx 0 p i g=β i g:=λi hi g=>cD _ _ _ _ (λh=>hi h.1);have J0:∀g q,fm o' g->plus β H.nx 0 p H.nx g=some q->q=p:=by intro g q hg hq;have:=hgen g hg;subst this;rw[bm]at hq;exact(eh hq).symm
 refine⟨⟨?_,?_,?_,?_⟩,?_⟩
 ·intro i x hx;rw[D3]at hx;by_cases e:i=H.nx
  ·subst e;rw[ad rfl]at hx;cases hx;exact hobj
  rw[ab e]at hx;have hi:=hR.obj i x hx;exact ji.mono V1 hi (W5 i e) λg p hg hp=>hfr p.b (hi.lt hg hp)
 ·intro i j x y g g' q q' hx hy hg Q2 hq M' E8;rw[D3]at hx hy;by_cases e:i=H.nx
  ·by_cases f:j=H.nx
   ·exact .inl (by rw[e,f])
   subst e;rw[ad rfl]at hx;rw[ab f]at hy;cases hx;rw[W5 j f]at M';have B0:=(hR.obj j y hy).lt Q2 M';rw[J0 g q hg hq]at E8;omega
  by_cases f:j=H.nx
  ·subst f;rw[ab e]at hx;rw[ad rfl]at hy;cases hy;rw[W5 i e]at hq;have B0:=(hR.obj i x hx).lt hg hq;rw[J0 g' q' Q2 M']at E8;omega
  rw[ab e]at hx;rw[ab f]at hy;rw[W5 i e]at hq;rw[W5 j f]at M';exact hR.sep _ _ _ _ _ _ _ _ hx hy hg Q2 hq M' E8
 ·intro i hi;have hi':H.nx+1<=i:=hi;rw[D3,ab aa];exact hR.wf i aa
 ·intro i g hi him;have hi':H.nx+1<=i:=hi;rw[W5 i aa];exact hR.free i g aa him
 refine⟨V1,?_,B2,hos,a9,Z3,λb E8 _=>hfr b E8,?_,Nat.le_succ _,⟨[],rfl,?_⟩,?_,?_,λ_ _ b E8 _=>hfr b E8⟩
 ·intro i g q hq;by_cases e:i=H.nx
  ·subst e;exact .inr (.inl ⟨ai _,ba _⟩)
  rw[W5 i e]at hq;exact .inl hq
 ·intro i x g q hx hg hq;rw[D3]at hx;by_cases e:i=H.nx
  ·subst e;rw[ad rfl]at hx;cases hx;rw[J0 g q hg hq];exact .inl hb
  rw[ab e]at hx;rw[W5 i e]at hq;exact .inr ⟨x,g,q,hx,hg,hq,rfl,rfl⟩
 ·intro i hi _;rw[D3,ab aa]
 ·intro i x hx;rw[D3,ab (by have:=hR.Uz hx;omega)];exact⟨x,hx⟩
 intro i x hx;rw[D3]at hx;by_cases e:i=H.nx
 ·subst e;exact .inr ⟨ai _,ba _⟩
 rw[ab e]at hx;exact .inl ⟨x,hx⟩
end
def Rel.drew{m:Nat}{β:Pl}{H:Hp}{w:World}(hR:Rel m β H w)(n:Nat):Rel m β H { w with drawn:=n }where
 obj:=λid o ho=>ji.mono (λ_ _ _ h=>h) (hR.obj id o ho) (λ_=>rfl) λ_ _ _ _=>rfl
 sep:=hR.sep
 wf:=hR.wf
 free:=hR.free
def zF{m:Nat}{β:Pl}{H:Hp}{w:World}(hR:Rel m β H w)(hm:m<=m)(S0:H.nx<m)(cells:List AC)(vs:Array Value)(e:TypeId)(hc:CRs β cells vs.toList)(w0:World)
  (h0:w0.heap=w.heap) (hos:w0.os=w.os) (a9:w0.tape=w.tape) (Z3:w0.output=w.output) (extra:Array Value):
  Rel m (plus β H.nx 0 ⟨w.heap.size,0,vs.size+extra.size,cells.length⟩) (H.new (.arr cells e 0 0)) { w0 with heap:=w0.heap.push (.cells (vs++extra) e) } /\
  Ext β H w (plus β H.nx 0 ⟨w.heap.size,0,vs.size+extra.size,cells.length⟩) (H.new (.arr cells e 0 0)) { w0 with heap:=w0.heap.push (.cells (vs++extra) e) }:=by
 have hlen:vs.size=cells.length:=by simpa using hc.length
 refine pO hR hm S0 _ _ (ai _) (by rw[h0];simp) hos a9 Z3 ?_ ?_ ?_
 ·intro b hb;show(w0.heap.push _)[b]?=_;rw[Array.getElem?_push,ab (by rw[h0];omega),h0]
 ·intro g hg;have:=hg.2;omega
 refine⟨ai _,?_,?_,?_⟩
 ·intro g _ hg;have J5:g=0:=aa;subst J5;refine⟨_,bm _ _ _ _,⟨vs++extra,?_,by simp,by simp;omega,ai _,?_⟩,λ_=>rfl⟩
  ·show(w0.heap.push _)[w.heap.size]?=_;rw[<-h0,HI]
  intro k x hk hx;have X3:k<cells.length:=hk;have hkv:k<vs.size:=aa;refine⟨vs[k],?_,?_⟩
  ·show(vs++extra)[0+k]?=_;rw[Nat.zero_add,HJ hkv,sx hkv]
  refine CR.mono (jG (hR.free H.nx 0 (ai _) S0)) (hc.get k x vs[k] hx ?_);simp[hkv]
 ·intro g g' p p' _ h1 h2 hp U9;have e1:g=0:=aa;have e2:g'=0:=aa;subst e1 e2;rw[hp]at U9;cases U9;exact⟨ai _,λ_=>rfl⟩
 intro g hg;rw[cD _ _ _ _ aa];exact hR.free H.nx g (ai _) S0
def NM(H:Hp):ah->Prop
 |.val _ H'=>H.nx<=H'.nx
 |.tN l=>l≠[]/\∀x∈l,H.nx<=x.2.nx
 |_=>True
section
variable{P:Program}{H:Hp}
def NM.nd{α:Type}{o:Option α}{s:String}{f:α->ah}(h:∀a,NM H (f a)):NM H (nd o s f):=by cases o with|none=>exact trivial|some a=>exact h a
def NM.guard{b:Bool}{s:String}{n:ah}(h:NM H n):NM H (aN b s n):=by cases b with|true=>exact h|false=>exact trivial
def NM.ifE{b:Bool}{x y:ah}(hx:NM H x)(hy:NM H y):NM H (ifE b x y):=by cases b with|true=>exact hx|false=>exact hy
def NM.aG{α:Type}{o:Option α}{e:ah}{f:α->ah}(he:NM H e)(h:∀a,NM H (f a)):NM H (aG o e f):=by cases o with|none=>exact he|some a=>exact h a
def NM.xF{x:AV}{e:ah}{f:Nat->Nat->Nat->Nat->ah}(he:NM H e)(h:∀a b c d,NM H (f a b c d)):NM H (xF x e f):=by
 cases x with
 |one c=>cases c with
  |o q=>cases q<;>first|exact he|exact h _ _ _ _
  |b _=>exact he
  |i _ _=>exact he
 |agg _=>exact he
 |tup _=>exact he
 |any=>exact he
def NM.slE{x:AV}{e:ah}{f:Nat->Nat->Nat->Nat->Nat->ah}(he:NM H e)(h:∀a b c d g,NM H (f a b c d g)):NM H (slE x e f):=by
 cases x with
 |one c=>cases c with
  |o q=>cases q<;>first|exact he|exact h _ _ _ _ _
  |b _=>exact he
  |i _ _=>exact he
 |agg _=>exact he
 |tup _=>exact he
 |any=>exact he
def NM.gW{x:AV}{e:ah}{f:IntKind->Int->ah}(he:NM H e)(h:∀a b,NM H (f a b)):NM H (gW x e f):=by
 cases x with
 |one c=>cases c with|o q=>exact he|b _=>exact he|i _ _=>exact h _ _
 |agg _=>exact he
 |tup _=>exact he
 |any=>exact he
def NM.gj{x:AV}{e:ah}{f:Bool->ah}(he:NM H e)(h:∀a,NM H (f a)):NM H (gj x e f):=by
 cases x with
 |one c=>cases c with|o q=>exact he|b _=>exact h _|i _ _=>exact he
 |agg _=>exact he
 |tup _=>exact he
 |any=>exact he
def NM.lC{x:AV}{e:ah}{f:List UInt8->ah}(he:NM H e)(h:∀a,NM H (f a)):NM H (lC x e f):=by
 cases x with
 |one c=>cases c with
  |o q=>cases q<;>first|exact he|exact h _
  |b _=>exact he
  |i _ _=>exact he
 |agg _=>exact he
 |tup _=>exact he
 |any=>exact he
def NM.qN{o:Option aX}{e:ah}{f:List AC->TypeId->Nat->Nat->ah}(he:NM H e)(h:∀a b c d,NM H (f a b c d)):NM H (qN o e f):=by
 cases o with
 |none=>exact he
 |some o=>cases o with|arr _ _ _ _=>exact h _ _ _ _|oth _=>exact he|ro _=>exact he
def NM.same{v:AV}:NM H (.val v H):=ai _
def NM.mod{v:AV}{i:Nat}{o:aX}:NM H (.val v (H.mod i o)):=ai _
def NM.new{v:AV}{o:aX}:NM H (.val v (H.new o)):=Nat.le_succ _
def NM.bad{s:String}:NM H (.bad s):=trivial
def YO{a:Bool}{n:Nat}{v:AV}:NM H (eu H a n v):=
 NM.xF NM.bad λ_ _ _ _=>NM.nd λc=>NM.ifE NM.same (by cases c<;>first|exact NM.bad|exact NM.same)
def Xa{n:Nat}{x v:AV}:NM H (lR H n x v):=NM.xF NM.bad λ_ _ _ _=>NM.qN NM.bad λ_ _ _ _=>NM.guard NM.mod
def Fm{c:List AC}{e:TypeId}:NM H (oe H c e):=NM.new
def mL{ok:Bool}{v:AV}{b:Bool}:NM H (bO H ok v b):=by cases ok with|false=>exact NM.same|true=>exact NM.guard NM.same
def Ru{kt:TypeId}{z k:AV}{ok:Bool}{l:List (Int×AV)}:NM H (rS P H kt z k ok l):=by
 refine NM.guard ?_;cases k with
 |one c=>
  cases c with
  |i kd n=>
   refine NM.guard ?_;show NM H (aG (fq n l) _ _);cases fq n l with
   |none=>exact mL
   |some v=>exact mL
  |b _=>exact NM.bad
  |o _=>exact NM.bad
 |agg _=>exact NM.bad
 |tup _=>exact NM.bad
 |any=>exact NM.bad
def Rv{kt:TypeId}{z m k:AV}{ok:Bool}:NM H (bR P H kt z m k ok):=by
 unfold bR;split
 ·exact NM.nd λ_=>mL
 ·split
  ·refine NM.nd λ_=>?_;split
   ·exact mL
   ·exact mL
   exact NM.bad
  ·exact Ru
  exact NM.bad
 exact NM.bad
def we{kt:TypeId}{m k x:AV}:NM H (bE P H kt m k x):=by
 unfold bE;split
 ·split
  ·exact NM.nd λ_=>NM.guard (NM.nd λ_=>NM.ifE NM.mod NM.mod)
  exact NM.bad
 exact NM.bad
def YX{x:AV}:NM H (ib H x):=by
 unfold ib;split
 ·split
  ·exact NM.same
  ·split
   ·refine NM.guard ?_;split
    ·exact NM.same
    refine NM.guard ⟨by simp,λx hx=>?_⟩;obtain⟨e,_,rfl⟩:=List.mem_map.1 hx;exact ai _
   exact NM.bad
  exact NM.bad
 exact NM.bad
def Uh{x:AV}:NM H (kD H x):=by
 unfold kD;split
 ·split
  ·split
   ·split
    ·refine NM.guard ?_;split
     ·exact NM.same
     exact NM.bad
    exact NM.bad
   exact NM.bad
  exact NM.bad
 exact NM.bad
def Qw{t:TypeId}{s x:AV}:NM H (bM P H t s x):=by
 refine NM.nd λes=>NM.nd λby_=>NM.nd λz=>NM.guard (NM.nd λnc=>?_);unfold fC;split
 ·exact NM.ifE NM.same (NM.guard NM.new)
 ·exact NM.qN NM.bad λ_ _ _ _=>NM.guard (NM.ifE NM.same (NM.ifE NM.mod NM.mod))
 exact NM.bad
def Yo{t:TypeId}{s x:AV}:NM H (Gm P H t s x):=by
 refine NM.nd λes=>?_;split
 ·exact NM.guard (NM.nd λ_=>NM.qN NM.bad λ_ _ _ _=>NM.guard NM.mod)
 ·exact NM.same
 ·exact NM.same
 ·exact NM.same
 exact NM.bad
def Yj{f:AV}{l:List AV}:NM H (uv P f l):=by
 cases f with
 |one c=>cases c with
  |o q=>cases q<;>first|exact trivial|exact NM.guard trivial
  |b _=>exact trivial
  |i _ _=>exact trivial
 |agg _=>exact trivial
 |tup _=>exact trivial
 |any=>exact trivial
def Cc{tm:PT AV}{o:Oper}:NM H (aD P tm H o):=by
 unfold aD;refine NM.guard ?_;split
 ·exact NM.guard NM.same
 exact NM.bad
def yp(i:Nat):∀l:List (Bool×List AC),NM H (Nat.rec (motive:=λ_=>List (Bool×List AC)->ah)
   (λl=>List.rec (motive:=λ_=>ah) (.bad "extract") (λx _ _=>ifE x.1 (.val (.agg x.2) H) (List.rec (motive:=λ_=>ah) (.bad "extract") (λc m _=>List.rec (motive:=λ_=>ah) (.val (.one c) H) (λ_ _ _=>.bad "extract") m) x.2)) l)
   (λ_ ih l=>List.rec (motive:=λ_=>ah) (.bad "extract") (λ_ l' _=>ih l') l) i l):=by
 induction i with
 |zero=>
  intro l;cases l with
  |nil=>exact NM.bad
  |cons x l=>
   refine NM.ifE NM.same ?_;obtain⟨b,c⟩:=x;cases c with
   |nil=>exact NM.bad
   |cons y c=>cases c<;>first|exact NM.same|exact NM.bad
 |succ i ih=>
  intro l;cases l with
  |nil=>exact NM.bad
  |cons x l=>exact ih l
def Mn{x:AV}{i:Nat}:NM H (eI H x i):=by
 cases x with
 |tup l=>exact yp i l
 |one _=>exact NM.bad
 |agg _=>exact NM.bad
 |any=>exact yp i []
def Wn{x:AV}:NM H (kE H x):=by
 unfold kE;split
 ·exact NM.new
 ·split
  ·exact NM.new
  exact NM.bad
 exact NM.bad
def abb{k:Nat}{x:AV}:NM H (eD H k x):=by
 match k with
 |0=>exact NM.lC NM.bad λ_=>NM.same
 |1=>exact NM.slE (NM.guard NM.same) λ_ _ _ _ _=>NM.same
 |k+2=>
  show NM H (gk H x);unfold gk;split
  ·exact NM.same
  ·split
   ·exact NM.same
   exact NM.bad
  exact NM.bad
def aaI{kd:Nat}{op:BinOp}{f:BF}{x y:AV}{alt:ah}(ha:NM H alt):NM H (cF H kd op f x y alt):=by
 cases x with
 |one c=>cases c with
  |o q=>
   show NM H (oL H kd op (.one (.o q)) y alt);refine NM.lC ?_ λ_=>NM.lC ha λ_=>NM.aG ha λ_=>NM.same;unfold sO;split
   ·split
    ·exact NM.same
    ·exact NM.same
    exact NM.bad
   exact ha
  |b _=>exact ha
  |i k a=>show NM H (Eng.gW y alt λk' b=>oK H f k a k' b alt);exact NM.gW ha λ_ _=>NM.ifE (by cases f<;>first|exact NM.same|exact ha) ha
 |agg _=>exact ha
 |tup _=>exact ha
 |any=>exact ha
def Ur{fo n:Nat}{a:Bool}{x:AV}:NM H (zn H fo n a x):=by
 cases x with
 |agg l=>exact NM.ifE (NM.guard NM.same) (NM.nd λ_=>NM.same)
 |one _=>exact NM.bad
 |tup _=>exact NM.bad
 |any=>exact NM.bad
def Kd{x:AV}:NM H (kh H x):=by
 cases x with
 |one c=>cases c with
  |o q=>cases q<;>first|exact NM.bad|exact NM.same
  |b _=>exact NM.bad
  |i _ _=>exact NM.bad
 |agg _=>exact NM.bad
 |tup _=>exact NM.bad
 |any=>exact NM.bad
def SF.pI{α:Type}{o:Option α}{s:String}{f:α->SF}{tm:PT AV}(h:∀a,NM H ((f a).run tm H)):NM H ((ndF o s f).run tm H):=by
 cases o with
 |none=>exact trivial
 |some a=>exact h a
def SF.YD{b:Bool}{s:String}{f:SF}{tm:PT AV}(h:NM H (f.run tm H)):NM H ((Eng.ifE b f (oH s)).run tm H):=by
 cases b with
 |false=>exact trivial
 |true=>exact h
def Hx{tm:PT AV}(o:Oper):NM H ((bf P o).run tm H):=by
 have hp:∀o,NM H (aD P tm H o):=λ_=>Cc;obtain⟨dst,op,type,pos,after,guard⟩:=o;cases op with
 |move x=>cases x<;>exact NM.same
 |assign x=>cases x<;>exact NM.same
 |pick c x y=>exact NM.gj NM.bad λ_=>NM.same
 |alloc e=>exact SF.pI λ_=>Fm
 |box e x=>exact NM.guard Fm
 |build t parts=>exact SF.pI λ_=>SF.pI λ_=>SF.pI λ_=>NM.nd λ_=>NM.same
 |buildSlice t len parts=>exact SF.pI λ_=>SF.pI λ_=>SF.YD (SF.pI λ_=>NM.nd λ_=>NM.new)
 |load t x=>exact SF.pI λ_=>YO
 |store t x y=>exact SF.pI λ_=>Xa
 |nilCheck x=>exact Kd
 |binOp op t x y c=>exact aaI (hp _)
 |unOp op t x=>
  show NM H (Me H op _ (aD P tm H _));unfold Me;split
  ·exact NM.gj Cc λ_=>NM.same
  exact Cc
 |convert s d x=>exact hp _
 |fieldAddr s x f=>exact SF.pI λ_=>NM.xF NM.bad λ_ _ _ _=>NM.guard NM.same
 |field t x f=>exact SF.pI λ_=>SF.pI λ_=>Ur
 |indexAddr t x i=>exact SF.pI λ_=>NM.slE NM.bad λ_ _ _ _ _=>NM.gW NM.bad λ_ _=>NM.nd λ_=>NM.guard NM.same
 |index t x i=>exact NM.ifE (NM.lC (hp _) λ_=>NM.gW (hp _) λ_ _=>NM.nd λ_=>NM.nd λ_=>NM.same) (hp _)
 |slice t x lo hi mx=>
  cases mx with
  |some _=>exact trivial
  |none=>
   cases he:cG P t with
   |none=>
    have:bf P ⟨dst,.slice t x lo hi none,type,pos,after,guard⟩=.mk λtm h=>aD P tm h ⟨dst,.slice t x lo hi none,type,pos,after,guard⟩:=by simp[bf,he]
    rw[this];exact hp _
   |some p=>
    have:bf P ⟨dst,.slice t x lo hi none,type,pos,after,guard⟩=.mk λtm h=>eU h p.2 ((opF x).ev tm) (lo.map (ev tm)) (hi.map (ev tm)) (aD P tm h ⟨dst,.slice t x lo hi none,type,pos,after,guard⟩):=by simp[bf,he]
    rw[this];exact NM.slE (hp _) λ_ _ _ _ _=>NM.nd λ_=>NM.nd λ_=>NM.guard NM.same
 |extract x i=>exact Mn
 |makeFunc fn first caps=>
  cases fn with
  |func f=>exact SF.YD (NM.nd λ_=>NM.same)
  |_=>exact trivial
 |makeMap t r=>
  cases r with
  |some _=>exact trivial
  |none=>exact NM.new
 |makeSlice t l c=>exact NM.nd λ_=>NM.nd λ_=>NM.nd λ_=>NM.gW NM.bad λ_ _=>NM.gW NM.bad λ_ _=>NM.nd λ_=>NM.nd λ_=>NM.guard NM.new
 |lookup t x k ok=>exact SF.pI λ_=>SF.pI λ_=>Rv
 |mapUpdate t x k y=>exact SF.pI λ_=>we
 |insert t x k y=>exact SF.pI λ_=>we
 |range t x=>exact SF.pI λ_=>Wn
 |next x b=>
  cases b with
  |true=>exact trivial
  |false=>exact YX
 |entry x=>exact Uh
 |call c=>
  show NM H ((yg P _ c).run tm H);unfold yg;split
  ·exact Yj
  ·unfold mA;split
   ·exact SF.YD Qw
   ·exact SF.YD Yo
   ·exact SF.pI λ_=>abb
   ·exact hp _
   ·exact hp _
   exact trivial
  exact trivial
 |_=>exact trivial
end
def RG{α:Type}(k:Nat)(nx:α->Nat)(r:R α):Prop:=∀outs,r=.ok outs->outs≠[]/\∀x∈outs,k<=nx x
section
variable{α γ:Type}{k:Nat}{nx:α->Nat}{nx':γ->Nat}
def RG.bad{s:String}:RG k nx (.bad s:R α):=λ_ h=>by cases h
def RG.one{x:α}(h:k<=nx x):RG k nx (.ok [x]):=λouts h'=>by
 cases h'
 exact⟨by simp,λy hy=>by rw[List.mem_singleton.1 hy];exact h⟩
def RG.dO{f:α->R γ}:∀(l:List α),(∀x∈l,RG k nx' (f x))->RG k nx' (Eng.dO f l)
 |[],_=>RG.bad
 |[x],h=>h x (List.mem_singleton.2 rfl)
 |x::y::l,h=>by
  have h1:=h x (aT ..);have h2:=RG.dO (y::l) λz hz=>h z (aR _ hz);intro outs ho;have D4:AB (f x) (Eng.dO f (y::l))=.ok outs:=ho;cases ha:f x with
  |bad s=>rw[ha]at D4;cases D4
  |ok oa=>
   cases hb:Eng.dO f (y::l)with
   |bad s=>rw[ha,hb]at D4;cases D4
   |ok ob=>
    rw[ha,hb]at D4;have he:oa++ob=outs:=by injection D4
    subst he;refine⟨λh0=>(h1 oa ha).1 (List.append_eq_nil_iff.1 h0).1,λz hz=>?_⟩;rcases List.mem_append.1 hz with hz|hz
    ·exact(h1 oa ha).2 z hz
    exact(h2 ob hb).2 z hz
def RG.bind{r:R α}{f:α->R γ}(hr:RG k nx r)(hf:∀x,k<=nx x->RG k nx' (f x)):RG k nx' (r.bind f):=by
 cases r with
 |bad s=>exact RG.bad
 |ok l=>exact RG.dO l λx hx=>hf x ((hr l rfl).2 x hx)
def RG.le{r:R α}{k':Nat}(hr:RG k nx r)(h:k'<=k):RG k' nx r:=λouts ho=>⟨(hr outs ho).1,λx hx=>aS h ((hr outs ho).2 x hx)⟩
def RG.ifE{b:Bool}{x y:R α}(hx:RG k nx x)(hy:RG k nx y):RG k nx (Eng.ifE b x y):=by cases b with|true=>exact hx|false=>exact hy
def RG.aG{o:Option γ}{e:R α}{f:γ->R α}(he:RG k nx e)(h:∀a,RG k nx (f a)):RG k nx (Eng.aG o e f):=by cases o with|none=>exact he|some a=>exact h a
end
abbrev nV(x:AV×Hp):Nat:=x.2.nx
abbrev nA(x:ag×Hp):Nat:=x.2.nx
abbrev nE(x:au×ag×Hp):Nat:=x.2.2.nx
def LA{k:Nat}{tm:PT AV}{g:Option (Option Tmp×Bool)}{yes no:R (ag×Hp)}(hy:RG k nA yes)(hn:RG k nA no):RG k nA (cJ tm g yes no):=by
 unfold cJ;refine RG.aG hy λp=>RG.aG hn λt=>RG.aG hn λv=>?_;cases v with
 |one c=>cases c with|b b=>exact RG.ifE (RG.ifE hy hn) (RG.ifE hn hy)|i _ _=>exact hn|o _=>exact RG.bad
 |agg _=>exact hn
 |tup _=>exact hn
 |any=>exact RG.bad
structure RecM(rec:Rec):Prop where
 code:∀r c a h,RG h.nx nE (rec.code r c a h)
 call:∀f args h,RG h.nx nV (rec.call f args h)
section
variable{E:Env}{rec:Rec}(N0:RecM rec)
theorem yO{k id:Nat}{x:au×ag×Hp}(hk:k<=nE x):RG k nV (mT id x):=by
 unfold mT;split
 ·split<;>exact RG.one hk
 exact RG.bad
include N0
theorem yP{k id:Nat}{body:Code}{x:au×ag×Hp}(hk:k<=nE x):RG k nV (ir rec id body x):=by
 unfold ir;split
 ·refine RG.bind (nx:=nE) (RG.le (N0.code _ _ _ _) hk) λy hy=>yO hy
 exact RG.bad
theorem Bg{id:Nat}{args:List AV}{h:Hp}:RG h.nx nV (jD rec id args h):=by
 unfold jD;split
 ·exact RG.ifE (RG.bind (nx:=nE) (N0.code _ _ _ _) λx hx=>yP N0 hx) RG.bad
 exact RG.bad
theorem DO{f:FuncId}{args:List AV}{h:Hp}:RG h.nx nV (rk E rec f args h):=by unfold rk;exact RG.aG (RG.aG (N0.call _ _ _) λ_=>RG.one (ai _)) λ_=>RG.one (ai _)
theorem DT{h:Hp}{n:ah}(hn:NM h n):RG h.nx nV (mF E rec h n):=by
 cases n with
 |val v h'=>exact RG.one hn
 |tN l=>intro outs ho;cases ho;exact hn
 |enter f args=>exact DO N0
 |round id args=>exact Bg N0
 |bad s=>exact RG.bad
omit N0 in
theorem nO{k0:Nat}{a:ag}{dst:Option Tmp}{v:AV}{h:Hp}{k:ag->Hp->R (ag×Hp)}(hk:∀a,RG k0 nA (k a h)):RG k0 nA (jA a dst v h k):=by unfold jA;exact RG.aG (hk _) λd=>RG.ifE (hk _) RG.bad
theorem Xo{a:ag}{dst:Option Tmp}{h:Hp}{k:ag->Hp->R (ag×Hp)}{n:ah}(hn:NM h n)(hk:∀a h',RG h'.nx nA (k a h')):RG h.nx nA (qs E rec a dst h k n):=by
 cases n with
 |val v h'=>exact nO λa=>(hk a h').le hn
 |tN l=>exact RG.dO l λx hx=>nO λa=>(hk a x.2).le (hn.2 x hx)
 |enter f args=>exact RG.bind (nx:=nV) (DO N0) λx hx=>nO λa=>(hk a x.2).le hx
 |round id args=>exact RG.bind (nx:=nV) (Bg N0) λx hx=>nO λa=>(hk a x.2).le hx
 |bad s=>exact RG.bad
theorem vE{P:Program}{ops:List Oper}:∀(l:List Oper)(a:ag)(h:Hp),RG h.nx nA (gm E rec (jH P ops l) a h)
 |[],a,h=>RG.one (ai _)
 |o::l,a,h=>by show RG h.nx nA (cJ a.tm (gOf ops o.guard) (qs E rec a o.dst h (gm E rec (jH P ops l)) ((bf P o).run a.tm h)) (jA a o.dst aQ h (gm E rec (jH P ops l))));exact LA (Xo N0 (Hx o) λa h'=>vE l a h') (nO λa=>vE l a h)
omit N0 in
theorem Uc{kk j:Nat}{a:ag}{dst:Option Tmp}{h:Hp}{sub:PT aX}{us did:List Did}{K:List Did->ag->Hp->R (ag×Hp)}{x:R (AV×Hp)}(hx:RG h.nx nV x)(hK:∀d a h',RG h'.nx nA (K d a h')):
  RG h.nx nA (Bb kk j a dst h sub us did K x):=by
 cases x with
 |bad s=>exact RG.bad
 |ok l=>
  cases l with
  |nil=>exact RG.bad
  |cons y l=>
   cases l with
   |cons z l=>exact RG.bad
   |nil=>have h1:=(hx [y] rfl).2 y (List.mem_singleton.2 rfl);exact RG.ifE (nO λa=>RG.le (hK _ _ _) h1) RG.bad
theorem xo{P:Program}{ops:List Oper}:∀(l:List Oper)(j:Nat)(ms:List Nat)(did:List Did)(a:ag)(h:Hp),RG h.nx nA (eG E rec (jH P ops l) j ms did a h)
 |[],j,ms,did,a,h=>RG.one (ai _)
 |o::l,j,ms,did,a,h=>by
  cases ms with
  |nil=>exact RG.bad
  |cons m ms=>
   show RG h.nx nA (cJ a.tm (gOf ops o.guard)
    (Bb (cx o) j a o.dst h (bu h.t h.nx a.tm o (bk m did)) (bk m did) did (eG E rec (jH P ops l) (Nat.add j 1) ms) (Un E rec a.tm ⟨bu h.t h.nx a.tm o (bk m did),h.nx,[]⟩ (bf P o)))
    (jA a o.dst aQ h (eG E rec (jH P ops l) (Nat.add j 1) ms did)))
   refine LA (Uc ?_ λd a h'=>xo l _ ms d a h') (nO λa=>xo l _ ms did a h);have hn:NM ⟨bu h.t h.nx a.tm o (bk m did),h.nx,[]⟩ ((bf P o).run a.tm ⟨bu h.t h.nx a.tm o (bk m did),h.nx,[]⟩):=Hx o;exact DT N0 hn
omit N0 in
theorem rz{k:Nat}{e:au}{n r:R (au×ag×Hp)}{x:Nat->R (au×ag×Hp)}(hn:RG k nE n)(hx:∀i,RG k nE (x i))(hr:RG k nE r):RG k nE (exE e n x r):=by
 cases e with
 |normal=>exact hn
 |exit i=>exact hx i
 |ret=>exact hr
omit N0 in
theorem yN{k l:Nat}{a:ag}{x:AV×Hp}(hk:k<=nV x):RG k nE (im l a x):=by
 unfold im;split
 ·split
  ·exact RG.bad
  split
  ·exact RG.one hk
  ·exact RG.one hk
  ·exact RG.one hk
  exact RG.bad
 exact RG.bad
theorem Ml{r:Option Nat}{f:OpF}{ps:List Tmp}{as bo:Code}{a:ag}{h:Hp}:RG h.nx nE (kG E rec r f ps as bo a h):=by
 unfold kG;split
 ·exact RG.bad
 rename_i d h1 a1 hs
 have h0:h.nx<=h1.nx:=by
  unfold pN at hs;split at hs
  ·cases hs;exact Nat.le_succ _
  split at hs
  ·cases hs;exact ai _
  cases hs
 split
 ·refine RG.ifE (RG.bind (nx:=nV) (RG.le (N0.call _ _ _) (aS h0 (Nat.le_succ _))) λx hx=>yN hx) RG.bad
 exact RG.bad
omit N0 in
theorem pz:∀{l:List (au×ag×Hp)}{x:au×ag×Hp},x∈l->x.2.2.nx<=wj l
 |y::l,x,h=>by
  unfold wj;rcases List.mem_cons.1 h with rfl|h
  ·exact sy _ _
  exact aS (pz h) (pY _ _)
omit N0 in
theorem rP(h:Hp)(l:List (au×ag×Hp)):rO h l=l\/∃x,x∈l/\(∀z∈l,z.1=x.1/\z.2.1.nt=x.2.1.nt/\z.2.1.dfr=x.2.1.dfr/\∀id,id<h.nx->z.2.2.get id=x.2.2.get id\/(∃k,Ay l id k)\/∀z∈l,Dq z id)/\rO h l=[(x.1,⟨vR l x.2.1.tm x.2.1.nt,x.2.1.nt,x.2.1.dfr⟩,vP h l x.2.2.t)]:=by
 cases l with
 |nil=>exact .inl rfl
 |cons x l=>
  cases l with
  |nil=>exact .inl rfl
  |cons y l=>
   have e:rO h (x::y::l)=UX h (x::y::l) x:=rfl;by_cases hc:∀z∈x::y::l,z.1=x.1/\z.2.1.nt=x.2.1.nt/\z.2.1.dfr=x.2.1.dfr/\∀id,id<h.nx->z.2.2.t.get id=x.2.2.t.get id\/(∃k,Ay (x::y::l) id k)\/∀z∈x::y::l,Dq z id
   ·exact .inr ⟨x,aT ..,hc,by rw[e];exact ad hc⟩
   exact .inl (by rw[e];exact ab hc)
omit N0 in
theorem Jy{b:Bool}{h:Hp}{r:R (au×ag×Hp)}{outs:List (au×ag×Hp)}(hj:oV b h r=.ok outs):∃l,r=.ok l/\(outs=l\/outs=rO h l):=by
 cases b with
 |false=>exact⟨outs,hj,.inl rfl⟩
 |true=>
  cases r with
  |ok l=>cases hj;exact⟨l,rfl,.inr rfl⟩
  |bad s=>cases hj
omit N0 in
theorem UT{h:Hp}{l:List (au×ag×Hp)}{m:Nat}(hb:∀x∈rO h l,nE x<=m):∀x∈l,nE x<=m:=by
 rcases rP h l with e|⟨x,hx,hc,e⟩
 ·rw[e]at hb;exact hb
 intro y hy;rw[e]at hb;exact aS (pz hy) (hb _ (List.mem_singleton.2 rfl))
omit N0 in
theorem RG.oV{b:Bool}{h:Hp}{r:R (au×ag×Hp)}{k:Nat}(hr:RG k nE r):RG k nE (oV b h r):=by
 intro outs ho;obtain⟨l,rfl,e|e⟩:=Jy ho
 ·rw[e];exact hr l rfl
 obtain⟨h1,h2⟩:=hr l rfl;rw[e];rcases rP h l with e|⟨x,hx,hc,e⟩
 ·rw[e];exact⟨h1,h2⟩
 rw[e];refine⟨by simp,λy hy=>?_⟩;rw[List.mem_singleton.1 hy];exact aS (h2 x hx) (pz hx)
theorem vC:∀(c:Code)(r:Option Nat)(a:ag)(h:Hp),RG h.nx nE ((codeF E c).run rec r a h):=by
 intro c;induction c with
 |skip=>intro r a h;exact RG.one (ai _)
 |region id ops draw=>
  intro r a h;cases draw with
  |false=>exact RG.bind (nx:=nA) (vE N0 _ a h) λx hx=>RG.one hx
  |true=>
   show RG h.nx nE ((Eng.ifE (iu ops) (CF.mk λrec _ a h=>(eG E rec (uF E.P ops) 0 (gR [] 0 ops.toList) [] a h).bind iJ) (CF.mk λ_ _ _ _=>.bad "draw - slots")).run rec r a h)
   cases iu ops with
   |false=>exact RG.bad
   |true=>exact RG.bind (nx:=nA) (xo N0 _ _ _ _ a h) λx hx=>RG.one hx
 |seq x y hx hy=>intro r a h;refine RG.bind (nx:=nE) (hx r a h) λz hz=>rz ((hy r _ _).le hz) (λ_=>RG.one hz) (RG.one hz)
 |cond c x y hx hy=>
  intro r a h;show RG h.nx nE (gj ((opF c).ev a.tm) (.bad "cond") λb=>Eng.ifE b ((codeF E x).run rec r a h) ((codeF E y).run rec r a h))
  cases(opF c).ev a.tm with
  |one q=>
   cases q with
   |b b=>exact RG.ifE (hx r a h) (hy r a h)
   |i _ _=>exact RG.bad
   |o _=>exact RG.bad
  |agg _=>exact RG.bad
  |tup _=>exact RG.bad
  |any=>exact RG.bad
 |block id x hx=>intro r a h;exact RG.oV (RG.bind (nx:=nE) (hx r a h) λz hz=>rz (RG.one hz) (λ_=>RG.ifE (RG.one hz) (RG.one hz)) (RG.one hz))
 |loop x hx=>intro r a h;refine RG.bind (nx:=nE) (hx r a h) λz hz=>rz (RG.le (N0.code _ _ _ _) hz) (λ_=>RG.one hz) (RG.one hz)
 |rangeFunc f ps as bo _ _=>intro r a h;exact Ml N0
 |exit id=>intro r a h;exact RG.one (ai _)
 |scope x hx=>intro r a h;exact hx r a h
 |label l=>intro r a h;exact RG.one (ai _)
 |goto l=>intro r a h;exact RG.bad
 |ret=>intro r a h;exact RG.one (ai _)
 |refuse x=>intro r a h;exact RG.bad
end
def yk:∀(l:List Nat)(h h':Hp),closeAll h l=some h'->h'.nx=h.nx
 |[],h,h',e=>by cases e;rfl
 |d::l,h,h',e=>by
  unfold closeAll at e;split at e
  ·have:=yk l _ h' e;exact this
  cases e
def um{E:Env}{k:Nat}{res:List ResultVar}{x:au×ag×Hp}(hk:k<=nE x):RG k nV (aK E res x):=by
 have key:RG k nV (aG (closeAll x.2.2 x.2.1.dfr) (.bad "marks") λh2=>aG (dq E.P res x.2.1.tm h2) (.bad "results") λl=>.ok [(gT l,h2)]):=by
  cases hc:closeAll x.2.2 x.2.1.dfr with
  |none=>exact RG.bad
  |some h2=>refine RG.aG (o:=dq E.P res x.2.1.tm h2) RG.bad λl=>RG.one ?_;show k<=h2.nx;rw[yk _ _ _ hc];exact hk
 unfold aK;cases x.1 with
 |normal=>exact key
 |exit i=>exact RG.bad
 |ret=>exact key
def vY:∀{l:List (AV×Hp)}{x:AV×Hp},x∈l->x.2.nx<=rW l
 |y::l,x,h=>by
  show x.2.nx<=Nat.max y.2.nx (rW l);rcases List.mem_cons.1 h with rfl|h
  ·exact sy _ _
  exact aS (vY h) (pY _ _)
def rQ(h:Hp)(l:List (AV×Hp)):BK h l=l\/∃x,x∈l/\(∀z∈l,z.1=x.1/\∀id,id<h.nx->z.2.get id=x.2.get id)/\BK h l=[(x.1,Jz h l x.2.t)]:=by
 cases l with
 |nil=>exact .inl rfl
 |cons x l=>
  cases l with
  |nil=>exact .inl rfl
  |cons y l=>
   have e:BK h (x::y::l)=aaj h (x::y::l) x:=rfl;by_cases hc:∀z∈x::y::l,z.1=x.1/\∀id,id<h.nx->z.2.t.get id=x.2.t.get id
   ·exact .inr ⟨x,aT ..,hc,by rw[e];exact ad hc⟩
   exact .inl (by rw[e];exact ab hc)
def JA{h:Hp}{r:R (AV×Hp)}{outs:List (AV×Hp)}(hj:yy h r=.ok outs):∃l,r=.ok l/\outs=BK h l:=by
 cases r with
 |ok l=>cases hj;exact⟨l,rfl,rfl⟩
 |bad s=>cases hj
def UW{h:Hp}{l:List (AV×Hp)}{m:Nat}(hb:∀x∈BK h l,nV x<=m):∀x∈l,nV x<=m:=by
 rcases rQ h l with e|⟨x,hx,hc,e⟩
 ·rw[e]at hb;exact hb
 intro y hy;rw[e]at hb;exact aS (vY hy) (hb _ (List.mem_singleton.2 rfl))
def RG.join{h:Hp}{r:R (AV×Hp)}{k:Nat}(hr:RG k nV r):RG k nV (yy h r):=by
 intro outs ho;obtain⟨l,rfl,rfl⟩:=JA ho;obtain⟨h1,h2⟩:=hr l rfl;rcases rQ h l with e|⟨x,hx,hc,e⟩
 ·rw[e];exact⟨h1,h2⟩
 rw[e];refine⟨by simp,λy hy=>?_⟩;rw[List.mem_singleton.1 hy];exact aS (h2 x hx) (vY hx)
def Rb{E:Env}{rec:Rec}(N0:RecM rec){f:FuncId}{args:List AV}{h:Hp}:RG h.nx nV (nX E rec f args h):=by
 unfold nX Uv;split
 ·split
  ·exact RG.ifE (RG.join (RG.bind (nx:=nE) (vC N0 _ none _ h) λx hx=>um hx)) RG.bad
  exact RG.bad
 exact RG.bad
def pq(E:Env):∀n,RecM (eval E n)
 |0=>⟨λ_ _ _ _=>RG.bad,λ_ _ _=>RG.bad⟩
 |n+1=>⟨λr c a h=>vC (pq E n) c r a h,λf args h=>Rb (pq E n)⟩
def Sz{β:Pl}{v:Value}(h:v.oneCell'=true):CR β (cOf v) v:=by
 unfold cOf;split
 ·rfl
 ·rfl
 ·rfl
 ·rfl
 ·rfl
 ·rfl
 ·rfl
 exact⟨rfl,h⟩
def NF{β:Pl}:∀(l:List Value),l.all Value.oneCell'=true->CRs β (l.map cOf) l
 |[],_=>trivial
 |v::l,h=>by simp only[List.all_cons,aV]at h;exact⟨Sz h.1,NF l h.2⟩
def fg{β:Pl}{v:Value}(h:okV v=true):AR β (ofValue v) v:=by
 unfold ofValue;split
 ·rename_i cs
  exact⟨cs.toList,NF _ h,by simp⟩
 ·rename_i vs
  have h':vs.toList=[]:=by simpa [okV]using h
  have:vs=#[]:=by cases vs;simpa using h'
  subst this;exact⟨[],trivial,rfl⟩
 rename_i h1 h2
 refine Sz ?_;cases v<;>first|rfl|exact absurd rfl (h1 _)|exact absurd rfl (h2 _)
def qx{v:Value}(h:∀vs,v≠.tuple vs):(ofValue v).cE=true:=by
 unfold ofValue;split
 ·rfl
 ·exact absurd rfl (h _)
 rfl
def AC.lY{β:Pl}{c:AC}{u v:Value}(h:c.val?=some u)(hr:CR β c v):v=u:=by
 cases c with
 |b x=>cases h;exact hr
 |i k n=>cases h;exact hr
 |o x=>cases x<;>simp[AC.val?]at h<;>subst h<;>first|exact hr|exact hr.1
def yj{β:Pl}:∀{l:List AC}{us vs:List Value},bQ l=some us->CRs β l vs->vs=us
 |[],us,vs,h,hr=>by
  cases h
  cases vs with
  |nil=>rfl
  |cons=>exact hr.elim
 |c::l,us,vs,h,hr=>by
  cases vs with
  |nil=>exact hr.elim
  |cons v vs=>
   unfold bQ at h;split at h
   ·rename_i u us' hc hl
    cases h
    rw[AC.lY hc hr.1,yj hl hr.2]
   cases h
def AV.lY{β:Pl}{x:AV}{u v:Value}(h:x.val?=some u)(hr:AR β x v):v=u:=by
 cases x with
 |one c=>exact AC.lY h hr
 |agg l=>
  obtain⟨vs,h1,rfl⟩:=hr;unfold AV.val? at h;simp only at h
  split at h
  ·rename_i us hu
   cases h
   rw[yj hu h1]
  cases h
 |tup l=>
  obtain⟨vs,h1,rfl⟩:=hr;cases l with
  |nil=>
   cases h
   cases vs with
   |nil=>rfl
   |cons=>exact h1.elim
  |cons=>cases h
 |any=>cases h
def cQ{β:Pl}{tm:PT AV}{a:Act}(h:∀t,AR β (aG (tm.get t) aQ λv=>v) (a.tmps.getD t undef))(x:Operand):AR β (ev tm x) (a.eval x):=by
 cases x with
 |tmp t=>exact h t
 |const v=>
  show AR β (bif okV v then ofValue v else .any) v;cases ho:okV v with
  |true=>exact fg ho
  |false=>trivial
 |global g=>trivial
 |func f=>exact⟨[],rfl,rfl,λk c v hc _=>by simp at hc⟩
def uG{α:Type}{P:Program}:∀{s:Sem α}{a:α},aH P s=some a->∀w,s.run P w=.ok a w:=by
 intro s;induction s with
 |pure a=>intro b h w;cases h;rfl
 |program k ih=>intro b h w;exact ih P h w
 |mark m k ih=>intro b h w;exact ih h w
 |load m a k _=>intro b h;cases h
 |store m a v k _=>intro b h;cases h
 |new o k _=>intro b h;cases h
 |shape r k _=>intro b h;cases h
 |freeze a n k _=>intro b h;cases h
 |frozen a k _=>intro b h;cases h
 |getObj r k _=>intro b h;cases h
 |setObj r o k _=>intro b h;cases h
 |choose q k _=>intro b h;cases h
 |sys c k _=>intro b h;cases h
 |halt hl=>intro b h;cases h
section tables
variable{P:Program}{t:TypeId}{w:World}
def iL{a:Bool}(h:xx P t=some a):(isAgg t).run P w=.ok a w:=by
 unfold xx at h;split at h
 ·rename_i fs hu;cases h;simp[isAgg,run_underlying hu]
 ·rename_i n e hu;cases h;simp[isAgg,run_underlying hu]
 ·rename_i d h1 h2 hu
  cases h
  simp only[isAgg,Sem.run_bind,run_underlying hu,Result.andThen_ok];cases d<;>first|rfl|exact absurd hu (h1 _)|exact absurd hu (h2 _ _)
 cases h
def lU{n:Nat}(h:cM P t=some n):∃i,P.info? t=some i/\i.size=n:=by
 unfold cM at h;split at h
 ·rename_i i hi;cases h;exact⟨i,hi,rfl⟩
 cases h
def dW{n:Nat}(h:cM P t=some n):(sizeOf t).run P w=.ok n w:=by obtain⟨i,hi,rfl⟩:=lU h;simp[sizeOf,typeInfo,hi]
def tS{n:Nat}(h:dB P t=some n):∃i,P.info? t=some i/\i.bytes=n:=by
 unfold dB at h;split at h
 ·rename_i i hi;cases h;exact⟨i,hi,rfl⟩
 cases h
def nf{z:Value}(h:aW P t=some z):okV z=true/\(∀vs,z≠.tuple vs)/\∃i,P.info? t=some i/\i.zero=some z:=by
 unfold aW at h;split at h
 ·rename_i i hi
  split at h
  ·rename_i y hy
   split at h
   ·cases h
   rename_i Q0
   cases ho:okV y with
   |true=>rw[ho]at h;cases h;exact⟨ho,λvs=>Q0 vs,i,hi,hy⟩
   |false=>rw[ho]at h;cases h
  cases h
 cases h
def fK{z:Value}(h:aW P t=some z):(zeroValue t).run P w=.ok z w:=by obtain⟨_,_,i,hi,hz⟩:=nf h;simp[zeroValue,typeInfo,hi,hz]
def Hv{e:TypeId}(h:xJ P t=some e):P.underlying t=some (.slice e):=by
 unfold xJ at h;split at h
 ·cases h;assumption
 cases h
def oO{e:TypeId}{n:Nat}(h:cG P t=some (e,n)):P.underlying t=some (.slice e)/\cM P e=some n:=by
 unfold cG at h;split at h
 ·rename_i e' he
  split at h
  ·rename_i n' hn;cases h;exact⟨Hv he,hn⟩
  cases h
 cases h
def GS{k e:TypeId}(h:kg P t=some (k,e)):P.underlying t=some (.map k e):=by
 unfold kg at h;split at h
 ·cases h;assumption
 cases h
def JR{a:Bool}{n:Nat}(h:loadT P t=some (a,n)):xx P t=some a/\cM P t=some n:=by
 unfold loadT at h;split at h
 ·rename_i a' n' h1 h2;cases h;exact⟨h1,h2⟩
 cases h
def Eh{f:Nat}{fo:Nat}{ft:TypeId}{n:Nat}(h:bG P t f=some (fo,ft,n)):
  ∃fs fd,P.underlying t=some (.struct fs)/\fs[f]?=some fd/\fd.offset=fo/\fd.type=ft/\cM P ft=some n:=by
 unfold bG at h;split at h
 ·rename_i fs hu
  split at h
  ·rename_i fd hf
   split at h
   ·rename_i n' hn;cases h;exact⟨fs,fd,hu,hf,rfl,rfl,hn⟩
   cases h
  cases h
 cases h
end tables
def Out(m:Nat)(β:Pl)(H:Hp)(w:World)(l:List (AV×Hp))(v:Value)(w':World):Prop:=
 ∃x,x∈l/\∃β',AR β' x.1 v/\Rel m β' x.2 w'/\Ext β H w β' x.2 w'
def al(P:Program)(m:Nat)(β:Pl)(H:Hp)(w:World)(n:ah)(r:Result Next):Prop:=
 match n with
 |.val av H'=>H'.nx<=m->∃v w',(r=.ok (.value v) w'\/(r=.ok .skip w'/\v=undef))/\Out m β H w [(av,H')] v w'
 |.tN l=>(∀x∈l,x.2.nx<=m)->∃v w',r=.ok (.value v) w'/\Out m β H w l v w'
 |.enter f args=>∃vs:List Value,r=(callFunc f vs.toArray).run P w/\ARs β args vs/\ao P f=true
 |.round id args=>∃p vs,β id 0=some p/\ARs β args vs/\r=(Instr.yield p.b vs.toArray).run P w
 |.bad _=>True
section
variable{P:Program}{m:Nat}{β:Pl}{H:Hp}{w:World}
def al.same(hR:Rel m β H w){av:AV}{v:Value}{r:Result Next}(hr:r=.ok (.value v) w)(ha:AR β av v):al P m β H w (.val av H) r:=
 λ_=>⟨v,w,.inl hr,_,List.mem_singleton.2 rfl,β,ha,hR,Ext.refl _ _ _⟩
def al.guard{b:Bool}{s:String}{n:ah}{r:Result Next}(h:b=true->al P m β H w n r):al P m β H w (aN b s n) r:=by
 cases b with
 |true=>exact h rfl
 |false=>exact trivial
def al.nd{α:Type}{o:Option α}{s:String}{f:α->ah}{r:Result Next}(h:∀a,o=some a->al P m β H w (f a) r):al P m β H w (nd o s f) r:=by
 cases o with
 |none=>exact trivial
 |some a=>exact h a rfl
def an{a b:Bool}(h:both a b=true):a=true/\b=true:=by cases a<;>cases b<;>first|exact⟨rfl,rfl⟩|cases h
end
def He{P:Program}{m:Nat}{β:Pl}{H:Hp}{w:World}{x:AV}{v:Value}{e:ah}{f:Nat->Nat->Nat->Nat->ah}{r:Result Next}(hx:AR β x v)(he:∃s,e=.bad s)
  (h:∀id g off lim p,x=.one (.o (.ptr id g off lim))->β id g=some p->off+lim<=p.hi->v=.pointer (some ⟨p.b,p.o+off,none⟩)->al P m β H w (f id g off lim) r):
  al P m β H w (xF x e f) r:=by
 obtain⟨s,rfl⟩:=he;cases x with
 |one c=>
  cases c with
  |b _=>exact trivial
  |i _ _=>exact trivial
  |o x=>
   cases x with
   |ptr id g off lim=>obtain⟨p,h1,h2,h3⟩:=hx;exact h id g off lim p rfl h1 h2 h3
   |_=>exact trivial
 |agg _=>exact trivial
 |tup _=>exact trivial
 |any=>exact trivial
def Ni{P:Program}{m:Nat}{β:Pl}{H:Hp}{w:World}{x:AV}{v:Value}{e:ah}{f:Nat->Nat->Nat->Nat->Nat->ah}{r:Result Next}(hx:AR β x v)(he:al P m β H w e r)
  (h:∀id g off len sz p cap o',x=.one (.o (.sl id g off len sz))->β id g=some p->off+len*sz<=p.hi->len<=cap->v=.slice (some o') len cap ->
   (cap=0\/(o'=⟨p.b,p.o+off,none⟩/\p.o+off+cap*sz<=p.n))->al P m β H w (f id g off len sz) r):
  al P m β H w (slE x e f) r:=by
 cases x with
 |one c=>
  cases c with
  |b _=>exact he
  |i _ _=>exact he
  |o x=>
   cases x with
   |sl id g off len sz=>obtain⟨p,cap,o',h1,h2,h3,h4,h5⟩:=hx;exact h id g off len sz p cap o' rfl h1 h2 h3 h4 h5
   |_=>exact he
 |agg _=>exact he
 |tup _=>exact he
 |any=>exact he
def vO{P:Program}{m:Nat}{β:Pl}{H:Hp}{w:World}{x:AV}{v:Value}{e:ah}{f:IntKind->Int->ah}{r:Result Next}(hx:AR β x v)(he:al P m β H w e r)
  (h:∀k n,v=.int k n->al P m β H w (f k n) r):al P m β H w (gW x e f) r:=by
 cases x with
 |one c=>
  cases c with
  |b _=>exact he
  |i k n=>exact h k n hx
  |o x=>exact he
 |agg _=>exact he
 |tup _=>exact he
 |any=>exact he
def IE{P:Program}{m:Nat}{β:Pl}{H:Hp}{w:World}{x:AV}{v:Value}{e:ah}{f:Bool->ah}{r:Result Next}(hx:AR β x v)(he:al P m β H w e r)
  (h:∀b,v=.bool b->al P m β H w (f b) r):al P m β H w (gj x e f) r:=by
 cases x with
 |one c=>
  cases c with
  |b b=>exact h b hx
  |i k n=>exact he
  |o x=>exact he
 |agg _=>exact he
 |tup _=>exact he
 |any=>exact he
def zT{P:Program}{m:Nat}{β:Pl}{H:Hp}{w:World}{x:AV}{v:Value}{e:ah}{f:List UInt8->ah}{r:Result Next}(hx:AR β x v)(he:al P m β H w e r)
  (h:∀s,v=.string ⟨s.toArray⟩->al P m β H w (f s) r):al P m β H w (lC x e f) r:=by
 cases x with
 |one c=>
  cases c with
  |b b=>exact he
  |i k n=>exact he
  |o x=>
   cases x with
   |str s=>exact h s hx
   |_=>exact he
 |agg _=>exact he
 |tup _=>exact he
 |any=>exact he
def mU{β:Pl}{w:World}{cells:List AC}{p:Place}(h:ua β w cells p)(off n:Nat)(hn:off+n<=p.hi):
  ∃vs:List Value,vs.length=n/\CRs β ((cells.drop off).take n) vs/\∀j v,vs[j]?=some v->w.cell? ((⟨p.b,p.o+off,none⟩:Addr).add j)=some v:=by
 obtain⟨c,e,f,h1,h2,h3,h4,h5⟩:=h;refine⟨(c.toList.drop (p.o+off)).take n,?_,?_,?_⟩
 ·simp only[dM,iW,uO];omega
 ·refine CRs.fI (by simp only[dM,iW,uO];omega) λk x v hx hv=>?_;rw[mW]at hx hv;split at hx
  ·rename_i hk
   rw[ad hk]at hv;rw[iV]at hx hv;obtain⟨v',I5,hr⟩:=h5 (off+k) x aa hx;have:v'=v:=by rw[oo]at hv;rw[show p.o+(off+k)=p.o+off+k from by omega,hv]at I5;exact(eh I5).symm
   exact this▸hr
  cases hx
 intro j v hv;rw[mW]at hv;split at hv
 ·rename_i hk
  rw[iV,oo]at hv;have:(⟨p.b,p.o+off,none⟩:Addr).add j=⟨p.b,p.o+off+j,none⟩:=by unfold Addr.add;split<;>simp_all
  rw[this];simp[World.cell?,h1,hv]
 cases hv
def nK{m:Nat}{β:Pl}{H:Hp}{w:World}(hR:Rel m β H w){id g:Nat}{cells:List AC}{e:TypeId}{lo gen:Nat}(ho:H.get id=some (.arr cells e lo gen))(h1:lo<=g)(h2:g<=gen)
  {p:Place} (hp:β id g=some p):jQ β w cells e p/\(g=gen->p.hi=cells.length):=by
 obtain⟨_,G0,_,_⟩:=hR.obj id _ ho;obtain⟨q,hq,hr,hh⟩:=G0 g h1 h2;rw[hp]at hq;cases hq;exact⟨hr,hh⟩
def th{H:Hp}{id g off lim n:Nat}{c:List AC}(h:iS H id g off lim n=some c):
  ∃cells,(∀{m:Nat}{β:Pl}{w:World},Rel m β H w->∀{p:Place},β id g=some p->ua β w cells p)/\n<=lim/\off+n<=cells.length/\c=(cells.drop off).take n:=by
 unfold iS rdO at h;cases ho:H.get id with
 |none=>rw[ho]at h;cases h
 |some o=>
  cases o with
  |oth x=>rw[ho]at h;cases h
  |arr cells e lo gen=>
   rw[ho]at h;simp only[cW,er,bZ,nU]at h;split at h
   ·rename_i hc
    simp only[aV,tu]at hc;cases h
    exact⟨cells,λhR _ hp=>(nK hR ho hc.1 hc.2.1 hp).1.d,hc.2.2.1,hc.2.2.2,rfl⟩
   cases h
  |ro cells=>
   rw[ho]at h;simp only[cW,er,bZ,nU]at h;split at h
   ·rename_i hc
    simp only[aV,tu]at hc;cases h
    have J5:=aO hc.1;refine⟨cells,λhR p hp=>?_,hc.2.1,hc.2.2,rfl⟩;obtain⟨q,hq,hr⟩:=hR.obj id _ ho;rw[J5,hq]at hp;cases hp;exact hr
   cases h
def YP{P:Program}{m:Nat}{β:Pl}{H:Hp}{w:World}(hR:Rel m β H w){t:TypeId}{a:Bool}{n:Nat}(ht:loadT P t=some (a,n)){x:AV}{v:Value}(hx:AR β x v):
  al P m β H w (eu H a n x) ((do let y <-Instr.loadAt t v;pure (Next.value y):Sem Next).run P w):=by
 obtain⟨ha,hn⟩:=JR ht;unfold eu;refine He hx ⟨_,rfl⟩ λid g off lim p _ hp Y5 hv=>?_;subst hv;refine al.nd λc hc=>?_;obtain⟨cells,hD,h3,h4,rfl⟩:=th hc;have hr:=hD hR hp;obtain⟨vs,Z1,Q3,M1⟩:=mU hr off n aa;cases a with
 |true=>show al P m β H w (.val (.agg _) H) _;refine al.same hR (v:=.agg vs.toArray) ?_ ⟨vs,Q3,rfl⟩;have hl:=run_loadCells_list (P:=P) w ⟨p.b,p.o+off,none⟩ vs M1;rw[Z1]at hl;simp[Instr.loadAt,Instr.sureAddr,loadVar,iL ha,dW hn,hl]
 |false=>
  cases M3:(cells.drop off).take n with
  |nil=>exact trivial
  |cons y l=>
   rw[M3]at Q3;cases vs with
   |nil=>exact Q3.elim
   |cons u us=>show al P m β H w (.val (.one y) H) _;refine al.same hR (v:=u) ?_ Q3.1;have h0:=M1 0 u rfl;have:(⟨p.b,p.o+off,none⟩:Addr).add 0=⟨p.b,p.o+off,none⟩:=rfl;rw[this]at h0;simp[Instr.loadAt,Instr.sureAddr,loadVar,iL ha,run_load,h0]
def kq{α:Type}(l:List α)(off:Nat)(c:List α)(k:Nat)(h:off+c.length<=l.length):
  (l.take off++(c++l.drop (off+c.length)))[k]?=if k<off then l[k]? else if k<off+c.length then c[k-off]? else l[k]?:=by
 have ht:(l.take off).length=off:=by simp;omega
 by_cases h1:k<off
 ·rw[ad h1,iw aa,mW,ad h1]
 rw[ab h1,lE aa,ht];by_cases h2:k<off+c.length
 ·rw[ad h2,iw aa]
 rw[ab h2,lE aa,iV];congr 1
 omega
def jo{α:Type}(l:List α)(off:Nat)(c:List α)(h:off+c.length<=l.length):(l.take off++(c++l.drop (off+c.length))).length=l.length:=by simp only[aI,dM,iW];omega
def Cn{β:Pl}{w:World}{cells:List AC}{e:TypeId}{p:Place}(h:jQ β w cells e p)(hp:p.hi=cells.length){off:Nat}{c:List AC}{vs:List Value}(hc:CRs β c vs)(hoff:off+c.length<=cells.length):
  ∃cur:Array Value,w.heap[p.b]?=some (.cells cur e (0,0))/\p.o+off+0+vs.length<=cur.size /\
   jQ β (w.setRow p.b (cur.toList.take (p.o+off+0)++vs++cur.toList.drop (p.o+off+0+vs.length)).toArray) (cells.take off++(c++cells.drop (off+c.length))) e p:=by
 obtain⟨cur,h1,h2,h3,h4,h5⟩:=h;have hl:=hc.length;refine⟨cur,h1,aa,?_⟩;have I4:p.o+off+0+vs.length<=cur.toList.length:=by simp;omega
 refine⟨_,setRow_heap w p.b cur _ e _ h1,?_,h3,by rw[jo _ _ _ hoff];exact h4,?_⟩
 ·rw[bL,sA,jo _ _ _ I4];simpa using h2
 intro k x hk hx;rw[kq _ _ _ _ hoff]at hx;rw[bL,Ad,kq _ _ _ _ I4];by_cases a1:k<off
 ·rw[ad a1]at hx;rw[ad aa];simpa using h5 k x hk hx
 rw[ab a1]at hx;rw[ab aa];by_cases a2:k<off+c.length
 ·rw[ad a2]at hx;rw[ad aa];have B0:k-off<vs.length:=aa;refine⟨vs[k-off],?_,hc.get (k-off) x _ hx (aA B0)⟩;rw[show p.o+k-(p.o+off+0)=k-off from by omega,aA B0]
 rw[ab a2]at hx;rw[ab aa];simpa using h5 k x hk hx
def PA{β:Pl}{w w':World}{id:Nat}{cells cells':List AC}{e:TypeId}{lo gen:Nat}{p:Place}(h:ji β w id (.arr cells e lo gen))(hp:β id gen=some p)(hr:jQ β w' cells' e p)(hl:p.hi=cells'.length):
  ji β w' id (.arr cells' e gen gen):=by
 refine⟨ai _,?_,?_,h.2.2.2⟩
 ·intro g h1 h2;have:g=gen:=aa;subst this;exact⟨p,hp,hr,λ_=>hl⟩
 intro g g' q q' h1 h2 h3 hq M';have e1:g=gen:=aa;have e2:g'=gen:=aa;subst e1;subst e2;rw[hq]at M';cases M';exact⟨ai _,λ_=>rfl⟩
def Xb{P:Program}{m:Nat}{β:Pl}{H:Hp}{w:World}(hR:Rel m β H w)(hm:m<=m){t:TypeId}{n:Nat}(ht:cM P t=some n){x y:AV}{v u:Value}(hx:AR β x v)(hy:AR β y u):
  al P m β H w (lR H n x y) ((do Instr.storeAt t u v;pure Next.skip:Sem Next).run P w):=by
 unfold lR;refine He hy ⟨_,rfl⟩ λid g off lim p _ hp Y5 hu=>?_;subst hu;unfold qN;cases ho:H.get id with
 |none=>exact trivial
 |some o=>
  cases o with
  |oth x=>exact trivial
  |ro x=>exact trivial
  |arr cells e lo gen=>
   refine al.guard λhc=>?_;have z0:x.cE=true:=(an (an (an (an (an hc).2).2).2).2).2;have R7:Nat.beq g gen=true:=(an hc).1;have N9:Nat.beq (cA x.cells) n=true:=(an (an hc).2).1;have Y9:Nat.ble (Nat.add off n) (cA cells)=true:=(an (an (an (an hc).2).2).2).1;have hc5:Nat.ble lo gen=true:=(an (an (an (an (an hc).2).2).2).2).1;have e1:g=gen:=aO R7;have e2:(cA x.cells)=n:=aO N9;have e4:off+n<=cA cells:=bA Y9;have e5:lo<=gen:=bA hc5;rw[bZ]at e2 e4;subst e1;intro S0;have M3:=hx.cells z0;have Z1:v.cells.size=n:=by rw[<-e2];simpa using M3.length
   obtain⟨G0,hhi⟩:=nK hR ho e5 (ai _) hp;obtain⟨cur,hg,I4,E3⟩:=Cn G0 (hhi rfl) M3 (by rw[e2];exact e4);have R3:=run_storeCells_at P p.b (p.o+off) e v.cells.toList 0 cur w hg I4 M3.kJ;have N3:=lX hR hm S0 ho (.arr (iT cells off x.cells) e g g) (β':=β) (w':=w.setRow p.b (cur.toList.take (p.o+off+0)++v.cells.toList++cur.toList.drop (p.o+off+0+v.cells.toList.length)).toArray)
    (λ_ _ _ h=>h) (λ_ _ _=>rfl) (by simp) (by simp) (by simp) (by simp)
    (λb _ hb=>setRow_other w p.b b _ (λhh=>hb g p ⟨e5,ai _⟩ hp hh.symm))
    (by rw[mj];exact PA (hR.obj id _ ho) hp E3 (by rw[jo _ _ _ (by rw[e2];exact e4)];exact hhi rfl))
    (λg0 p0 J5 hp0=>.inr ⟨g,p,⟨e5,ai _⟩,hp,by
     have:g0=g:=by have:=J5.1;have:=J5.2;omega
     subst this;rw[hp]at hp0;cases hp0;rfl⟩)
   refine⟨undef,_,.inr ⟨?_,rfl⟩,_,List.mem_singleton.2 rfl,β,⟨[],trivial,rfl⟩,N3.1,N3.2⟩;simp[Instr.storeAt,Instr.sureAddr,storeVar,dW ht,Z1,R3]
def Out.one{m:Nat}{β β':Pl}{H H':Hp}{w w':World}{av:AV}{v:Value}(ha:AR β' av v)(h:Rel m β' H' w'/\Ext β H w β' H' w'):Out m β H w [(av,H')] v w':=
 ⟨_,List.mem_singleton.2 rfl,β',ha,h.1,h.2⟩
def Fp{P:Program}{m:Nat}{β:Pl}{H:Hp}{w:World}(hR:Rel m β H w)(hm:m<=m){cells:List AC}{vs:Array Value}(e:TypeId)(hc:CRs β cells vs.toList){r:Result Next}
  (hr:r=.ok (.value (.pointer (some ⟨w.heap.size,0,none⟩))) (w.alloc (.cells vs e))):al P m β H w (oe H cells e) r:=by
 intro S0;have a_:H.nx+1<=m:=S0;have h:=zF hR hm aa cells vs e hc w rfl rfl rfl rfl #[];refine⟨_,_,.inl hr,Out.one ?_ (by simpa using h)⟩;refine⟨_,bm _ _ _ _,?_,rfl⟩;show 0+cA cells<=cells.length;rw[bZ];omega
def Tk{P:Program}{m:Nat}{β:Pl}{H:Hp}{w:World}(hR:Rel m β H w)(hm:m<=m){e:TypeId}{z:Value}(hz:aW P e=some z):
  al P m β H w (oe H (ofValue z).cells e) ((do let y <-Instr.alloc e true (.tuple #[]);pure (Next.value y):Sem Next).run P w):=by
 obtain⟨ho,hn,_⟩:=nf hz;refine Fp hR hm e (vs:=z.cells) ((fg ho).cells (qx hn)) ?_;simp only[Instr.alloc,Sem.run_bind,fK hz,Result.andThen_ok];rfl
def aaM{P:Program}{m:Nat}{β:Pl}{H:Hp}{w:World}(hR:Rel m β H w)(hm:m<=m)(e:TypeId){x:AV}{v:Value}(hx:AR β x v):
  al P m β H w (aN x.cE "box - a tuple" (oe H x.cells e)) ((do let y <-Instr.box e v;pure (Next.value y):Sem Next).run P w):=by
 refine al.guard λhn=>?_;refine Fp hR hm e (vs:=v.cells) (hx.cells hn) ?_;rfl
def Rf(off:Nat):∀(vs:List Value)(i:Nat)(cs:Array Value),off+i+vs.length<=cs.size ->
  ((vs.zipIdx i).foldl (λcs(x:Value×Nat)=>cs.setIfInBounds (off+x.2) x.1) cs).toList=cs.toList.take (off+i)++(vs++cs.toList.drop (off+i+vs.length)):=by
 intro vs;induction vs with
 |nil=>intro i cs _;simp
 |cons v vs ih=>
  intro i cs h;simp only[List.length_cons]at h;simp only[List.zipIdx_cons,List.foldl_cons];rw[ih (i+1) _ (by simp;omega)];rw[HK];apply List.ext_getElem?;intro k;have hlen:cs.toList.length=cs.size:=by simp
  have e1:=kq (cs.toList.set (off+i) v) (off+(i+1)) vs k (by simp;omega);have e2:=kq cs.toList (off+i) (v::vs) k (by simp;omega);rw[e1];rw[e2];simp only[List.length_cons];by_cases a1:k<off+i
  ·rw[ad aa,ad a1,HL aa]
  by_cases a2:k=off+i
  ·subst a2;rw[ad aa,ab aa,ad aa,List.getElem?_set_self aa];simp
  rw[ab aa,ab a1];by_cases a3:k<off+(i+1)+vs.length
  ·rw[ad a3,ad aa];rw[show k-(off+i)=(k-(off+(i+1)))+1 from by omega,List.getElem?_cons_succ]
  rw[ab a3,ab aa,HL aa]
def OO{β:Pl}{tm:PT AV}{a:Act}(J1:∀t,AR β (aG (tm.get t) aQ λv=>v) (a.tmps.getD t undef)){place:Nat->Option (Nat×Nat)}:
  ∀{l:List (Nat×Operand)}{r:List (Nat×Nat×OpF)}{z:List AC}{c:List AC}{vs:Array Value},fj place l=some r->lL tm r z=some c->CRs β z vs.toList ->
   ∃us:Array Value,Instr.fill place vs (l.map λp=>(p.1,a.eval p.2))=some us/\CRs β c us.toList/\c.length=z.length:=by
 intro l;induction l with
 |nil=>
  intro r z c vs h hf hz;cases h
  have:z=c:=by injection hf
  subst this;exact⟨vs,rfl,hz,rfl⟩
 |cons q l ih=>
  intro r z c vs h hf hz;obtain⟨i,x⟩:=q;unfold fj at h;split at h
  ·rename_i p r' hp T3
   cases h
   have hx:=cQ J1 x;have B9:ifE (both (Nat.beq (cA ((opF x).ev tm).cells) p.2) (both (Nat.ble (Nat.add p.1 p.2) (cA z)) ((opF x).ev tm).cE)) (lL tm r' (iT z p.1 ((opF x).ev tm).cells)) none=some c:=hf;rw[cW]at B9;split at B9
   ·rename_i hc
    have h1:cA ((opF x).ev tm).cells=p.2:=aO (an hc).1;have h2:p.1+p.2<=cA z:=bA (an (an hc).2).1;have h3:((opF x).ev tm).cE=true:=(an (an hc).2).2;rw[bZ]at h1 h2;have M3:CRs β ((opF x).ev tm).cells (a.eval x).cells.toList:=AR.cells hx h3;have hl:=M3.length;have Q1:=hz.length;simp only[uO]at hl Q1;have B2:¬((a.eval x).cells.size≠p.2\/p.1+(a.eval x).cells.size>vs.size):=aa;have hfs:=Rf p.1 (a.eval x).cells.toList 0 vs (by simp;omega);have hrel:CRs β (iT z p.1 ((opF x).ev tm).cells) (((a.eval x).cells.zipIdx.foldl (λcs(x:Value×Nat)=>cs.setIfInBounds (p.1+x.2) x.1) vs)).toList:=by rw[<-Array.foldl_toList,Array.toList_zipIdx,hfs,mj];refine CRs.append (by simpa using hz.take p.1) (CRs.append M3 ?_);have:=hz.drop (p.1+((opF x).ev tm).cells.length);simpa [hl]using this
    obtain⟨us,J2,o7,t_⟩:=ih T3 B9 hrel;refine⟨us,?_,o7,by rw[t_,mj,jo _ _ _ aa]⟩;simp only[List.map_cons,Instr.fill,hp];rw[ab (by simpa using B2)];exact J2
   cases B9
  cases h
def TN{P:Program}{m:Nat}{β:Pl}{H:Hp}{w:World}(hR:Rel m β H w){tm:PT AV}{a:Act}(J1:∀t,AR β (aG (tm.get t) aQ λv=>v) (a.tmps.getD t undef))
  {t:TypeId} {z:Value} {pl:Nat->Option (Nat×Nat)} {parts:Array (Nat×Operand)} {ps:List (Nat×Nat×OpF)} (hz:aW P t=some z) (G9:jm P t=some pl) (k_:fj pl parts.toList=some ps):
  al P m β H w (zm H (ofValue z).cells tm ps) ((do let y <-Instr.build t (parts.map λ(i,x)=>(i,a.eval x));pure (Next.value y):Sem Next).run P w):=by
 refine al.nd λc hc=>?_;obtain⟨ho,hn,it,Q4,hiz⟩:=nf hz;obtain⟨us,hu,M3,_⟩:=OO J1 k_ hc (vs:=z.cells) ((fg ho).cells (qx hn));have hb:P.built t (parts.map λ(i,x)=>(i,a.eval x)).toList=some us:=by
  unfold jm at G9;unfold Program.built;rw[Q4];split at G9
  ·rename_i fs U8
   split at G9
   ·rename_i places hp
    cases G9
    simp only[U8,hiz,hp];rw[<-hu];simp
   cases G9
  ·rename_i n el U8
   split at G9
   ·rename_i ie U0
    cases G9
    simp only[U8,hiz,U0];rw[<-hu];simp
   cases G9
  cases G9
 refine al.same hR (v:=.agg us) ?_ ⟨us.toList,M3,by simp⟩;simp only[Sem.run_bind,run_build w t _ us hb,Result.andThen_ok];rfl
def Wv(z:List AC):∀(n k:Nat),(nq z n)[k]?=if k<n*z.length then z[k%z.length]? else none:=by
 intro n;induction n with
 |zero=>intro k;show([]:List AC)[k]?=_;simp
 |succ n ih=>
  intro k;show(qu z (nq z n))[k]?=_;rw[kz];have e:(n+1)*z.length=n*z.length+z.length:=by rw[lF];simp
  by_cases h:k<z.length
  ·rw[iw h,ad aa,Nat.mod_eq_of_lt h]
  rw[lE aa,ih];by_cases h2:k<(n+1)*z.length
  ·rw[ad h2,ad aa];congr 1
   exact(Nat.mod_eq_sub_mod aa).symm
  rw[ab h2,ab aa]
def Cj(z:List AC)(n:Nat):(nq z n).length=n*z.length:=by
 induction n with
 |zero=>show([]:List AC).length=_;simp
 |succ n ih=>show(qu z (nq z n)).length=_;rw[kz,aI,ih,lF];omega
def PM{β:Pl}{z:List AC}{vs:Array Value}(h:CRs β z vs.toList)(n:Nat):CRs β (nq z n) ((Array.range (n*vs.size)).map (vs[·%vs.size]!)).toList:=by
 have hl:vs.size=z.length:=by simpa using h.length
 refine CRs.fI (by simp[Cj,hl]) λk c v hc hv=>?_;rw[Wv]at hc;split at hc
 ·rename_i hk
  have X3:k<n*vs.size:=by rw[hl];exact hk
  have C5:0<vs.size:=by
   rcases sB vs.size with h0|h0
   ·rw[h0]at X3;omega
   exact h0
  have hm:k%vs.size<vs.size:=Nat.mod_lt _ C5;have I5:v=vs[k%vs.size]:=by simp[X3]at hv;rw[<-hv,Ae vs _ hm]
  rw[I5];refine h.get (k%vs.size) c _ ?_ ?_
  ·rw[hl];exact hc
  simp[hm]
 cases hc
def CQ{P:Program}{m:Nat}{β:Pl}{H:Hp}{w:World}(hR:Rel m β H w)(hm:m<=m){tm:PT AV}{a:Act}(J1:∀t,AR β (aG (tm.get t) aQ λv=>v) (a.tmps.getD t undef))
  {t e:TypeId} {sz len:Nat} {z:Value} {parts:Array (Nat×Operand)} {ps:List (Nat×Nat×OpF)} (he:cG P t=some (e,sz)) (hz:aW P e=some z) (h24:len*sz<=16777216) (Q1:(ofValue z).cells.length=sz)
  (k_:fj (λi=>some (i*sz,sz)) parts.toList=some ps):
  al P m β H w (lP H (nq (ofValue z).cells len) tm e sz len ps) ((do let y <-Instr.buildSlice t len (parts.map λ(i,x)=>(i,a.eval x));pure (Next.value y):Sem Next).run P w):=by
 refine al.nd λc hc=>?_;intro S0;have a_:H.nx+1<=m:=S0;obtain⟨hu,hs⟩:=oO he;obtain⟨ho,hn,it,Q4,hiz⟩:=nf hz;have z9:CRs β (ofValue z).cells z.cells.toList:=(fg ho).cells (qx hn);have hzs:z.cells.size=sz:=by rw[<-Q1];simpa using z9.length
 have hrep:=PM z9 len;rw[hzs]at hrep;obtain⟨us,J',M3,hclen⟩:=OO J1 k_ hc hrep;have hlen:c.length=len*sz:=by rw[hclen,Cj,Q1]
 have h:=zF hR hm aa c us e M3 w rfl rfl rfl rfl #[];have E_:Instr.fill (λi=>some (i*sz,sz)) ((Array.range (len*sz)).map (z.cells[·%sz]!)) (parts.map λ(i,x)=>(i,a.eval x)).toList=some us:=by rw[<-J'];simp
 have L2:(Instr.buildSlice t len (parts.map λ(i,x)=>(i,a.eval x))).run P w=.ok (.slice (some ⟨w.heap.size,0,none⟩) len len) (w.alloc (.cells us e)):=by
  have h24':¬(len*sz>2^24):=aa;by_cases h0:len*sz=0
  ·rw[h0]at E_;simp only[Instr.buildSlice,Sem.run_bind,run_underlying hu,Result.andThen_ok,dW hs,h0];rw[ab aa];simp only[if_true,Sem.run_bind,Sem.run_pure,Result.andThen_ok];have hr:∀f:Nat->Value,(Array.range 0).map f=#[]:=λf=>by apply wV;simp
   simp only[hr]at E_ |-;rw[E_];rfl
  simp only[Instr.buildSlice,Sem.run_bind,run_underlying hu,Result.andThen_ok,dW hs,ab h24',ab h0,fK hz,Sem.run_pure];rw[hzs,E_];rfl
 refine⟨_,_,.inl (by simp only[Sem.run_bind,L2,Result.andThen_ok];rfl),Out.one ?_ (by simpa using h)⟩;refine⟨_,len,_,bm _ _ _ _,?_,ai _,rfl,.inr ⟨rfl,?_⟩⟩
 ·show 0+len*sz<=c.length;omega
 have:=M3.length;simp at this
 show 0+0+len*sz<=us.size+(#[]:Array Value).size;simp
 omega
section
variable{P:Program}{m:Nat}{β:Pl}{H:Hp}{w:World}
def vf(b o n:Nat):(⟨b,o,none⟩:Addr).add n=⟨b,o+n,none⟩:=by unfold Addr.add;split<;>simp_all
def Gu(hR:Rel m β H w){s:TypeId}{f fo:Nat}{ft:TypeId}{n:Nat}(ht:bG P s f=some (fo,ft,n)){x:AV}{v:Value}(hx:AR β x v):
  al P m β H w (jv H fo n x) ((do let y <-Instr.fieldAt s v f;pure (Next.value y):Sem Next).run P w):=by
 obtain⟨fs,fd,hu,hf,rfl,rfl,hn⟩:=Eh ht;unfold jv;refine He hx ⟨_,rfl⟩ λid g off lim p _ hp Y5 hv=>?_;subst hv;refine al.guard λhc=>?_;have h1:1<=n:=bA (an hc).1;have h2:fd.offset+n<=lim:=bA (an hc).2;refine al.same hR (v:=.pointer (some ⟨p.b,p.o+off+fd.offset,none⟩)) ?_ ⟨p,hp,?_,?_⟩
 ·have Z2:¬n=0:=aa;simp[Instr.fieldAt,run_underlying hu,hf,Instr.sureAddr,fieldPlace,dW hn,Z2,vf]
 ·show Nat.add off fd.offset+Nat.sub lim fd.offset<=p.hi;have e1:Nat.add off fd.offset=off+fd.offset:=rfl;have e2:Nat.sub lim fd.offset=lim-fd.offset:=rfl;omega
 show _=Value.pointer (some ⟨p.b,p.o+(off+fd.offset),none⟩);rw[mX]
def rX{n:Int}{k:Nat}(h:BT n=some k):n=(k:Int):=by
 cases n with
 |ofNat j=>cases h;rfl
 |negSucc j=>cases h
def GD(hR:Rel m β H w){t e:TypeId}{sz':Nat}(ht:cG P t=some (e,sz')){x i:AV}{v u:Value}(hx:AR β x v)(hi:AR β i u):
  al P m β H w (dz H sz' x i) ((do let y <-Instr.indexAt t v u;pure (Next.value y):Sem Next).run P w):=by
 obtain⟨hu,hs⟩:=oO ht;unfold dz;refine Ni hx trivial λid g off len sz p cap o' _ hp hlen d_ hv hex=>?_;subst hv;refine vO hi trivial λk n hn=>?_;subst hn;refine al.nd λn' x_=>?_;rw[rX x_];refine al.guard λhc=>?_;have h1:sz=sz':=aO (an hc).1;have h2:n'<len:=bA (an hc).2;subst h1;have hex':o'=⟨p.b,p.o+off,none⟩:=by
  rcases hex with h|h
  ·omega
  exact h.1
 subst hex';have hmul:(n'+1)*sz<=len*sz:=lD _ h2;rw[lF]at hmul;refine al.same hR (v:=.pointer (some ⟨p.b,p.o+off+n'*sz,none⟩)) ?_ ⟨p,hp,?_,?_⟩
 ·simp[Instr.indexAt,asIntOf,run_underlying hu,dW hs,vf];intro hge;omega
 ·show Nat.add off (Nat.mul n' sz)+sz<=p.hi;have e1:Nat.add off (Nat.mul n' sz)=off+n'*sz:=rfl;omega
 show _=Value.pointer (some ⟨p.b,p.o+(off+n'*sz),none⟩);rw[mX]
def AM{lo:Option Operand}{tm:PT AV}{a:Act}(J1:∀t,AR β (aG (tm.get t) aQ λv=>v) (a.tmps.getD t undef)){d k:Nat}(h:Gd (lo.map (ev tm)) d=some k):
  match lo.map a.eval with
  |none=>k=d
  |some v=>∃kd,v=.int kd k:=by
 cases lo with
 |none=>exact(eh h).symm
 |some x=>
  have hx:=cQ J1 x;show∃kd,a.eval x=.int kd k
  have h':gW (ev tm x) none (λ_ n=>BT n)=some k:=h;revert hx h'
  cases ev tm x with
  |one c=>
   cases c with
   |i kd n=>intro hx h';rw[rX h']at hx;exact⟨kd,hx⟩
   |b _=>intro _ h';cases h'
   |o _=>intro _ h';cases h'
  |agg _=>intro _ h';cases h'
  |tup _=>intro _ h';cases h'
  |any=>intro _ h';cases h'
def run_sliceBound(kd:IntKind)(k y:Nat)(code:BoundsCode)(h:k<=y):(Instr.sliceBound (.int kd k) y code).run P w=.ok k w:=by have h':(k:Int)<=(y:Int):=aa;simp[Instr.sliceBound,asIntOf,h']
def WQ(hR:Rel m β H w){tm:PT AV}{a:Act}(J1:∀t,AR β (aG (tm.get t) aQ λv=>v) (a.tmps.getD t undef)){t e:TypeId}{sz':Nat}(ht:cG P t=some (e,sz')){x:Operand}{lo hi:Option Operand}
  {alt:ah} (halt:al P m β H w alt ((do let y <-Instr.sliceAt t (a.eval x) (lo.map a.eval) (hi.map a.eval) none;pure (Next.value y):Sem Next).run P w)):
  al P m β H w (eU H sz' (ev tm x) (lo.map (ev tm)) (hi.map (ev tm)) alt) ((do let y <-Instr.sliceAt t (a.eval x) (lo.map a.eval) (hi.map a.eval) none;pure (Next.value y):Sem Next).run P w):=by
 obtain⟨hu,hs⟩:=oO ht;unfold eU;refine Ni (cQ J1 x) halt λid g off len sz p cap o' _ hp hlen d_ hv hex=>?_;rw[hv];refine al.nd λl hl=>al.nd λr hr=>al.guard λhc=>?_;have h1:sz=sz':=aO (an hc).1;have h2:l<=r:=bA (an (an hc).2).1;have h3:r<=len:=bA (an (an hc).2).2;subst h1;have bl:=AM J1 hl;have br:=AM J1 hr;have hb:(Instr.sliceBounds true len cap (lo.map a.eval) (hi.map a.eval) none).run P w=.ok (l,r,cap) w:=by
  cases hi with
  |none=>
   have T3:r=len:=br;cases lo with
   |none=>have W9:l=0:=bl;rw[T3,W9];rfl
   |some y=>obtain⟨kd,hk⟩:=(bl:∃kd,a.eval y=.int kd l);rw[T3];simp only[Instr.sliceBounds,Option.map_some,Option.map_none,hk,Sem.run_bind,Sem.run_pure,Result.andThen_ok,run_sliceBound kd l len _ aa]
  |some z=>
   obtain⟨kd2,B3⟩:=(br:∃kd,a.eval z=.int kd r);cases lo with
   |none=>have W9:l=0:=bl;rw[W9];simp only[Instr.sliceBounds,Option.map_some,Option.map_none,B3,Sem.run_bind,Sem.run_pure,Result.andThen_ok,run_sliceBound kd2 r cap _ aa]
   |some y=>obtain⟨kd,hk⟩:=(bl:∃kd,a.eval y=.int kd l);simp only[Instr.sliceBounds,Option.map_some,hk,B3,Sem.run_bind,Sem.run_pure,Result.andThen_ok,run_sliceBound kd2 r cap _ aa,run_sliceBound kd l r _ h2]
 have hmul:r*sz<=len*sz:=lD _ h3;have V1:(r-l)*sz=r*sz-l*sz:=Nat.sub_mul _ _ _;have hmul2:l*sz<=r*sz:=lD _ h2;refine al.same hR (v:=.slice (some (if cap=l then o' else o'.add (l*sz))) (r-l) (cap-l)) ?_ ⟨p,cap-l,_,hp,?_,?_,rfl,?_⟩
 ·simp only[Instr.sliceAt,Instr.slice,Sem.run_bind,run_underlying hu,Result.andThen_ok,hb,dW hs];by_cases S1:cap=l
  ·simp[S1]
  simp[S1]
 ·show Nat.add off (Nat.mul l sz)+Nat.sub r l*sz<=p.hi;have e1:Nat.add off (Nat.mul l sz)=off+l*sz:=rfl;have e2:Nat.sub r l=r-l:=rfl;rw[e1,e2,V1];omega
 ·show Nat.sub r l<=cap-l;have e2:Nat.sub r l=r-l:=rfl;omega
 by_cases S1:cap=l
 ·exact .inl aa
 rw[ab S1];have M3:(cap-l)*sz=cap*sz-l*sz:=Nat.sub_mul _ _ _;have hcm:l*sz<=cap*sz:=lD _ aa;rcases hex with h|⟨h,h'⟩
 ·omega
 refine .inr ⟨?_,?_⟩
 ·show o'.add (l*sz)=⟨p.b,p.o+(off+l*sz),none⟩;rw[h,vf,mX]
 show p.o+(off+l*sz)+(cap-l)*sz<=p.n;omega
def Mo(hR:Rel m β H w){x:AV}{v:Value}(hx:AR β x v)(i:Nat):al P m β H w (eI H x i) ((do let y <-Instr.extract v i;pure (Next.value y):Sem Next).run P w):=by
 cases x with
 |one c=>exact trivial
 |agg l=>exact trivial
 |any => 
  show al P m β H w (Nat.rec (motive:=λ_=>List (Bool×List AC)->ah) _ _ i []) _;cases i<;>exact trivial
 |tup l=>
  obtain⟨vs,Q3,rfl⟩:=hx;have key:∀(l:List (Bool×List AC))(vs:List Value)(i:Nat),TRs β l vs->∀r:Result Next,(∀u,vs[i]?=some u->r=.ok (.value u) w) ->
    al P m β H w (eI H (.tup l) i) r:=by
   intro l vs i;induction i generalizing l vs with
   |zero=>
    intro h r hr;cases l with
    |nil=>exact trivial
    |cons c l=>
     cases vs with
     |nil=>exact h.elim
     |cons u us=>
      obtain⟨b,cs⟩:=c;have h0:=hr u rfl;cases b with
      |true=>exact al.same hR h0 h.1
      |false=>
       match cs,h.1 with
       |[c],hc=>exact al.same hR h0 hc
   |succ i ih=>
    intro h r hr;cases l with
    |nil=>exact trivial
    |cons c l=>
     cases vs with
     |nil=>exact h.elim
     |cons u us=>exact ih l us h.2 r (λy hy=>hr y (by simpa using hy))
  refine key l vs i Q3 _ λu hu=>?_;simp[Instr.extract,hu]
def Us(hR:Rel m β H w){t:TypeId}{f fo:Nat}{ft:TypeId}{n:Nat}{a:Bool}(ht:bG P t f=some (fo,ft,n))(ha:xx P ft=some a){x:AV}{v:Value}(hx:AR β x v):
  al P m β H w (zn H fo n a x) ((do let y <-Instr.field t v f;pure (Next.value y):Sem Next).run P w):=by
 obtain⟨fs,fd,hu,hf,rfl,rfl,hn⟩:=Eh ht;cases x with
 |one c=>exact trivial
 |tup l=>exact trivial
 |any=>exact trivial
 |agg l=>
  obtain⟨vs,Q3,rfl⟩:=hx;cases a with
  |true=>
   show al P m β H w (aN (Nat.ble (Nat.add fd.offset n) (cA l)) "field - part" (.val (.agg (cut l fd.offset n)) H)) _
   refine al.guard λhc=>?_;have h1:fd.offset+n<=cA l:=bA hc;rw[bZ]at h1;refine al.same hR (v:=.agg ((vs.drop fd.offset).take n).toArray) ?_ ⟨_,?_,rfl⟩
   ·simp[Instr.field,run_underlying hu,hf,asAgg,part,iL ha,dW hn]
   rw[nU];exact(Q3.drop _).take _
  |false=>
   show al P m β H w (nd (Zd fd.offset l) "field - part" λc=>.val (.one c) H) _
   refine al.nd λc hc=>?_;rw[Ze]at hc;have B0:fd.offset<vs.length:=by rw[Q3.length];exact(List.getElem?_eq_some_iff.1 hc).1
   have hv:=aA B0;refine al.same hR (v:=vs[fd.offset]) ?_ (Q3.get _ c _ hc hv);simp[Instr.field,run_underlying hu,hf,asAgg,part,iL ha,B0]
end
end Go.Eng
end
