/- A part of the proof: EngDef, EngRun, EngTree, EngCong, EngRel, EngSteps. No conditions. -/
import Derived.RangeFuncLeaves
import Derived.OrdersIn
import Derived.WalkKit
set_option maxRecDepth 100000
set_option maxHeartbeats 64000000
set_option linter.unusedVariables false
set_option linter.unusedSimpArgs false
noncomputable section
namespace Go
universe u
theorem zA0 {n m k:Nat} (h:n<m) (g:m≤k):n<k:=Nat.lt_of_lt_of_le h g
theorem zA1 (n:Nat):n≤n:=Nat.le_refl n
theorem zA2 {n m k:Nat} (h:n≤m) (g:m≤k):n≤k:=Nat.le_trans h g
theorem zA3 {n m:Nat} (h:Nat.beq n m=true):n=m:=Nat.eq_of_beq_eq_true h
theorem zA4 {n m:Nat} (h:Nat.ble n m=true):n≤m:=Nat.le_of_ble_eq_true h
theorem zA5 {n m:Nat} (h:n≤m):Nat.ble n m=true:=Nat.ble_eq_true_of_le h
theorem zA6 (n:Nat):n<Nat.succ n:=Nat.lt_succ_self n
theorem zA7 {n m:Nat} (h:n≤m):n≤Nat.succ m:=Nat.le_succ_of_le h
theorem zA8:¬false=true:=Bool.false_ne_true
theorem zB0 {c:Prop} {h:Decidable c} (p:c) {α:Sort u} {t e:α}:ite c t e=t:=if_pos p
theorem zB1 {c:Prop} {h:Decidable c} (p:¬c) {α:Sort u} {t e:α}:ite c t e=e:=if_neg p
theorem zB2:¬False:=not_false
theorem zB3 {a b:Prop} (x:a) (y:b):a∧b:=And.intro x y
theorem zB4 {α:Type u} {l:List α} {i:Nat} (h:i<l.length):l[i]?=some l[i]:=List.getElem?_eq_getElem h
theorem zB5 {α:Type u} [BEq α] [LawfulBEq α] {a b:α} (h:a≠b):(a==b)=false:=beq_false_of_ne h
theorem zC0 (i:Nat) (h:(i:Int)+1≤9223372036854775807):IntKind.i64.wrap ((i:Int)+1)=((i+1:Nat):Int):=by rw[IntKind.wrap_i64];omega
theorem zC1 {α:Type u} {i:Nat} {l:List α} (h:i<l.length):l.drop i=l[i]::l.drop (i+1):=List.drop_eq_getElem_cons h
theorem zC2 {α:Type u} {i:Nat} {l:List α} (h:i<l.length):l.take (i+1)=l.take i++[l[i]]:=List.take_succ_eq_append_getElem h
end Go
namespace Go.Eng
open Go
def az {α β:Type} (o:Option α) (e:β) (f:α→β):β:=Option.rec (motive:=fun _=>β) e f o
def ifE {β:Type} (b:Bool) (x y:β):β:=Bool.rec (motive:=fun _=>β) y x b
def both (a b:Bool):Bool:=Bool.rec (motive:=fun _=>Bool) false b a
inductive PT (α:Type) where
 | leaf:PT α
 | node:PT α→Option α→PT α→PT α
def PT.get {α:Type} (t:PT α):Nat→Option α:=
 PT.rec (motive:=fun _=>Nat→Option α) (fun _=>none)
  (fun _ v _ gl gr n=>Nat.rec (motive:=fun _=>Option α) v
   (fun k _=>Bool.rec (motive:=fun _=>Option α) (gr (Nat.div k 2)) (gl (Nat.div k 2)) (Nat.beq (Nat.mod k 2) 0)) n) t
def PT.mk {α:Type} (a:Option α) (f:Nat):Nat→PT α:=
 Nat.rec (motive:=fun _=>Nat→PT α) (fun _=>.node .leaf a .leaf)
  (fun _ ih n=>Nat.rec (motive:=fun _=>PT α) (.node .leaf a .leaf)
   (fun k _=>Bool.rec (motive:=fun _=>PT α) (.node .leaf none (ih (Nat.div k 2))) (.node (ih (Nat.div k 2)) none .leaf) (Nat.beq (Nat.mod k 2) 0)) n) f
def PT.put {α:Type} (a:Option α) (t:PT α):Nat→PT α:=
 PT.rec (motive:=fun _=>Nat→PT α) (fun n=>PT.mk a n n)
  (fun l v r sl sr n=>Nat.rec (motive:=fun _=>PT α) (.node l a r)
   (fun k _=>Bool.rec (motive:=fun _=>PT α) (.node l v (sr (Nat.div k 2))) (.node (sl (Nat.div k 2)) v r) (Nat.beq (Nat.mod k 2) 0)) n) t
def PT.set {α:Type} (t:PT α) (n:Nat) (a:α):PT α:=PT.put (some a) t n
def PT.del {α:Type} (t:PT α) (n:Nat):PT α:=PT.put none t n
inductive AO where
 | p (v:Value)
 | str (s:List UInt8)
 | nilP
 | nilS
 | nilM
 | nilF
 | ptr (id gen off lim:Nat)
 | sl (id gen off len sz:Nat)
 | mp (id:Nat)
 | clo (f:FuncId) (caps:List (Nat×Nat×Nat×Nat))
 | yl (id:Nat)
 | it (id:Nat)
inductive AC where
 | b (x:Bool)
 | i (k:IntKind) (n:Int)
 | o (x:AO)
inductive AV where
 | one (c:AC)
 | agg (l:List AC)
 | tup (l:List (Bool×List AC))
 | any
def avE {β:Type} (v:AV) (f:AC→β) (g:List AC→β) (h:List (Bool×List AC)→β):β:=AV.rec (motive:=fun _=>β) f g h (h []) v
def acE {β:Type} (c:AC) (f:Bool→β) (g:IntKind→Int→β) (h:AO→β):β:=AC.rec (motive:=fun _=>β) f g h c
def dS {β:Type} (v:AV) (e:β) (f:Bool→β):β:=avE v (fun c=>acE c f (fun _ _=>e) (fun _=>e)) (fun _=>e) (fun _=>e)
def eX {β:Type} (v:AV) (e:β) (f:IntKind→Int→β):β:=avE v (fun c=>acE c (fun _=>e) f (fun _=>e)) (fun _=>e) (fun _=>e)
def OE {β:Type} (v:AV) (e:β) (f:AO→β):β:=avE v (fun c=>acE c (fun _=>e) (fun _ _=>e) f) (fun _=>e) (fun _=>e)
def rQ {β:Type} (v:AV) (e:β) (f:Nat→Nat→Nat→Nat→β):β:=
 OE v e fun x=>AO.rec (motive:=fun _=>β) (fun _=>e) (fun _=>e) e e e e f (fun _ _ _ _ _=>e) (fun _=>e) (fun _ _=>e) (fun _=>e) (fun _=>e) x
def slE {β:Type} (v:AV) (e:β) (f:Nat→Nat→Nat→Nat→Nat→β):β:=
 OE v e fun x=>AO.rec (motive:=fun _=>β) (fun _=>e) (fun _=>e) e e e e (fun _ _ _ _=>e) f (fun _=>e) (fun _ _=>e) (fun _=>e) (fun _=>e) x
structure bJ where
 key:AV
 val:AV
 born:Nat
inductive Pg where
 | map (es:List bJ) (clock:Nat)
 | iter (m:Option Nat) (since:Nat) (seen:List Nat) (stepped:Nat)
 | loop (state:LoopState) (pending:Option Code) (tm:PT AV) (nt:Nat) (params:List Tmp) (assign body:Code) (defers:Nat)
 | dfr (open_:Bool)
inductive aN where
 | arr (cells:List AC) (elem:TypeId) (lo gen:Nat)
 | oth (x:Pg)
 | ro (cells:List AC)
structure Hp where
 t:PT aN
 nx:Nat
 log:List Nat
def Hp.get (h:Hp) (i:Nat):Option aN:=h.t.get i
def Hp.new (h:Hp) (o:aN):Hp:=⟨h.t.set h.nx o,Nat.add h.nx 1,h.log⟩
def Hp.mod (h:Hp) (i:Nat) (o:aN):Hp:=⟨h.t.set i o,h.nx,i::h.log⟩
def lF {β:Type} (o:Option aN) (e:β) (f:List AC→TypeId→Nat→Nat→β):β:=
 Option.rec (motive:=fun _=>β) e (fun x=>aN.rec (motive:=fun _=>β) f (fun _=>e) (fun _=>e) x) o
inductive R (α:Type) where
 | ok (l:List α)
 | bad (why:String)
def wK {α:Type} (x y:R α):R α:=
 R.rec (motive:=fun _=>R α) (fun a=>R.rec (motive:=fun _=>R α) (fun b=>.ok (a++b)) (fun s=>.bad s) y) (fun s=>.bad s) x
def cI {α β:Type} (f:α→R β) (l:List α):R β:=
 List.rec (motive:=fun _=>R β) (.bad "no way") (fun x l' ih=>List.rec (motive:=fun _=>R β) (f x) (fun _ _ _=>wK (f x) ih) l') l
def R.bind {α β:Type} (r:R α) (f:α→R β):R β:=R.rec (motive:=fun _=>R β) (fun l=>cI f l) (fun s=>.bad s) r
def aH:AV:=.tup []
def AV.cells (v:AV):List AC:=avE v (fun c=>[c]) (fun l=>l) (fun _=>[])
def AV.bD (v:AV):Bool:=avE v (fun _=>true) (fun _=>true) (fun _=>false)
def cOf:Value→AC
 | .bool b=>.b b
 | .int k n=>.i k n
 | .string s=>.o (.str s.data.toList)
 | .pointer none=>.o .nilP
 | .slice none 0 0=>.o .nilS
 | .map none=>.o .nilM
 | .nilFunc=>.o .nilF
 | v=>.o (.p v)
def ofValue:Value→AV
 | .agg cs=>.agg (cs.toList.map cOf)
 | .tuple vs=>.tup (vs.toList.map fun v=>match v with|.agg cs=>(true,cs.toList.map cOf)|v=>(false,[cOf v]))
 | v=>.one (cOf v)
def okV:Value→Bool
 | .agg cs=>cs.toList.all Value.oneCell'
 | .tuple vs=>vs.toList.isEmpty
 | _=>true
def AC.val?:AC→Option Value
 | .b x=>some (.bool x)
 | .i k n=>some (.int k n)
 | .o (.p v)=>some v
 | .o (.str s)=>some (.string ⟨s.toArray⟩)
 | .o .nilP=>some (.pointer none)
 | .o .nilS=>some (.slice none 0 0)
 | .o .nilM=>some (.map none)
 | .o .nilF=>some .nilFunc
 | _=>none
def aY:List AC→Option (List Value)
 | []=>some []
 | c::l=>
  match c.val?,aY l with
  | some v,some vs=>some (v::vs)
  | _,_=>none
def AV.val?:AV→Option Value
 | .one c=>c.val?
 | .agg l=>match aY l with|some vs=>some (.agg vs.toArray)|none=>none
 | .tup []=>some (.tuple #[])
 | _=>none
inductive OpF where
 | slot (t:Tmp)
 | cst (v:AV)
def opF:Operand→OpF
 | .tmp t=>.slot t
 | .const v=>.cst (bif okV v then ofValue v else .any)
 | .global _=>.cst .any
 | .func f=>.cst (.one (.o (.clo f [])))
def OpF.ev (x:OpF) (tm:PT AV):AV:=OpF.rec (motive:=fun _=>AV) (fun t=>az (tm.get t) aH fun v=>v) (fun v=>v) x
def ev (tm:PT AV) (x:Operand):AV:=(opF x).ev tm
def ay {α:Type} (P:Program):Sem α→Option α
 | .pure a=>some a
 | .program k=>ay P (k P)
 | .mark _ k=>ay P k
 | _=>none
def ns (P:Program) (t:TypeId):Option Bool:=
 match P.underlying t with
 | some (.struct _)=>some true
 | some (.array _ _)=>some true
 | some _=>some false
 | none=>none
def aU (P:Program) (t:TypeId):Option Nat:=match P.info? t with|some i=>some i.size|none=>none
def bW (P:Program) (t:TypeId):Option Nat:=match P.info? t with|some i=>some i.bytes|none=>none
def ax (P:Program) (t:TypeId):Option Value:=
 match P.info? t with
 | some i=>
  match i.zero with
  | some z=>match z with
   | .tuple _=>none
   | z=>bif okV z then some z else none
  | none=>none
 | none=>none
def sh (P:Program) (t:TypeId):Option TypeId:=match P.underlying t with|some (.slice e)=>some e|_=>none
def aJ (P:Program) (s:TypeId) (f:Nat):Option (Nat×TypeId×Nat):=
 match P.underlying s with
 | some (.struct fs)=>
  match fs[f]? with
  | some fd=>
   match aU P fd.type with
   | some n=>some (fd.offset,fd.type,n)
   | none=>none
  | none=>none
 | _=>none
def ir (P:Program) (t:TypeId):Option (TypeId×TypeId):=match P.underlying t with|some (.map k e)=>some (k,e)|_=>none
def loadT (P:Program) (t:TypeId):Option (Bool×Nat):=
 match ns P t,aU P t with
 | some a,some n=>some (a,n)
 | _,_=>none
def ba (P:Program) (t:TypeId):Option (TypeId×Nat):=
 match sh P t with
 | some e=>match aU P e with|some n=>some (e,n)|none=>none
 | none=>none
def bh (l:List AC):Nat:=List.rec (motive:=fun _=>Nat) 0 (fun _ _ ih=>Nat.add ih 1) l
def GK (n:Nat):List AC→List AC:=
 Nat.rec (motive:=fun _=>List AC→List AC) (fun l=>l) (fun _ ih l=>List.rec (motive:=fun _=>List AC) [] (fun _ l' _=>ih l') l) n
def Np (n:Nat):List AC→List AC:=
 Nat.rec (motive:=fun _=>List AC→List AC) (fun _=>[]) (fun _ ih l=>List.rec (motive:=fun _=>List AC) [] (fun x l' _=>x::ih l') l) n
def lV (l m:List AC):List AC:=List.rec (motive:=fun _=>List AC) m (fun x _ ih=>x::ih) l
def cut (l:List AC) (off n:Nat):List AC:=Np n (GK off l)
def fi (l:List AC) (off:Nat) (c:List AC):List AC:=lV (Np off l) (lV c (GK (Nat.add off (bh c)) l))
inductive aA where
 | normal
 | exit (id:Nat)
 | ret
inductive ae where
 | val (v:AV) (h:Hp)
 | ou (l:List (AV×Hp))
 | enter (f:FuncId) (args:List AV)
 | round (id:Nat) (args:List AV)
 | bad (why:String)
def nd {α:Type} (o:Option α) (why:String) (f:α→ae):ae:=Option.rec (motive:=fun _=>ae) (.bad why) f o
def aF (b:Bool) (why:String) (n:ae):ae:=Bool.rec (motive:=fun _=>ae) (.bad why) n b
def rdO (o:Option aN) (g off lim n:Nat):Option (List AC):=
 Option.rec (motive:=fun _=>Option (List AC)) none (fun x=>aN.rec (motive:=fun _=>Option (List AC))
  (fun cells _ lo gen=>ifE (both (Nat.ble lo g) (both (Nat.ble g gen) (both (Nat.ble n lim) (Nat.ble (Nat.add off n) (bh cells))))) (some (cut cells off n)) none) (fun _=>none)
  (fun cells=>ifE (both (Nat.beq g 0) (both (Nat.ble n lim) (Nat.ble (Nat.add off n) (bh cells)))) (some (cut cells off n)) none) x) o
def fg (h:Hp) (id g off lim n:Nat):Option (List AC):=rdO (h.get id) g off lim n
def cd (h:Hp) (a:Bool) (n:Nat) (v:AV):ae:=
 rQ v (.bad "load - no pointer") fun id g off lim=>
  nd (fg h id g off lim n) "load - cells" fun c=>ifE a (.val (.agg c) h) (List.rec (motive:=fun _=>ae) (.bad "load - no cell") (fun x _ _=>.val (.one x) h) c)
def fS (h:Hp) (n:Nat) (x v:AV):ae:=
 rQ v (.bad "store - no pointer") fun id g off lim=>
  lF (h.get id) (.bad "store - no row") fun cells e lo gen=>
   aF (both (Nat.beq g gen) (both (Nat.beq (bh x.cells) n) (both (Nat.ble n lim) (both (Nat.ble (Nat.add off n) (bh cells)) (both (Nat.ble lo gen) x.bD))))) "store - stale or of another size"
    (.val aH (h.mod id (.arr (fi cells off x.cells) e gen gen)))
def im (h:Hp) (cells:List AC) (e:TypeId):ae:=
 .val (.one (.o (.ptr h.nx 0 0 (bh cells)))) (h.new (.arr cells e 0 0))
def kh (z:List AC) (n:Nat):List AC:=Nat.rec (motive:=fun _=>List AC) [] (fun _ ih=>lV z ih) n
def vo:Int→Option Nat
 | .ofNat n=>some n
 | .negSucc _=>none
def CC (v:Option AV) (d:Nat):Option Nat:=az v (some d) fun v=>eX v none fun _ n=>vo n
def aS (P:Program) (t:TypeId):Nat:=
 match P.underlying t with
 | some (.pointer _)=>0
 | some (.slice _)=>1
 | some (.map _ _)=>2
 | some (.func _ _ _)=>3
 | _=>4
def uR:AO→Nat
 | .nilP=>0
 | .nilS=>1
 | .nilM=>2
 | .nilF=>3
 | _=>5
def wJ:AO→Nat
 | .ptr ..=>0
 | .sl ..=>1
 | .mp _=>2
 | .clo ..=>3
 | _=>5
def NL (k:Nat):AV→AV→Option Bool
 | .one (.o a),.one (.o b)=>bif Nat.blt k 4&&((Nat.beq (wJ a) k&&Nat.beq (uR b) k)||(Nat.beq (uR a) k&&Nat.beq (wJ b) k)) then some false else none
 | _,_=>none
def IN:IntKind→Nat
 | .i8=>0|.i16=>1|.i32=>2|.i64=>3|.u8=>4|.u16=>5|.u32=>6|.u64=>7
def sameKind (a b:IntKind):Bool:=Nat.beq (IN a) (IN b)
def iE {β:Type} (a:Int) (f g:Nat→β):β:=Int.rec (motive:=fun _=>β) f g a
def iLe (a b:Int):Bool:=iE a (fun m=>iE b (fun n=>Nat.ble m n) (fun _=>false)) (fun m=>iE b (fun _=>true) (fun n=>Nat.ble n m))
def iEq (a b:Int):Bool:=iE a (fun m=>iE b (fun n=>Nat.beq m n) (fun _=>false)) (fun m=>iE b (fun _=>false) (fun n=>Nat.beq m n))
def pT (k:IntKind) (n:Int):Int:=
 ifE (Nat.beq (IN k) 3) (iE n (fun m=>ifE (Nat.ble 9223372036854775808 m) (k.wrap n) n) (fun m=>ifE (Nat.ble 9223372036854775808 m) (k.wrap n) n)) (k.wrap n)
inductive BF where
 | i (f:IntKind→Int→Int→Int)
 | b (f:Int→Int→Bool)
 | no
def eJ (op:BinOp):BF:=
 match op with
 | .add=>.i fun k a b=>pT k (Int.add a b)
 | .sub=>.i fun k a b=>pT k (Int.sub a b)
 | .mul=>.i fun k a b=>pT k (Int.mul a b)
 | .eql=>.b iEq
 | .neq=>.b fun a b=>!iEq a b
 | .lss=>.b fun a b=>!iLe b a
 | .leq=>.b iLe
 | .gtr=>.b fun a b=>!iLe a b
 | .geq=>.b fun a b=>iLe b a
 | _=>.no
def bEq (a b:UInt8):Bool:=Nat.beq a.toNat b.toNat
def lEq (x:List UInt8):List UInt8→Bool:=
 List.rec (motive:=fun _=>List UInt8→Bool) (fun y=>List.rec (motive:=fun _=>Bool) true (fun _ _ _=>false) y)
  (fun a _ ih y=>List.rec (motive:=fun _=>Bool) false (fun b y' _=>both (bEq a b) (ih y')) y) x
def bj (x:List UInt8):List UInt8→Bool:=
 List.rec (motive:=fun _=>List UInt8→Bool) (fun y=>List.rec (motive:=fun _=>Bool) false (fun _ _ _=>true) y)
  (fun a _ ih y=>List.rec (motive:=fun _=>Bool) false (fun b y' _=>ifE (Nat.blt a.toNat b.toNat) true (both (bEq a b) (ih y'))) y) x
def Yz (op:BinOp):Option (List UInt8→List UInt8→Bool):=
 match op with
 | .eql=>some lEq
 | .neq=>some fun a b=>!lEq a b
 | .lss=>some bj
 | .leq=>some fun a b=>bj a b||lEq a b
 | .gtr=>some fun a b=>!(bj a b||lEq a b)
 | .geq=>some fun a b=>!bj a b
 | _=>none
def ia {β:Type} (v:AV) (e:β) (f:List UInt8→β):β:=
 OE v e fun x=>AO.rec (motive:=fun _=>β) (fun _=>e) f e e e e (fun _ _ _ _=>e) (fun _ _ _ _ _=>e) (fun _=>e) (fun _ _=>e) (fun _=>e) (fun _=>e) x
def bC (P:Program) (kt:TypeId):Nat:=
 match P.underlying kt with
 | some .string=>0
 | some (.int _)=>1
 | some .bool=>3
 | some _=>2
 | none=>3
def jJ (P:Program) (kt:TypeId) (a b:AV):Option Bool:=
 Nat.rec (motive:=fun _=>Option Bool) (ia a none fun x=>ia b none fun y=>some (lEq x y))
  (fun k _=>Nat.rec (motive:=fun _=>Option Bool) (eX a none fun k x=>eX b none fun k' y=>ifE (sameKind k k') (some (iEq x y)) none)
   (fun k _=>Nat.rec (motive:=fun _=>Option Bool) (az a.val? none fun x=>az b.val? none fun y=>ay P (Op.equal kt x y)) (fun _ _=>none) k) k) (bC P kt)
def jv (P:Program) (kt:TypeId) (k:AV) (l:List bJ):Option (Option bJ):=
 List.rec (motive:=fun _=>Option (Option bJ)) (some none) (fun e _ ih=>az (jJ P kt k e.key) none fun b=>ifE b (some (some e)) ih) l
def iu (P:Program) (empty:Bool) (kt:TypeId) (k:AV):Option Unit:=
 Nat.rec (motive:=fun _=>Option Unit) (ia k none fun _=>some ())
  (fun n _=>Nat.rec (motive:=fun _=>Option Unit) (eX k none fun _ _=>some ())
   (fun n _=>Nat.rec (motive:=fun _=>Option Unit) (az k.val? none fun v=>ay P (Instr.checkKey empty 10000 kt v)) (fun _ _=>none) n) n) (bC P kt)
def sameKey (P:Program) (kt:TypeId) (a b:AV):Bool:=
 Nat.rec (motive:=fun _=>Bool) (ia a false fun x=>ia b false fun y=>lEq x y)
  (fun n _=>Nat.rec (motive:=fun _=>Bool) (eX a false fun k x=>eX b false fun k' y=>both (sameKind k k') (iEq x y))
   (fun _ _=>az a.val? false fun x=>az b.val? false fun y=>Instr.sameBits 10000 x y) n) (bC P kt)
def mI (P:Program) (kt:TypeId) (k x:AV) (l:List bJ):Option (Bool×List bJ):=
 List.rec (motive:=fun _=>Option (Bool×List bJ)) (some (false,[]))
  (fun e es ih=>az (jJ P kt k e.key) none fun b=>ifE b (ifE (sameKey P kt e.key k) (some (true,⟨k,x,e.born⟩::es)) none) (az ih none fun r=>some (r.1,e::r.2))) l
def Ov:AV→Bool×List AC
 | .one a=>(false,[a])
 | .agg l=>(true,l)
 | .tup _=>(false,[])
 | .any=>(false,[])
def Rq (k v:AV):AV:=.tup [Ov k,Ov v]
def mX (k v:AV):AV:=.tup [(false,[.b true]),Ov k,Ov v]
def bG (h:Hp) (ok:Bool) (v:AV) (b:Bool):ae:=
 match ok with
 | false=>.val v h
 | true=>aF v.bD "lookup - tuple" (.val (.tup [Ov v,(false,[.b b])]) h)
def bw (P:Program) (h:Hp) (kt:TypeId) (z:AV) (m k:AV) (ok:Bool):ae:=
 match m with
 | .one (.o .nilM)=>nd (iu P true kt k) "lookup - key" fun _=>bG h ok z false
 | .one (.o (.mp id))=>
  match h.get id with
  | some (.oth (.map es _))=>nd (iu P es.isEmpty kt k) "lookup - key" fun _=>
   match jv P kt k es with
   | some (some e)=>bG h ok e.val true
   | some none=>bG h ok z false
   | none=>.bad "lookup - keys"
  | _=>.bad "lookup - no map"
 | _=>.bad "lookup - not a map"
def aV (P:Program) (h:Hp) (kt:TypeId) (m k x:AV):ae:=
 match m with
 | .one (.o (.mp id))=>
  match h.get id with
  | some (.oth (.map es clock))=>nd (iu P false kt k) "mapUpdate - key" fun _=>aF (both k.bD x.bD) "mapUpdate - tuple" <| nd (mI P kt k x es) "mapUpdate - keys" fun r=>
   ifE r.1 (.val aH (h.mod id (.oth (.map r.2 clock)))) (.val aH (h.mod id (.oth (.map (es++[⟨k,x,clock⟩]) (Nat.add clock 1)))))
  | _=>.bad "mapUpdate - no map"
 | _=>.bad "mapUpdate - nil or not a map"
def uD:AV:=.tup [(false,[.b false])]
def gz (h:Hp):AV→ae
 | .one (.o (.it r))=>
  match h.get r with
  | some (.oth (.iter none _ _ _))=>.val uD h
  | some (.oth (.iter (some m) since seen last))=>
   match h.get m with
   | some (.oth (.map es clock))=>
    aF (!(!seen.isEmpty&&!es.isEmpty&&es.all (fun e=>Nat.ble last e.born))) "next - all gone" <|
     match es.filter (fun e=>!seen.contains e.born) with
     | []=>.val uD h
     | e::l=>
      aF ((e::l).all fun e=>Nat.blt e.born since) "next - new entries"
       (.ou ((e::l).map fun e=>(mX e.key e.val,h.mod r (.oth (.iter (some m) since (seen++[e.born]) clock)))))
   | _=>.bad "next - no map"
  | _=>.bad "next - no iterator"
 | _=>.bad "next - not an iterator"
def gO (h:Hp):AV→ae
 | .one (.o (.it r))=>
  match h.get r with
  | some (.oth (.iter (some m) _ seen stepped))=>
   match h.get m with
   | some (.oth (.map es clock))=>
    match seen.getLast? with
    | some st=>
     aF (Nat.beq clock stepped) "entry - clock" <|
      match es.find? (fun e=>Nat.beq e.born st) with
      | some e=>.val (Rq e.key e.val) h
      | none=>.bad "entry - gone"
    | none=>.bad "entry - no step"
   | _=>.bad "entry - no map"
  | _=>.bad "entry - no iterator"
 | _=>.bad "entry - not an iterator"
def ff (h:Hp) (sz:Nat):AV→Option (Nat×List AC)
 | .one (.o (.sl id g off len sz'))=>
  match Nat.beq sz' sz,fg h id g off (Nat.mul len sz) (Nat.mul len sz) with
  | true,some c=>some (len,c)
  | _,_=>none
 | .one (.o .nilS)=>some (0,[])
 | _=>none
def dp (h:Hp) (e sz by_:Nat) (n:Nat) (c:List AC) (s:AV):ae:=
 match s with
 | .one (.o .nilS)=>
  ifE (Nat.beq n 0) (.val s h)
   (aF (both (Nat.ble n 140737488355328) (Nat.ble (Nat.mul n by_) 140737488355328)) "append - too much"
    (.val (.one (.o (.sl h.nx 0 0 n sz))) (h.new (.arr c e 0 0))))
 | .one (.o (.sl id g off len sz'))=>
  lF (h.get id) (.bad "append - no row") fun cells e' lo gen=>
   aF (both (Nat.beq sz' sz) (both (Nat.beq e' e) (both (Nat.ble lo g) (both (Nat.ble g gen) (both (Nat.ble (Nat.add off (Nat.mul len sz)) (bh cells))
     (both (Nat.ble (Nat.add len n) 140737488355328) (Nat.ble (Nat.mul (Nat.add len n) by_) 140737488355328))))))) "append - stale or too much"
    (ifE (Nat.beq n 0) (.val s h)
     (ifE (both (Nat.beq g gen) (both (Nat.beq off 0) (Nat.beq (Nat.mul len sz) (bh cells))))
      (.val (.one (.o (.sl id (Nat.add gen 1) 0 (Nat.add len n) sz))) (h.mod id (.arr (lV cells c) e lo (Nat.add gen 1))))
      (.val (.one (.o (.sl id (Nat.add gen 1) 0 (Nat.add len n) sz))) (h.mod id (.arr (lV (cut cells off (Nat.mul len sz)) c) e (Nat.add gen 1) (Nat.add gen 1))))))
 | _=>.bad "append - no slice"
def aL (P:Program) (h:Hp) (t:TypeId) (s x:AV):ae:=
 nd (ba P t) "append - type" fun es=>nd (bW P es.1) "append - bytes" fun by_=>nd (ax P es.1) "append - zero" fun z=>
  aF (both (!Nat.beq es.2 0) (Nat.beq (bh (ofValue z).cells) es.2)) "append - size 0" <|
   nd (ff h es.2 x) "append - what is appended" fun nc=>dp h es.1 es.2 by_ nc.1 nc.2 s
def Bz (P:Program) (h:Hp) (t:TypeId) (d s:AV):ae:=
 nd (ba P t) "copy - type" fun es=>
  match d,s with
  | .one (.o (.sl id g off len sz1)),.one (.o (.sl id2 g2 off2 len2 sz2))=>
   aF (both (Nat.beq sz1 es.2) (Nat.beq sz2 es.2)) "copy - sizes" <|
    nd (fg h id2 g2 off2 (Nat.mul len2 es.2) (Nat.mul (ifE (Nat.ble len2 len) len2 len) es.2)) "copy - source" fun c=>
     lF (h.get id) (.bad "copy - no row") fun cells e' lo gen=>
      aF (both (Nat.beq g gen) (both (Nat.ble (Nat.add off (Nat.mul (ifE (Nat.ble len2 len) len2 len) es.2)) (bh cells)) (Nat.ble lo gen))) "copy - stale"
       (.val (.one (.i .i64 (.ofNat (ifE (Nat.ble len2 len) len2 len)))) (h.mod id (.arr (fi cells off c) e' gen gen)))
  | .one (.o (.sl ..)),.one (.o .nilS)=>.val (.one (.i .i64 (.ofNat 0))) h
  | .one (.o .nilS),.one (.o (.sl ..))=>.val (.one (.i .i64 (.ofNat 0))) h
  | .one (.o .nilS),.one (.o .nilS)=>.val (.one (.i .i64 (.ofNat 0))) h
  | _,_=>.bad "copy - not slices"
def ij:List AV→Option (List (Nat×Nat×Nat×Nat))
 | []=>some []
 | .one (.o (.ptr id g off lim))::l=>match ij l with|some r=>some ((id,g,off,lim)::r)|none=>none
 | _::_=>none
def fb:List (Nat×Nat×Nat×Nat)→List AV
 | []=>[]
 | (id,g,off,lim)::l=>.one (.o (.ptr id g off lim))::fb l
def ak (P:Program) (f:FuncId):Bool:=
 match P.funcs[f]? with
 | some fn=>fn.body.isSome
 | none=>false
def lD (P:Program) (f:AV) (args:List AV):ae:=
 OE f (.bad "call - no function value") fun x=>
  AO.rec (motive:=fun _=>ae) (fun _=>.bad "call") (fun _=>.bad "call") (.bad "call - nil") (.bad "call - nil") (.bad "call - nil") (.bad "call - nil") (fun _ _ _ _=>.bad "call") (fun _ _ _ _ _=>.bad "call") (fun _=>.bad "call")
   (fun g caps=>aF (ak P g) "call - no body" (.enter g (args++fb caps))) (fun id=>.round id args) (fun _=>.bad "call") x
def aZ (x:AV):Value:=match x.val? with|some v=>v|none=>undef
def aq (P:Program) (tm:PT AV) (h:Hp) (o:Oper):ae:=
 aF (o.op.operands.toList.all (fun x=>(ev tm x).val?.isSome)) "plain - an address" <|
  match ay P (execOp (fun x=>aZ (ev tm x)) o) with
  | some (.value v)=>aF (okV v) "plain - value" (.val (ofValue v) h)
  | _=>.bad "plain - no value"
def cT (place:Nat→Option (Nat×Nat)):List (Nat×Operand)→Option (List (Nat×Nat×OpF))
 | []=>some []
 | (i,x)::l=>
  match place i,cT place l with
  | some p,some r=>some ((p.1,p.2,opF x)::r)
  | _,_=>none
def fj (tm:PT AV) (parts:List (Nat×Nat×OpF)):List AC→Option (List AC):=
 List.rec (motive:=fun _=>List AC→Option (List AC)) (fun cells=>some cells)
  (fun x _ ih cells=>
   ifE (both (Nat.beq (bh (x.2.2.ev tm).cells) x.2.1) (both (Nat.ble (Nat.add x.1 x.2.1) (bh cells)) (x.2.2.ev tm).bD)) (ih (fi cells x.1 (x.2.2.ev tm).cells)) none) parts
def cH (P:Program) (t:TypeId):Option (Nat→Option (Nat×Nat)):=
 match P.underlying t with
 | some (.struct fs)=>
  match fs.toList.mapM (fun f=>(P.info? f.type).map fun i=>(f.offset,i.size)) with
  | some places=>some fun i=>places.toArray[i]?
  | none=>none
 | some (.array _ el)=>
  match P.info? el with
  | some ie=>some fun i=>some (i*ie.size,ie.size)
  | none=>none
 | _=>none
def nw (h:Hp) (z:List AC) (tm:PT AV) (parts:List (Nat×Nat×OpF)):ae:=nd (fj tm parts z) "build - fill" fun c=>.val (.agg c) h
def iK (h:Hp) (z:List AC) (tm:PT AV) (e sz len:Nat) (parts:List (Nat×Nat×OpF)):ae:=
 nd (fj tm parts z) "buildSlice - fill" fun c=>.val (.one (.o (.sl h.nx 0 0 len sz))) (h.new (.arr c e 0 0))
def dk (h:Hp) (sz':Nat) (x:AV) (lo hi:Option AV) (alt:ae):ae:=
 slE x alt fun id g off len sz=>
  nd (CC lo 0) "slice - low" fun l=>nd (CC hi len) "slice - high" fun r=>
   aF (both (Nat.beq sz sz') (both (Nat.ble l r) (Nat.ble r len))) "slice - out" (.val (.one (.o (.sl id g (Nat.add off (Nat.mul l sz)) (Nat.sub r l) sz))) h)
def cG (h:Hp) (x:AV) (i:Nat):ae:=
 avE x (fun _=>.bad "extract - no tuple") (fun _=>.bad "extract - no tuple") fun l=>
  Nat.rec (motive:=fun _=>List (Bool×List AC)→ae)
   (fun l=>List.rec (motive:=fun _=>ae) (.bad "extract") (fun x _ _=>
    ifE x.1 (.val (.agg x.2) h) (List.rec (motive:=fun _=>ae) (.bad "extract") (fun c m _=>List.rec (motive:=fun _=>ae) (.val (.one c) h) (fun _ _ _=>.bad "extract") m) x.2)) l)
   (fun _ ih l=>List.rec (motive:=fun _=>ae) (.bad "extract") (fun _ l' _=>ih l') l) i l
def dR (P:Program) (h:Hp) (t:TypeId) (l c:AV):ae:=
 nd (ba P t) "makeSlice - type" fun es=>nd (bW P es.1) "makeSlice - bytes" fun by_=>nd (ax P es.1) "makeSlice - zero" fun z=>
  eX l (.bad "makeSlice - sizes unknown") fun _ n=>eX c (.bad "makeSlice - sizes unknown") fun _ m=>nd (vo n) "makeSlice - negative" fun n=>nd (vo m) "makeSlice - negative" fun m=>
   aF (both (Nat.ble n m) (both (Nat.ble m 1073741824) (both (Nat.ble (Nat.mul m by_) 140737488355328) (Nat.beq (bh (ofValue z).cells) es.2)))) "makeSlice - sizes"
    (.val (.one (.o (.sl h.nx 0 0 n es.2))) (h.new (.arr (kh (ofValue z).cells m) es.1 0 0)))
def iC (h:Hp) (x:AV):ae:=
 match x with
 | .one (.o .nilM)=>.val (.one (.o (.it h.nx))) (h.new (.oth (.iter none 0 [] 0)))
 | .one (.o (.mp m))=>
  match h.get m with
  | some (.oth (.map _ clock))=>.val (.one (.o (.it h.nx))) (h.new (.oth (.iter (some m) clock [] clock)))
  | _=>.bad "range - no map"
 | _=>.bad "range - of what"
def eT (P:Program) (t:TypeId):Option Nat:=
 match P.underlying t with
 | some .string=>some 0
 | some (.slice _)=>some 1
 | some (.map _ _)=>some 2
 | _=>none
def JM (l:List UInt8):Nat:=List.rec (motive:=fun _=>Nat) 0 (fun _ _ ih=>Nat.add ih 1) l
def Ce (n:Nat):AV:=.one (.i .i64 (.ofNat n))
def eD (h:Hp) (x:AV):ae:=
 match x with
 | .one (.o .nilM)=>.val (Ce 0) h
 | .one (.o (.mp id))=>
  match h.get id with
  | some (.oth (.map es _))=>.val (Ce es.length) h
  | _=>.bad "len - no map"
 | _=>.bad "len - not a map"
def QS (x:AV):Bool:=
 OE x false fun x=>AO.rec (motive:=fun _=>Bool) (fun _=>false) (fun _=>false) false true false false (fun _ _ _ _=>false) (fun _ _ _ _ _=>false) (fun _=>false) (fun _ _=>false) (fun _=>false) (fun _=>false) x
def cQ (h:Hp) (k:Nat) (x:AV):ae:=
 Nat.rec (motive:=fun _=>ae) (ia x (.bad "len - not a string") fun s=>.val (Ce (JM s)) h)
  (fun k' _=>Nat.rec (motive:=fun _=>ae) (slE x (aF (QS x) "len - not a slice" (.val (Ce 0) h)) fun _ _ _ len _=>.val (Ce len) h) (fun _ _=>eD h x) k') k
def nK (h:Hp) (kd:Nat) (op:BinOp) (x y:AV) (alt:ae):ae:=
 match NL kd x y with
 | some b=>
  match op with
  | .eql=>.val (.one (.b b)) h
  | .neq=>.val (.one (.b (!b))) h
  | _=>.bad "binOp - addresses"
 | none=>alt
def kL (h:Hp) (f:BF) (k:IntKind) (a:Int) (k':IntKind) (b:Int) (alt:ae):ae:=
 ifE (sameKind k k') (BF.rec (motive:=fun _=>ae) (fun f=>.val (.one (.i k (f k a b))) h) (fun f=>.val (.one (.b (f a b))) h) alt f) alt
def kD (h:Hp) (kd:Nat) (op:BinOp) (x y:AV) (alt:ae):ae:=
 ia x (nK h kd op x y alt) fun a=>ia y alt fun b=>az (Yz op) alt fun f=>.val (.one (.b (f a b))) h
def bt (h:Hp) (kd:Nat) (op:BinOp) (f:BF) (x y:AV) (alt:ae):ae:=
 avE x (fun c=>acE c (fun _=>alt) (fun k a=>eX y alt fun k' b=>kL h f k a k' b alt) (fun _=>kD h kd op x y alt)) (fun _=>alt) (fun _=>alt)
def dU (h:Hp) (fo n:Nat) (x:AV):ae:=
 rQ x (.bad "fieldAddr - no pointer") fun id g off lim=>
  aF (both (Nat.ble 1 n) (Nat.ble (Nat.add fo n) lim)) "fieldAddr - lim" (.val (.one (.o (.ptr id g (Nat.add off fo) (Nat.sub lim fo)))) h)
def cO (h:Hp) (sz':Nat) (x i:AV):ae:=
 slE x (.bad "indexAddr - no slice") fun id g off len sz=>eX i (.bad "indexAddr - index") fun _ n=>nd (vo n) "indexAddr - negative" fun n=>
  aF (both (Nat.beq sz sz') (Nat.blt n len)) "indexAddr - out" (.val (.one (.o (.ptr id g (Nat.add off (Nat.mul n sz)) sz))) h)
def VJ (n:Nat):List UInt8→Option UInt8:=
 Nat.rec (motive:=fun _=>List UInt8→Option UInt8) (fun l=>List.rec (motive:=fun _=>Option UInt8) none (fun x _ _=>some x) l)
  (fun _ ih l=>List.rec (motive:=fun _=>Option UInt8) none (fun _ l' _=>ih l') l) n
def iI (h:Hp) (isStr:Bool) (x i:AV) (alt:ae):ae:=
 ifE isStr (ia x alt fun s=>eX i alt fun _ n=>nd (vo n) "index - negative" fun n=>nd (VJ n s) "index - out" fun b=>.val (.one (.i .u8 (.ofNat b.toNat))) h) alt
def Kh (h:Hp) (op:UnOp) (x:AV) (alt:ae):ae:=
 match op with
 | .not=>dS x alt fun b=>.val (.one (.b (!b))) h
 | _=>alt
def UD (n:Nat) (l:List AC):Option AC:=List.rec (motive:=fun _=>Option AC) none (fun x _ _=>some x) (GK n l)
def pE (h:Hp) (fo n:Nat) (a:Bool) (x:AV):ae:=
 avE x (fun _=>.bad "field - no struct") (fun l=>ifE a (aF (Nat.ble (Nat.add fo n) (bh l)) "field - part" (.val (.agg (cut l fo n)) h)) (nd (UD fo l) "field - part" fun c=>.val (.one c) h)) (fun _=>.bad "field - no struct")
inductive SF where
 | mk (f:PT AV→Hp→ae)
def SF.run (s:SF):PT AV→Hp→ae:=SF.rec (motive:=fun _=>PT AV→Hp→ae) (fun f=>f) s
def evs (l:List Operand) (tm:PT AV):List AV:=List.rec (motive:=fun _=>List AV) [] (fun x _ ih=>(opF x).ev tm::ih) l
def ka (why:String):SF:=.mk fun _ _=>.bad why
def ndF {α:Type} (o:Option α) (why:String) (f:α→SF):SF:=Option.rec (motive:=fun _=>SF) (ka why) f o
def jh (P:Program) (o:Oper) (b:Builtin) (args:List Operand) (ts:List TypeId):SF:=
 match b,args,ts with
 | .append,[s,x],[t,t2]=>ifE (Nat.beq t t2) (.mk fun tm h=>aL P h t (ev tm s) (ev tm x)) (ka "append - types")
 | .copy,[d,s],[t,t2]=>ifE (Nat.beq t t2) (.mk fun tm h=>Bz P h t (ev tm d) (ev tm s)) (ka "copy - types")
 | .len,[x],[t]=>ndF (eT P t) "len - type" fun k=>.mk fun tm h=>cQ h k ((opF x).ev tm)
 | .min,_,_=>.mk fun tm h=>aq P tm h o
 | .max,_,_=>.mk fun tm h=>aq P tm h o
 | _,_,_=>ka "builtin"
def tr (P:Program) (o:Oper) (c:Call):SF:=
 match c.callee with
 | .value f=>.mk fun tm _=>lD P ((opF f).ev tm) (evs c.args.toList tm)
 | .builtin b=>jh P o b c.args.toList c.argTypes.toList
 | .invoke ..=>ka "invoke"
def nq (P:Program) (t:TypeId):Bool:=match P.underlying t with|some .string=>true|_=>false
def SW (x:OpF):SF:=OpF.rec (motive:=fun _=>SF) (fun t=>.mk fun tm h=>.val (az (tm.get t) aH fun v=>v) h) (fun v=>.mk fun _ h=>.val v h) x
def WD (c a b:OpF):SF:=.mk fun tm h=>dS (c.ev tm) (.bad "pick") fun x=>.val (ifE x (a.ev tm) (b.ev tm)) h
def gJ (h:Hp) (v:AV):ae:=
 OE v (.bad "nilCheck") fun x=>
  AO.rec (motive:=fun _=>ae) (fun _=>.bad "nilCheck") (fun _=>.bad "nilCheck") (.bad "nilCheck") (.bad "nilCheck") (.bad "nilCheck") (.bad "nilCheck") (fun _ _ _ _=>.val v h) (fun _ _ _ _ _=>.bad "nilCheck") (fun _=>.bad "nilCheck")
   (fun _ _=>.val v h) (fun _=>.bad "nilCheck") (fun _=>.bad "nilCheck") x
def au (P:Program) (o:Oper):SF:=
 match o.op with
 | .move x=>SW (opF x)
 | .assign x=>SW (opF x)
 | .pick c a b=>WD (opF c) (opF a) (opF b)
 | .alloc e=>ndF (ax P e) "alloc - zero" fun z=>.mk fun _ h=>im h (ofValue z).cells e
 | .box e x=>.mk fun tm h=>aF ((opF x).ev tm).bD "box - a tuple" (im h ((opF x).ev tm).cells e)
 | .build t parts=>ndF (ax P t) "build - zero" fun z=>ndF (cH P t) "build - type" fun pl=>ndF (cT pl parts.toList) "build - parts" fun ps=>.mk fun tm h=>nw h (ofValue z).cells tm ps
 | .buildSlice t len parts=>ndF (ba P t) "buildSlice - type" fun es=>ndF (ax P es.1) "buildSlice - zero" fun z=>
  ifE (both (Nat.ble (Nat.mul len es.2) 16777216) (Nat.beq (bh (ofValue z).cells) es.2))
   (ndF (cT (fun i=>some (i*es.2,es.2)) parts.toList) "buildSlice - parts" fun ps=>.mk fun tm h=>iK h (kh (ofValue z).cells len) tm es.1 es.2 len ps) (ka "buildSlice - too much")
 | .load t a=>ndF (loadT P t) "load - type" fun p=>.mk fun tm h=>cd h p.1 p.2 ((opF a).ev tm)
 | .store t a x=>ndF (aU P t) "store - type" fun n=>.mk fun tm h=>fS h n ((opF x).ev tm) ((opF a).ev tm)
 | .nilCheck x=>.mk fun tm h=>gJ h ((opF x).ev tm)
 | .binOp op t x y _=>.mk fun tm h=>bt h (aS P t) op (eJ op) ((opF x).ev tm) ((opF y).ev tm) (aq P tm h o)
 | .fieldAddr s x f=>ndF (aJ P s f) "fieldAddr - type" fun p=>.mk fun tm h=>dU h p.1 p.2.2 ((opF x).ev tm)
 | .field t x f=>ndF (aJ P t f) "field - type" fun p=>ndF (ns P p.2.1) "field - type" fun a=>.mk fun tm h=>pE h p.1 p.2.2 a ((opF x).ev tm)
 | .indexAddr t x i=>ndF (ba P t) "indexAddr - type" fun p=>.mk fun tm h=>cO h p.2 ((opF x).ev tm) ((opF i).ev tm)
 | .slice t x lo hi mx=>
  match mx with
  | none=>
   match ba P t with
   | some p=>.mk fun tm h=>dk h p.2 ((opF x).ev tm) (lo.map (ev tm)) (hi.map (ev tm)) (aq P tm h o)
   | none=>.mk fun tm h=>aq P tm h o
  | some _=>ka "slice - three"
 | .extract x i=>.mk fun tm h=>cG h ((opF x).ev tm) i
 | .makeFunc fn first caps=>
  match fn with
  | .func f=>ifE first.isEmpty (.mk fun tm h=>nd (ij (evs caps.toList tm)) "makeFunc - captured" fun cs=>.val (.one (.o (.clo f cs))) h) (ka "makeFunc - bound")
  | _=>ka "makeFunc - kind"
 | .makeMap _ r=>
  match r with
  | none=>.mk fun _ h=>.val (.one (.o (.mp h.nx))) (h.new (.oth (.map [] 0)))
  | some _=>ka "makeMap - hint"
 | .makeSlice t l c=>.mk fun tm h=>dR P h t (ev tm l) (ev tm c)
 | .lookup t m k ok=>ndF (ir P t) "lookup - type" fun p=>ndF (ax P p.2) "lookup - zero" fun z=>.mk fun tm h=>bw P h p.1 (ofValue z) (ev tm m) (ev tm k) ok
 | .mapUpdate t m k x=>ndF (ir P t) "mapUpdate - type" fun p=>.mk fun tm h=>aV P h p.1 (ev tm m) (ev tm k) (ev tm x)
 | .insert t m k x=>ndF (ir P t) "insert - type" fun p=>.mk fun tm h=>aV P h p.1 (ev tm m) (ev tm k) (ev tm x)
 | .range t x=>ndF (ir P t) "range - type" fun _=>.mk fun tm h=>iC h (ev tm x)
 | .next x b=>
  match b with
  | true=>ka "next - string"
  | false=>.mk fun tm h=>gz h (ev tm x)
 | .entry x=>.mk fun tm h=>gO h (ev tm x)
 | .call c=>tr P o c
 | .unOp op _ x=>.mk fun tm h=>Kh h op ((opF x).ev tm) (aq P tm h o)
 | .convert ..=>.mk fun tm h=>aq P tm h o
 | .index t x i=>.mk fun tm h=>iI h (nq P t) (ev tm x) (ev tm i) (aq P tm h o)
 | _=>ka "operation"
def RE (P:Program) (tm:PT AV) (h:Hp) (o:Oper):ae:=(au P o).run tm h
structure ab where
 tm:PT AV
 nt:Nat
 dfr:List Nat
def ab.put (a:ab) (d:Tmp) (v:AV):ab:=⟨a.tm.set d v,a.nt,a.dfr⟩
structure Rec where
 code:Option Nat→Code→ab→Hp→R (aA×ab×Hp)
 call:FuncId→List AV→Hp→R (AV×Hp)
def gOf (ops:List Oper):Option (Nat×Bool)→Option (Option Tmp×Bool)
 | none=>none
 | some (j,w)=>
  match ops[j]? with
  | none=>some (none,w)
  | some o=>some (o.dst,w)
def bz (tm:PT AV) (g:Option (Option Tmp×Bool)) (yes no:R (ab×Hp)):R (ab×Hp):=
 az g yes fun p=>az p.1 no fun t=>az (tm.get t) no fun v=>
  AV.rec (motive:=fun _=>R (ab×Hp)) (fun c=>acE c (fun b=>ifE b (ifE p.2 yes no) (ifE p.2 no yes)) (fun _ _=>no) (fun _=>.bad "guard")) (fun _=>no) (fun _=>no) (.bad "guard") v
structure OF where
 g:Option (Option Tmp×Bool)
 dst:Option Tmp
 f:SF
 o:Oper
def gh (P:Program) (ops:List Oper) (l:List Oper):List OF:=
 List.rec (motive:=fun _=>List OF) [] (fun o _ ih=>⟨gOf ops o.guard,o.dst,au P o,o⟩::ih) l
def po (P:Program) (ops:Array Oper):List OF:=gh P ops.toList ops.toList
def setArgs (l:List AV):Nat→PT AV→PT AV:=
 List.rec (motive:=fun _=>Nat→PT AV→PT AV) (fun _ t=>t) (fun v _ ih k t=>ih (Nat.add k 1) (t.set k v)) l
def fe:List Tmp→List AV→PT AV→PT AV
 | p::ps,v::vs,t=>fe ps vs (t.set p v)
 | _,_,t=>t
def ot {α:Type} (l:List α):Nat:=l.length
def iR (id:Nat) (x:aA×ab×Hp):R (AV×Hp):=
 match x.2.1.dfr,x.2.2.get id with
 | [],some (.oth (.loop _ _ tm nt ps as bo d))=>
  match x.1 with
  | .normal=>.ok [(.one (.b true),x.2.2.mod id (.oth (.loop .ready none tm nt ps as bo d)))]
  | .ret=>.ok [(.one (.b false),x.2.2.mod id (.oth (.loop .done (some .ret) tm nt ps as bo d)))]
  | .exit k=>.ok [(.one (.b false),x.2.2.mod id (.oth (.loop .done (some (.exit k)) tm nt ps as bo d)))]
 | _,_=>.bad "round - its end"
def eR (rec:Rec) (id:Nat) (body:Code) (x:aA×ab×Hp):R (AV×Hp):=
 match x.1,x.2.2.get id with
 | .normal,some (.oth (.loop .ready pe tm nt ps as bo d))=>
  (rec.code (some id) body x.2.1 (x.2.2.mod id (.oth (.loop .busy pe tm nt ps as bo d)))).bind (iR id)
 | _,_=>.bad "round - assignments"
def fR (rec:Rec) (id:Nat) (args:List AV) (h:Hp):R (AV×Hp):=
 match h.get id with
 | some (.oth (.loop .ready _ tm nt params assign body _))=>
  ifE (both (Nat.beq (ot args) (ot params)) (params.all fun p=>Nat.blt p nt))
   ((rec.code (some id) assign ⟨fe params args tm,nt,[]⟩ h).bind (eR rec id body)) (.bad "round - arguments")
 | _=>.bad "round - no loop that is ready"
structure Env where
 P:Program
 gp:FuncId→List AV→Option AV
def mS (E:Env) (rec:Rec) (f:FuncId) (args:List AV) (h:Hp):R (AV×Hp):=
 az (E.gp f args) (rec.call f args h) fun v=>.ok [(v,h)]
def iX (E:Env) (rec:Rec) (h:Hp) (n:ae):R (AV×Hp):=
 ae.rec (motive:=fun _=>R (AV×Hp)) (fun v h'=>.ok [(v,h')]) (fun l=>.ok l) (fun f args=>mS E rec f args h) (fun id args=>fR rec id args h) (fun s=>.bad s) n
def Qy (E:Env) (rec:Rec) (tm:PT AV) (h:Hp) (f:SF):R (AV×Hp):=iX E rec h (f.run tm h)
def fN (a:ab) (dst:Option Tmp) (v:AV) (h:Hp) (k:ab→Hp→R (ab×Hp)):R (ab×Hp):=
 az dst (k a h) fun d=>ifE (Nat.blt d a.nt) (k (a.put d v) h) (.bad "slot")
def lQ (E:Env) (rec:Rec) (a:ab) (dst:Option Tmp) (h:Hp) (k:ab→Hp→R (ab×Hp)) (n:ae):R (ab×Hp):=
 ae.rec (motive:=fun _=>R (ab×Hp)) (fun v h'=>fN a dst v h' k) (fun l=>cI (fun x=>fN a dst x.1 x.2 k) l) (fun f args=>(mS E rec f args h).bind fun x=>fN a dst x.1 x.2 k)
  (fun id args=>(fR rec id args h).bind fun x=>fN a dst x.1 x.2 k) (fun s=>.bad s) n
def eo (E:Env) (rec:Rec) (l:List OF):ab→Hp→R (ab×Hp):=
 List.rec (motive:=fun _=>ab→Hp→R (ab×Hp)) (fun a h=>.ok [(a,h)])
  (fun o _ ih a h=>bz a.tm o.g (lQ E rec a o.dst h ih (o.f.run a.tm h)) (fN a o.dst aH h ih)) l
def fB (e:Edge):Bool:=match e.ground with|.textOnly _=>false|.gcOnly _=>false|_=>true
def ja (acc:List Nat) (j:Nat):List Edge→Nat
 | []=>0
 | e::es=>bif fB e&&Nat.blt e.on j then Nat.lor (Nat.lor (Nat.shiftLeft 1 e.on) (acc.getD e.on 0)) (ja acc j es) else ja acc j es
def ez:List Nat→Nat→List Oper→List Nat
 | acc,_,[]=>acc
 | acc,j,o::os=>ez (acc++[ja acc j o.after.toList]) (Nat.add j 1) os
def Xj:Operand→Option Nat
 | .tmp t=>some t
 | _=>none
def yL (ops:Array Oper):Option (Nat×Bool)→List Nat
 | none=>[]
 | some (j,_)=>
  match ops[j]? with
  | none=>[]
  | some oj=>
   match oj.dst with
   | some d=>[d]
   | none=>[]
def slotsOf (ops:Array Oper) (o:Oper):List Nat:=o.op.operands.toList.filterMap Xj++yL ops o.guard
def EY (l:List Nat) (i:Nat):Bool:=
 match l with
 | []=>false
 | x::l=>bif Nat.beq x i then true else EY l i
def xZ (ops:Array Oper) (x y:Oper):Bool:=
 (match x.dst with|some d=>EY (slotsOf ops y) d||(match y.dst with|some d'=>Nat.beq d d'|none=>false)|none=>false) ||
 (match y.dst with|some d=>EY (slotsOf ops x) d|none=>false)
def mo (ops:Array Oper) (m:Nat) (y:Oper):Nat→List Oper→Bool
 | _,[]=>true
 | i,x::xs=>(Nat.testBit m i||!xZ ops x y)&&mo ops m y (Nat.add i 1) xs
def nN (ops:Array Oper) (before:List Oper):List Oper→List Nat→Bool
 | [],_=>true
 | o::os,m::ms=>mo ops m o 0 before&&nN ops (before++[o]) os ms
 | _::_,[]=>false
def kO:Nat→List Oper→Bool
 | _,[]=>true
 | j,o::os=>(o.after.toList.all fun e=>Nat.blt e.on j||!fB e)&&kO (Nat.add j 1) os
def eG (ops:Array Oper):Bool:=nN ops [] ops.toList (ez [] 0 ops.toList)&&kO 0 ops.toList
structure Did where
 idx:Nat
 F3:PT aN
 c0:Nat
 c1:Nat
 wr:List Nat
def AO.ids:AO→List Nat
 | .ptr id ..=>[id]
 | .sl id ..=>[id]
 | .mp id=>[id]
 | .clo _ cs=>cs.map fun c=>c.1
 | .yl id=>[id]
 | .it id=>[id]
 | _=>[]
def AC.ids:AC→List Nat
 | .o x=>x.ids
 | _=>[]
def AV.ids:AV→List Nat
 | .one c=>c.ids
 | .agg l=>l.flatMap AC.ids
 | .tup l=>l.flatMap fun x=>x.2.flatMap AC.ids
 | .any=>[]
def fl (o:Oper):Bool:=
 match o.op with
 | .call c=>match c.callee with|.value _=>true|_=>false
 | _=>false
def Ot (o:Oper):Bool:=
 match o.op with
 | .load ..=>true
 | .store ..=>true
 | .lookup ..=>true
 | .mapUpdate ..=>true
 | .insert ..=>true
 | .range ..=>true
 | .next ..=>true
 | .entry ..=>true
 | .call _=>true
 | _=>false
def bg (o:Oper):Nat:=bif fl o then 2 else bif Ot o then 1 else 0
def cM (a:Nat):Nat→List Nat
 | 0=>[]
 | n+1=>a::cM (Nat.add a 1) n
def bU (u:Did) (i:Nat):Bool:=EY u.wr i||(Nat.ble u.c0 i&&Nat.blt i u.c1)
def jW (t:PT aN):List Nat→PT aN
 | []=>t
 | i::l=>jW (t.del i) l
def cr (t src:PT aN):List Nat→PT aN
 | []=>t
 | i::l=>cr (PT.put (src.get i) t i) src l
def dF (u:Did):List Nat:=u.wr++cM u.c0 (Nat.sub u.c1 u.c0)
def eN (t:PT aN):List Nat→List Nat
 | []=>[]
 | i::l=>match t.get i with
  | some (.oth (.iter (some m) _ _ _))=>i::m::eN t l
  | _=>i::eN t l
def aK (t:PT aN) (nx:Nat) (tm:PT AV) (o:Oper) (us:List Did):PT aN:=
 match bg o with
 | 0=>.leaf
 | 1=>cr .leaf t ((eN t (o.op.operands.toList.flatMap fun x=>(ev tm x).ids)).filter fun i=>Nat.blt i nx&&!us.any (bU · i))
 | _=>jW t (us.flatMap dF)
def aD (m:Nat) (did:List Did):List Did:=
 List.rec (motive:=fun _=>List Did) [] (fun u _ ih=>ifE (Nat.testBit m u.idx) ih (u::ih)) did
def vK (F3:PT aN) (wr:List Nat):Bool:=List.rec (motive:=fun _=>Bool) true (fun i _ ih=>az (F3.get i) ih fun _=>false) wr
def eM (us:List Did) (wr:List Nat):Bool:=List.rec (motive:=fun _=>Bool) true (fun u _ ih=>both (vK u.F3 wr) ih) us
def dg (sub:PT aN) (n:Nat) (l:List Nat):List Nat:=
 List.rec (motive:=fun _=>List Nat) [] (fun i _ ih=>ifE (Nat.blt i n) (az (sub.get i) ih fun _=>i::ih) ih) l
def cS (k:Nat) (h:Hp) (h':Hp) (us:List Did) (wr:List Nat):PT aN:=
 Nat.rec (motive:=fun _=>PT aN) (cr h.t h'.t (cM h.nx (Nat.sub h'.nx h.nx)))
  (fun k' _=>Nat.rec (motive:=fun _=>PT aN) (cr h.t h'.t (wr++cM h.nx (Nat.sub h'.nx h.nx))) (fun _ _=>cr h'.t h.t (us.flatMap dF)) k') k
def note (k j:Nat) (sub:PT aN) (h h':Hp) (did:List Did) (wr:List Nat):List Did:=
 ifE (both (Nat.beq k 0) (Nat.beq h.nx h'.nx)) did (⟨j,sub,h.nx,h'.nx,wr⟩::did)
def Vz (k j:Nat) (a:ab) (dst:Option Tmp) (h:Hp) (sub:PT aN) (us did:List Did) (K:List Did→ab→Hp→R (ab×Hp)) (x:AV×Hp) (wr:List Nat):R (ab×Hp):=
 ifE (eM us wr)
  (fN a dst x.1 ⟨cS k h x.2 us wr,x.2.nx,wr++h.log⟩ (K (note k j sub h x.2 did wr)))
  (.bad "draw - two operations that may change places touch one object")
def wN (k j:Nat) (a:ab) (dst:Option Tmp) (h:Hp) (sub:PT aN) (us did:List Did) (K:List Did→ab→Hp→R (ab×Hp)) (x:R (AV×Hp)):R (ab×Hp):=
 R.rec (motive:=fun _=>R (ab×Hp))
  (fun l=>List.rec (motive:=fun _=>R (ab×Hp)) (.bad "draw - no way")
   (fun x l' _=>List.rec (motive:=fun _=>R (ab×Hp)) (Vz k j a dst h sub us did K x (dg sub h.nx x.2.log))
    (fun _ _ _=>.bad "draw - several ways") l') l)
  (fun s=>.bad s) x
def cZ (E:Env) (rec:Rec) (l:List OF):Nat→List Nat→List Did→ab→Hp→R (ab×Hp):=
 List.rec (motive:=fun _=>Nat→List Nat→List Did→ab→Hp→R (ab×Hp)) (fun _ _ _ a h=>.ok [(a,h)])
  (fun o _ ih j ms did a h=>
   List.rec (motive:=fun _=>R (ab×Hp)) (.bad "draw - masks")
    (fun m ms' _=>
     bz a.tm o.g
      (wN (bg o.o) j a o.dst h (aK h.t h.nx a.tm o.o (aD m did)) (aD m did) did (ih (Nat.add j 1) ms')
       (Qy E rec a.tm ⟨aK h.t h.nx a.tm o.o (aD m did),h.nx,[]⟩ o.f))
      (fN a o.dst aH h (ih (Nat.add j 1) ms' did))) ms) l
inductive CF where
 | mk (f:Rec→Option Nat→ab→Hp→R (aA×ab×Hp))
def CF.run (c:CF):Rec→Option Nat→ab→Hp→R (aA×ab×Hp):=CF.rec (motive:=fun _=>Rec→Option Nat→ab→Hp→R (aA×ab×Hp)) (fun f=>f) c
def exE {β:Type} (e:aA) (n:β) (x:Nat→β) (r:β):β:=aA.rec (motive:=fun _=>β) n x r e
def ph (f:CF) (rec:Rec) (r:Option Nat) (x:aA×ab×Hp):R (aA×ab×Hp):=exE x.1 (f.run rec r x.2.1 x.2.2) (fun _=>.ok [x]) (.ok [x])
def mj (id:Nat) (x:aA×ab×Hp):R (aA×ab×Hp):=exE x.1 (.ok [x]) (fun k=>ifE (Nat.beq k id) (.ok [(.normal,x.2)]) (.ok [x])) (.ok [x])
def vt (rec:Rec) (r:Option Nat) (c:Code) (x:aA×ab×Hp):R (aA×ab×Hp):=exE x.1 (rec.code r (.loop c) x.2.1 x.2.2) (fun _=>.ok [x]) (.ok [x])
def eW (x:ab×Hp):R (aA×ab×Hp):=.ok [(.normal,x)]
def kS (r:Option Nat) (a:ab) (h:Hp):Option (Nat×Hp×ab):=
 match r with
 | none=>some (h.nx,h.new (.oth (.dfr true)),⟨a.tm,a.nt,h.nx::a.dfr⟩)
 | some l=>
  match h.get l with
  | some (.oth (.loop _ _ _ _ _ _ _ d))=>some (d,h,a)
  | _=>none
def eP (l:Nat) (a1:ab) (x:AV×Hp):R (aA×ab×Hp):=
 match x.2.get l with
 | some (.oth (.loop st pe tm nt ps as bo d))=>
  match st with
  | .busy=>.bad "rangeFunc - busy"
  | _=>
   match pe with
   | none=>.ok [(.normal,a1,x.2.mod l (.oth (.loop .exhausted pe tm nt ps as bo d)))]
   | some .ret=>.ok [(.ret,a1,x.2.mod l (.oth (.loop .exhausted pe tm nt ps as bo d)))]
   | some (.exit k)=>.ok [(.exit k,a1,x.2.mod l (.oth (.loop .exhausted pe tm nt ps as bo d)))]
   | some _=>.bad "rangeFunc - jump"
 | _=>.bad "rangeFunc - no record"
def gP (E:Env) (rec:Rec) (r:Option Nat) (f:OpF) (params:List Tmp) (assign body:Code) (a:ab) (h:Hp):R (aA×ab×Hp):=
 match kS r a h with
 | none=>.bad "rangeFunc - no loop around"
 | some (d,h1,a1)=>
  match f.ev a.tm with
  | .one (.o (.clo g caps))=>
   ifE (ak E.P g) ((rec.call g (.one (.o (.yl h1.nx))::fb caps) (h1.new (.oth (.loop .ready none a.tm a.nt params assign body d)))).bind (eP h1.nx a1)) (.bad "rangeFunc - no body")
  | _=>.bad "rangeFunc - no function"
def codeF (E:Env) (c:Code):CF:=
 Code.rec (motive:=fun _=>CF)
  (.mk fun _ _ a h=>.ok [(.normal,a,h)])
  (fun _ ops draw=>Bool.rec (motive:=fun _=>CF) (.mk fun rec _ a h=>(eo E rec (po E.P ops) a h).bind eW)
    (ifE (eG ops) (.mk fun rec _ a h=>(cZ E rec (po E.P ops) 0 (ez [] 0 ops.toList) [] a h).bind eW) (.mk fun _ _ _ _=>.bad "draw - slots")) draw)
  (fun _ _ fx fy=>.mk fun rec r a h=>(fx.run rec r a h).bind (ph fy rec r))
  (fun c _ _ fx fy=>.mk fun rec r a h=>dS ((opF c).ev a.tm) (.bad "cond") fun b=>ifE b (fx.run rec r a h) (fy.run rec r a h))
  (fun id _ fx=>.mk fun rec r a h=>(fx.run rec r a h).bind (mj id))
  (fun c fx=>.mk fun rec r a h=>(fx.run rec r a h).bind (vt rec r c))
  (fun f params assign body _ _=>.mk fun rec r a h=>gP E rec r (opF f) params.toList assign body a h)
  (fun id=>.mk fun _ _ a h=>.ok [(.exit id,a,h)])
  (fun _ fx=>fx)
  (fun _=>.mk fun _ _ a h=>.ok [(.normal,a,h)])
  (fun _=>.mk fun _ _ _ _=>.bad "goto")
  (.mk fun _ _ a h=>.ok [(.ret,a,h)])
  (fun _=>.mk fun _ _ _ _=>.bad "refuse") c
def Xu (E:Env) (rec:Rec) (r:Option Nat) (c:Code) (a:ab) (h:Hp):R (aA×ab×Hp):=(codeF E c).run rec r a h
def closeAll (h:Hp):List Nat→Option Hp
 | []=>some h
 | d::ds=>match h.get d with
  | some (.oth (.dfr true))=>closeAll (h.mod d (.oth (.dfr false))) ds
  | _=>none
def fO (v:AV):Option (Bool×List AC):=avE v (fun c=>some (false,[c])) (fun l=>some (true,l)) (fun _=>none)
def iY (P:Program) (x:ResultVar):PT AV→Hp→Option (Bool×List AC):=
 match x with
 | .tmp t=>fun tm _=>az (tm.get t) none fO
 | .cell a t=>
  match loadT P t with
  | some p=>fun tm h=>az (tm.get a) none fun v=>ae.rec (motive:=fun _=>Option (Bool×List AC)) (fun v _=>fO v) (fun _=>none) (fun _ _=>none) (fun _ _=>none) (fun _=>none) (cd h p.1 p.2 v)
  | none=>fun _ _=>none
def bk (P:Program) (l:List ResultVar) (tm:PT AV) (h:Hp):Option (List (Bool×List AC)):=
 List.rec (motive:=fun _=>Option (List (Bool×List AC))) (some []) (fun r _ ih=>az (iY P r tm h) none fun x=>az ih none fun l=>some (x::l)) l
def du:List (Bool×List AC)→AV
 | [(true,l)]=>.agg l
 | [(false,[c])]=>.one c
 | l=>.tup l
inductive FF where
 | mk (c:CF) (nt:Nat) (res:List ResultVar)
 | no
def OC (E:Env) (f:FuncId):FF:=
 match E.P.funcs[f]? with
 | some fn=>
  match fn.body with
  | some c=>.mk (codeF E c) fn.ntmps fn.results.toList
  | none=>.no
 | none=>.no
def an (E:Env) (res:List ResultVar) (x:aA×ab×Hp):R (AV×Hp):=
 exE x.1
  (az (closeAll x.2.2 x.2.1.dfr) (.bad "marks") fun h2=>az (bk E.P res x.2.1.tm h2) (.bad "results") fun l=>.ok [(du l,h2)])
  (fun _=>.bad "exit")
  (az (closeAll x.2.2 x.2.1.dfr) (.bad "marks") fun h2=>az (bk E.P res x.2.1.tm h2) (.bad "results") fun l=>.ok [(du l,h2)])
def kJ:List (AV×Hp)→Nat
 | []=>0
 | x::l=>Nat.max x.2.nx (kJ l)
def YK (o:aN):aN:=aN.casesOn (motive:=fun _=>aN) o (fun c e _ gen=>.arr c e gen gen) (fun x=>.oth x) (fun c=>.ro c)
def iB (n id:Nat) (o:Option aN):Option aN:=if id<n then o else o.map YK
def sd (n:Nat) (t src:PT aN):List Nat→PT aN
 | []=>t
 | i::l=>sd n (PT.put (iB n i (src.get i)) t i) src l
open Classical in
def qK (n:Nat) (l:List (AV×Hp)) (t:PT aN) (id:Nat):Bool:=decide (∀ x∈l,iB n id (x.2.t.get id)=iB n id (t.get id))
def vB (h h':Hp):List Nat:=h'.log.take (h'.log.length - h.log.length)
def zd (h:Hp) (l:List (AV×Hp)) (t:PT aN):Hp:=
 ⟨sd h.nx .leaf t ((cM 0 (kJ l)).filter (qK h.nx l t)),kJ l,l.flatMap (fun x=>vB h x.2)++h.log⟩
open Classical in
def QO (h:Hp) (l:List (AV×Hp)) (x:AV×Hp):List (AV×Hp):=
 if ∀ z∈l,z.1=x.1∧∀ id,id<h.nx→z.2.t.get id=x.2.t.get id then [(x.1,zd h l x.2.t)] else l
def lS (h:Hp) (l:List (AV×Hp)):List (AV×Hp):=
 List.rec (motive:=fun _=>List (AV×Hp)) [] (fun x l' _=>List.rec (motive:=fun _=>List (AV×Hp)) [x] (fun y l'' _=>QO h (x::y::l'') x) l') l
def oH (h:Hp) (r:R (AV×Hp)):R (AV×Hp):=R.rec (motive:=fun _=>R (AV×Hp)) (fun l=>.ok (lS h l)) (fun s=>.bad s) r
def ib (E:Env) (rec:Rec) (f:FuncId) (args:List AV) (h:Hp):R (AV×Hp):=
 FF.rec (motive:=fun _=>R (AV×Hp))
  (fun c nt res=>ifE (both (Nat.ble (ot args) nt) (Nat.ble nt 1048576)) (oH h ((c.run rec none ⟨setArgs args 0 .leaf,nt,[]⟩ h).bind (an E res))) (.bad "too many arguments"))
  (.bad "no function") (OC E f)
def eval (E:Env) (n:Nat):Rec:=
 Nat.rec (motive:=fun _=>Rec) ⟨fun _ _ _ _=>.bad "fuel", fun _ _ _=>.bad "fuel"⟩
  (fun _ ih=>⟨fun r c a h=>Xu E ih r c a h,fun f args h=>ib E ih f args h⟩) n
theorem pq {n:Nat} (h:¬n=0):Nat.beq n 0=false:=by
 cases n with
 | zero=>exact absurd rfl h
 | succ n=>rfl
section
variable {α:Type}
theorem PT.mf (n:Nat):(PT.leaf:PT α).get n=none:=rfl
theorem PT.fk (l r:PT α) (v:Option α):(PT.node l v r).get 0=v:=rfl
theorem PT.cJ (l r:PT α) (v:Option α) (k:Nat):(PT.node l v r).get (k+1)=if k % 2=0 then l.get (k / 2) else r.get (k / 2):=by
 show Bool.rec (motive:=fun _=>Option α) (r.get (Nat.div k 2)) (l.get (Nat.div k 2)) (Nat.beq (Nat.mod k 2) 0)=_;have e1:Nat.mod k 2=k % 2:=rfl;have e2:Nat.div k 2=k / 2:=rfl;rw[e1,e2];by_cases h:k % 2=0
 ·rw[zB0 h,h];rfl
 rw[zB1 h];have:Nat.beq (k % 2) 0=false:=pq h;rw[this]
theorem PT.mk_zero (a:Option α) (n:Nat):PT.mk a 0 n=.node .leaf a .leaf:=rfl
theorem PT.JQ (a:Option α) (f:Nat):PT.mk a f 0=.node .leaf a .leaf:=by cases f <;> rfl
theorem PT.VL (a:Option α) (f k:Nat):PT.mk a (f+1) (k+1)=if k % 2=0 then .node (PT.mk a f (k / 2)) none .leaf else .node .leaf none (PT.mk a f (k / 2)):=by
 show Bool.rec (motive:=fun _=>PT α) (.node .leaf none (PT.mk a f (Nat.div k 2))) (.node (PT.mk a f (Nat.div k 2)) none .leaf) (Nat.beq (Nat.mod k 2) 0)=_;have e1:Nat.mod k 2=k % 2:=rfl;have e2:Nat.div k 2=k / 2:=rfl;rw[e1,e2];by_cases h:k % 2=0
 ·rw[zB0 h,h];rfl
 rw[zB1 h];have:Nat.beq (k % 2) 0=false:=pq h;rw[this]
theorem PT.XB (a:Option α):∀ (f n m:Nat),n<2 ^ f→(PT.mk a f n).get m=if m=n then a else none:=by
 intro f;induction f with
 | zero=>
  intro n m h;have:n=0:=by simpa using h
  subst this;cases m with
  | zero=>simp[PT.mk_zero,PT.fk]
  | succ k=>simp[PT.mk_zero,PT.cJ,PT.mf]
 | succ f ih=>
  intro n m h;cases n with
  | zero=>
   rw[PT.JQ];cases m with
   | zero=>simp[PT.fk]
   | succ k=>simp[PT.cJ,PT.mf]
  | succ k=>
   have hk:k / 2<2 ^ f:=by rw[Nat.pow_succ] at h;omega
   rw[PT.VL];cases m with
   | zero=>split <;> simp[PT.fk]
   | succ j=>
    by_cases hp:k % 2=0
    ·rw[zB0 hp,PT.cJ];by_cases hj:j % 2=0
     ·rw[zB0 hj,ih _ _ hk];by_cases e:j=k
      ·subst e;simp
      rw[zB1 (by omega),zB1 (by omega)]
     rw[zB1 hj,PT.mf,zB1 (by omega)]
    rw[zB1 hp,PT.cJ];by_cases hj:j % 2=0
    ·rw[zB0 hj,PT.mf,zB1 (by omega)]
    rw[zB1 hj,ih _ _ hk];by_cases e:j=k
    ·subst e;simp
    rw[zB1 (by omega),zB1 (by omega)]
theorem PT.Ql (a:Option α) (n:Nat):PT.put a .leaf n=PT.mk a n n:=rfl
theorem PT.xE (a:Option α) (l r:PT α) (v:Option α):PT.put a (.node l v r) 0=.node l a r:=rfl
theorem PT.xS (a:Option α) (l r:PT α) (v:Option α) (k:Nat):PT.put a (.node l v r) (k+1)=if k % 2=0 then .node (PT.put a l (k / 2)) v r else .node l v (PT.put a r (k / 2)):=by
 show Bool.rec (motive:=fun _=>PT α) (.node l v (PT.put a r (Nat.div k 2))) (.node (PT.put a l (Nat.div k 2)) v r) (Nat.beq (Nat.mod k 2) 0)=_;have e1:Nat.mod k 2=k % 2:=rfl;have e2:Nat.div k 2=k / 2:=rfl;rw[e1,e2];by_cases h:k % 2=0
 ·rw[zB0 h,h];rfl
 rw[zB1 h];have:Nat.beq (k % 2) 0=false:=pq h;rw[this]
theorem PT.qs (a:Option α) (t:PT α):∀ (n m:Nat),(PT.put a t n).get m=if m=n then a else t.get m:=by
 induction t with
 | leaf=>intro n m;rw[PT.Ql,PT.XB a n n m Nat.lt_two_pow_self,PT.mf]
 | node l v r ihl ihr=>
  intro n m;cases n with
  | zero=>
   rw[PT.xE];cases m with
   | zero=>simp[PT.fk]
   | succ k=>simp[PT.cJ]
  | succ k=>
   rw[PT.xS];cases m with
   | zero=>split <;> simp[PT.fk]
   | succ j=>
    by_cases hp:k % 2=0
    ·rw[zB0 hp,PT.cJ,PT.cJ];by_cases hj:j % 2=0
     ·rw[zB0 hj,zB0 hj,ihl];by_cases e:j=k
      ·subst e;simp
      rw[zB1 (by omega),zB1 (by omega)]
     rw[zB1 hj,zB1 hj,zB1 (by omega)]
    rw[zB1 hp,PT.cJ,PT.cJ];by_cases hj:j % 2=0
    ·rw[zB0 hj,zB0 hj,zB1 (by omega)]
    rw[zB1 hj,zB1 hj,ihr];by_cases e:j=k
    ·subst e;simp
    rw[zB1 (by omega),zB1 (by omega)]
theorem PT.uj (a:Option α) (t:PT α) (n m:Nat) (_:n<n+1):(PT.put a t n).get m=if m=n then a else t.get m:=PT.qs a t n m
theorem PT.nG (t:PT α) (n m:Nat) (a:α) (h:n<n+1):(t.set n a).get m=if m=n then some a else t.get m:=PT.uj _ _ _ _ h
theorem PT.dA (t:PT α) (n m:Nat) (a:α):(t.set n a).get m=if m=n then some a else t.get m:=PT.qs _ _ _ _
end
theorem bT {β:Type} (b:Bool) (x y:β):ifE b x y=if b=true then x else y:=by cases b <;> rfl
theorem Pf {α β:Type} (e:β) (f:α→β):az none e f=e:=rfl
theorem yT {α β:Type} (a:α) (e:β) (f:α→β):az (some a) e f=f a:=rfl
theorem cK (a b:Bool):both a b=(a&&b):=by cases a <;> cases b <;> rfl
theorem aX (l:List AC):bh l=l.length:=by
 induction l with
 | nil=>rfl
 | cons a l ih=>show Nat.add (bh l) 1=_;rw[ih];rfl
theorem uL (n:Nat):∀ l:List AC,GK n l=l.drop n:=by
 induction n with
 | zero=>intro l;rfl
 | succ n ih=>
  intro l;cases l with
  | nil=>rfl
  | cons a l=>show GK n l=_;rw[ih];rfl
theorem Ec (n:Nat):∀ l:List AC,Np n l=l.take n:=by
 induction n with
 | zero=>intro l;rfl
 | succ n ih=>
  intro l;cases l with
  | nil=>rfl
  | cons a l=>show a::Np n l=_;rw[ih];rfl
theorem ga (l m:List AC):lV l m=l++m:=by
 induction l with
 | nil=>rfl
 | cons a l ih=>show a::lV l m=_;rw[ih];rfl
theorem jT (l:List AC) (off n:Nat):cut l off n=(l.drop off).take n:=by rw[cut,Ec,uL]
theorem fF (l:List AC) (off:Nat) (c:List AC):fi l off c=l.take off++(c++l.drop (off+c.length)):=by
 rw[fi,Ec,uL,ga,ga,aX];rfl
theorem Dp (l:List UInt8):JM l=l.length:=by
 induction l with
 | nil=>rfl
 | cons a l ih=>show Nat.add (JM l) 1=_;rw[ih];rfl
theorem Ll (n:Nat):∀ l:List UInt8,VJ n l=l[n]?:=by
 induction n with
 | zero=>intro l;cases l <;> rfl
 | succ n ih=>intro l;cases l with|nil=>rfl|cons a l=>show VJ n l=_;rw[ih];rfl
theorem Vm (n:Nat) (l:List AC):UD n l=l[n]?:=by
 unfold UD;rw[uL];have:l[n]?=(l.drop n)[0]?:=by simp
 rw[this];cases l.drop n <;> rfl
theorem Ow {α β:Type} (f:α→R β):∀ (l:List α) (outs:List β),cI f l=.ok outs→∀ x∈l,∃ o,f x=.ok o∧∀ y∈o,y∈outs:=by
 intro l;induction l with
 | nil=>intro _ _ x hx;cases hx
 | cons a l ih=>
  intro outs h x hx;cases l with
  | nil=>
   have h':f a=.ok outs:=h;have:x=a:=by simpa using hx
   subst this;exact ⟨outs,h',fun _ hy=>hy⟩
  | cons b l=>
   have h':wK (f a) (cI f (b::l))=.ok outs:=h;cases ha:f a with
   | bad s=>rw[ha] at h';cases h'
   | ok oa=>
    cases hb:cI f (b::l) with
    | bad s=>rw[ha,hb] at h';cases h'
    | ok ob=>
     rw[ha,hb] at h';have he:oa++ob=outs:=by injection h'
     subst he;rcases List.mem_cons.1 hx with rfl|hx
     ·exact ⟨oa,ha,fun y hy=>List.mem_append_left _ hy⟩
     obtain ⟨o,ho,G1⟩:=ih ob hb x hx;exact ⟨o,ho,fun y hy=>List.mem_append_right _ (G1 y hy)⟩
theorem R.eC {α β:Type} {r:R α} {f:α→R β} {outs:List β} (h:r.bind f=.ok outs):∃ l,r=.ok l∧∀ x∈l,∃ o,f x=.ok o∧∀ y∈o,y∈outs:=by
 cases r with
 | bad s=>cases h
 | ok l=>exact ⟨l,rfl,Ow f l outs h⟩
section
variable {P:Program} {H:Hp} {tm tm':PT AV}
theorem rY:∀ {l:List Operand},(∀ x∈l,ev tm x=ev tm' x)→evs l tm=evs l tm'
 | [],_=>rfl
 | x::l,h=>by
  show ev tm x::evs l tm=ev tm' x::evs l tm';rw[h x (List.mem_cons_self ..),rY fun y hy=>h y (List.mem_cons_of_mem _ hy)]
theorem mb {place:Nat→Option (Nat×Nat)}:∀ {l:List (Nat×Operand)} {ps:List (Nat×Nat×OpF)},cT place l=some ps→(∀ x∈l.map (·.2),ev tm x=ev tm' x)→∀ cells,fj tm ps cells=fj tm' ps cells
 | [],ps,h,_,cells=>by cases h;rfl
 | (i,x)::l,ps,h,hx,cells=>by
  unfold cT at h;split at h
  ·rename_i p r hp hr
   cases h
   have K0:(opF x).ev tm=(opF x).ev tm':=hx x (by simp);show ifE (both (Nat.beq (bh ((opF x).ev tm).cells) p.2) (both (Nat.ble (Nat.add p.1 p.2) (bh cells)) ((opF x).ev tm).bD)) (fj tm r (fi cells p.1 ((opF x).ev tm).cells)) none =
    ifE (both (Nat.beq (bh ((opF x).ev tm').cells) p.2) (both (Nat.ble (Nat.add p.1 p.2) (bh cells)) ((opF x).ev tm').bD)) (fj tm' r (fi cells p.1 ((opF x).ev tm').cells)) none
   rw[K0,mb hr fun y hy=>hx y (by simp only[List.map_cons];exact List.mem_cons_of_mem _ hy)]
  cases h
theorem Ik {o:Oper} (hs:∀ cs b,o.op≠.select cs b) (h:∀ x∈o.op.operands.toList,ev tm x=ev tm' x):aq P tm H o=aq P tm' H o:=by
 unfold aq;have h1:o.op.operands.toList.all (fun x=>(ev tm x).val?.isSome)=o.op.operands.toList.all (fun x=>(ev tm' x).val?.isSome):=by
  rw[Bool.eq_iff_iff,List.all_eq_true,List.all_eq_true];exact ⟨fun k x hx=>by rw[←h x hx];exact k x hx,fun k x hx=>by rw[h x hx];exact k x hx⟩
 have h2:execOp (fun x=>aZ (ev tm x)) o=execOp (fun x=>aZ (ev tm' x)) o:=
  execOp_congr o hs fun x hx=>by rw[h x (by simpa using hx)]
 rw[h1,h2]
theorem bL {α:Type} {o:Option α} {s:String} {f:α→SF} (h:∀ a,o=some a→(f a).run tm H=(f a).run tm' H):(ndF o s f).run tm H=(ndF o s f).run tm' H:=by
 cases o with
 | none=>rfl
 | some a=>exact h a rfl
theorem nT {b:Bool} {f g:SF} (h:f.run tm H=f.run tm' H) (hg:g.run tm H=g.run tm' H):(ifE b f g).run tm H=(ifE b f g).run tm' H:=by
 cases b with
 | false=>exact hg
 | true=>exact h
theorem mk_congr {f:PT AV→Hp→ae} (h:f tm H=f tm' H):(SF.mk f).run tm H=(SF.mk f).run tm' H:=h
theorem xC {o:Oper} {c:Call} {b:Builtin} (ho:o.op=.call c) (h:∀ x∈c.args.toList,ev tm x=ev tm' x) (hp:aq P tm H o=aq P tm' H o):
  (jh P o b c.args.toList c.argTypes.toList).run tm H=(jh P o b c.args.toList c.argTypes.toList).run tm' H:=by
 unfold jh;split
 ·rename_i s x t t2 h1 h2
  have hs:=h s (by rw[h1];simp);have hx:=h x (by rw[h1];simp);exact nT (mk_congr (by rw[hs,hx])) rfl
 ·rename_i s x t t2 h1 h2
  have hs:=h s (by rw[h1];simp);have hx:=h x (by rw[h1];simp);exact nT (mk_congr (by rw[hs,hx])) rfl
 ·rename_i x t h1 h2
  have hx:(opF x).ev tm=(opF x).ev tm':=h x (by rw[h1];simp);exact bL fun k _=>mk_congr (by rw[hx])
 ·exact mk_congr hp
 ·exact mk_congr hp
 rfl
theorem Kj (o:Oper) (h:∀ x∈o.op.operands.toList,ev tm x=ev tm' x):(au P o).run tm H=(au P o).run tm' H:=by
 have hp:(∀ cs b,o.op≠.select cs b)→aq P tm H o=aq P tm' H o:=fun hs=>Ik hs h;obtain ⟨dst,op,type,pos,after,guard⟩:=o;cases op with
 | move x=>
  have hx:(opF x).ev tm=(opF x).ev tm':=h x (by simp[Op.operands]);cases x with
  | tmp t=>exact congrArg (fun v=>ae.val v H) hx
  | _=>rfl
 | assign x=>
  have hx:(opF x).ev tm=(opF x).ev tm':=h x (by simp[Op.operands]);cases x with
  | tmp t=>exact congrArg (fun v=>ae.val v H) hx
  | _=>rfl
 | pick c x y=>
  have hc:(opF c).ev tm=(opF c).ev tm':=h c (by simp[Op.operands]);have hx:(opF x).ev tm=(opF x).ev tm':=h x (by simp[Op.operands]);have hy:(opF y).ev tm=(opF y).ev tm':=h y (by simp[Op.operands]);exact mk_congr (f:=fun tm h=>dS ((opF c).ev tm) (.bad "pick") fun b=>.val (ifE b ((opF x).ev tm) ((opF y).ev tm)) h) (by simp only[hc,hx,hy])
 | alloc e=>exact bL fun _ _=>rfl
 | box e x=>
  have hx:(opF x).ev tm=(opF x).ev tm':=h x (by simp[Op.operands]);exact mk_congr (f:=fun tm h=>aF ((opF x).ev tm).bD "box - a tuple" (im h ((opF x).ev tm).cells e)) (by simp only[hx])
 | build t parts=>
  refine bL fun z _=>bL fun pl _=>bL fun ps Z8=>mk_congr (f:=fun tm h=>nw h (ofValue z).cells tm ps) ?_;unfold nw;rw[mb Z8 (tm:=tm) (tm':=tm') fun x hx=>h x (by simpa [Op.operands] using hx)]
 | buildSlice t len parts=>
  refine bL fun es _=>bL fun z _=>nT (bL fun ps Z8=>mk_congr (f:=fun tm h=>iK h (kh (ofValue z).cells len) tm es.1 es.2 len ps) ?_) rfl;unfold iK;rw[mb Z8 (tm:=tm) (tm':=tm') fun x hx=>h x (by simpa [Op.operands] using hx)]
 | load t x=>
  have hx:(opF x).ev tm=(opF x).ev tm':=h x (by simp[Op.operands]);exact bL fun p _=>mk_congr (by rw[hx])
 | store t x y=>
  have hx:(opF x).ev tm=(opF x).ev tm':=h x (by simp[Op.operands]);have hy:(opF y).ev tm=(opF y).ev tm':=h y (by simp[Op.operands]);exact bL fun p _=>mk_congr (by rw[hx,hy])
 | nilCheck x=>
  have hx:(opF x).ev tm=(opF x).ev tm':=h x (by simp[Op.operands]);exact mk_congr (f:=fun tm h=>gJ h ((opF x).ev tm)) (by rw[hx])
 | binOp op t x y c=>
  have hx:(opF x).ev tm=(opF x).ev tm':=h x (by simp[Op.operands]);have hy:(opF y).ev tm=(opF y).ev tm':=h y (by simp[Op.operands]);exact mk_congr (f:=fun tm h=>bt h (aS P t) op (eJ op) ((opF x).ev tm) ((opF y).ev tm) (aq P tm h _)) (by rw[hx,hy,hp (by intro cs b hh;cases hh)])
 | unOp op t x=>
  have hx:(opF x).ev tm=(opF x).ev tm':=h x (by simp[Op.operands]);exact mk_congr (f:=fun tm h=>Kh h op ((opF x).ev tm) (aq P tm h _)) (by rw[hx,hp (by intro cs b hh;cases hh)])
 | convert s d x=>exact hp (by intro cs b hh;cases hh)
 | fieldAddr s x f=>
  have hx:(opF x).ev tm=(opF x).ev tm':=h x (by simp[Op.operands]);exact bL fun p _=>mk_congr (by rw[hx])
 | field t x f=>
  have hx:(opF x).ev tm=(opF x).ev tm':=h x (by simp[Op.operands]);exact bL fun p _=>bL fun q _=>mk_congr (by rw[hx])
 | indexAddr t x i=>
  have hx:(opF x).ev tm=(opF x).ev tm':=h x (by simp[Op.operands]);have hi:(opF i).ev tm=(opF i).ev tm':=h i (by simp[Op.operands]);exact bL fun p _=>mk_congr (by rw[hx,hi])
 | index t x i=>
  have hx:ev tm x=ev tm' x:=h x (by simp[Op.operands]);have hi:ev tm i=ev tm' i:=h i (by simp[Op.operands]);exact mk_congr (f:=fun tm h=>iI h (nq P t) (ev tm x) (ev tm i) (aq P tm h _)) (by rw[hx,hi,hp (by intro cs b hh;cases hh)])
 | slice t x lo hi mx=>
  cases mx with
  | some _=>rfl
  | none=>
   have hx:(opF x).ev tm=(opF x).ev tm':=h x (by simp[Op.operands]);have P2:lo.map (ev tm)=lo.map (ev tm'):=by cases lo with
    | none=>rfl
    | some y=>exact congrArg some (h y (by simp[Op.operands]))
   have hhi:hi.map (ev tm)=hi.map (ev tm'):=by cases hi with
    | none=>rfl
    | some y=>exact congrArg some (h y (by simp[Op.operands]))
   have D2:=hp (by intro cs b hh;cases hh);cases he:ba P t with
   | none=>
    have:au P ⟨dst,.slice t x lo hi none,type,pos,after,guard⟩=.mk fun tm h=>aq P tm h ⟨dst,.slice t x lo hi none,type,pos,after,guard⟩:=by
     simp[au,he]
    rw[this];exact D2
   | some p=>
    have:au P ⟨dst,.slice t x lo hi none,type,pos,after,guard⟩=.mk fun tm h=>dk h p.2 ((opF x).ev tm) (lo.map (ev tm)) (hi.map (ev tm)) (aq P tm h ⟨dst,.slice t x lo hi none,type,pos,after,guard⟩):=by
     simp[au,he]
    rw[this];exact mk_congr (f:=fun tm h=>dk h p.2 ((opF x).ev tm) (lo.map (ev tm)) (hi.map (ev tm)) (aq P tm h _)) (by rw[hx,P2,hhi,D2])
 | extract x i=>
  have hx:ev tm x=ev tm' x:=h x (by simp[Op.operands]);exact mk_congr (f:=fun tm h=>cG h (ev tm x) i) (by rw[hx])
 | makeFunc fn first caps=>
  cases fn with
  | func f=>exact nT (mk_congr (by rw[rY (tm:=tm) (tm':=tm') fun x hx=>h x (by simp only[Op.operands,Array.toList_append];exact List.mem_append_right _ hx)])) rfl
  | _=>rfl
 | makeMap t r=>
  cases r with
  | some _=>rfl
  | none=>rfl
 | makeSlice t l c=>
  have hl:ev tm l=ev tm' l:=h l (by simp[Op.operands]);have hc:ev tm c=ev tm' c:=h c (by simp[Op.operands]);exact mk_congr (f:=fun tm h=>dR P h t (ev tm l) (ev tm c)) (by rw[hl,hc])
 | lookup t x k ok=>
  have hx:ev tm x=ev tm' x:=h x (by simp[Op.operands]);have hk:ev tm k=ev tm' k:=h k (by simp[Op.operands]);exact bL fun p _=>bL fun z _=>mk_congr (by rw[hx,hk])
 | mapUpdate t x k y=>
  have hx:ev tm x=ev tm' x:=h x (by simp[Op.operands]);have hk:ev tm k=ev tm' k:=h k (by simp[Op.operands]);have hy:ev tm y=ev tm' y:=h y (by simp[Op.operands]);exact bL fun p _=>mk_congr (by rw[hx,hk,hy])
 | insert t x k y=>
  have hx:ev tm x=ev tm' x:=h x (by simp[Op.operands]);have hk:ev tm k=ev tm' k:=h k (by simp[Op.operands]);have hy:ev tm y=ev tm' y:=h y (by simp[Op.operands]);exact bL fun p _=>mk_congr (by rw[hx,hk,hy])
 | range t x=>
  have hx:ev tm x=ev tm' x:=h x (by simp[Op.operands]);exact bL fun p _=>mk_congr (by rw[hx])
 | next x b=>
  have hx:ev tm x=ev tm' x:=h x (by simp[Op.operands]);cases b with
  | true=>rfl
  | false=>exact mk_congr (f:=fun tm h=>gz h (ev tm x)) (by rw[hx])
 | entry x=>
  have hx:ev tm x=ev tm' x:=h x (by simp[Op.operands]);exact mk_congr (f:=fun tm h=>gO h (ev tm x)) (by rw[hx])
 | call c=>
  have A0:∀ x∈c.args.toList,ev tm x=ev tm' x:=fun x hx=>h x (by
   have G4:x∈c.args:=by simpa using hx
   simp[Op.operands,Call.operands,G4])
  show (tr P _ c).run tm H=(tr P _ c).run tm' H;unfold tr;split
  ·rename_i f hf
   have hff:(opF f).ev tm=(opF f).ev tm':=h f (by simp[Op.operands,Call.operands,hf]);exact mk_congr (f:=fun tm _=>lD P ((opF f).ev tm) (evs c.args.toList tm)) (by rw[hff,rY A0])
  ·exact xC rfl A0 (hp (by intro cs b hh;cases hh))
  rfl
 | _=>rfl
end
structure Place where
 b:Nat
 o:Nat
 n:Nat
 hi:Nat
abbrev Pl:=Nat→Nat→Option Place
def CRO (β:Pl):AO→Value→Prop
 | .p v,x=>x=v∧v.oneCell'=true
 | .str s,x=>x=.string ⟨s.toArray⟩
 | .nilP,x=>x=.pointer none
 | .nilS,x=>x=.slice none 0 0
 | .nilM,x=>x=.map none
 | .nilF,x=>x=.nilFunc
 | .ptr id g off lim,x=>∃ p,β id g=some p∧off+lim≤p.hi∧x=.pointer (some ⟨p.b,p.o+off,none⟩)
 | .sl id g off len sz,x=>∃ p cap o',β id g=some p∧off+len*sz≤p.hi∧len≤cap∧x=.slice (some o') len cap∧(cap=0∨(o'=⟨p.b,p.o+off,none⟩∧p.o+off+cap*sz≤p.n))
 | .mp id,x=>∃ p,β id 0=some p∧x=.map (some p.b)
 | .clo f caps,x=>∃ cs:List Value,x=.func (.func f) #[] cs.toArray∧cs.length=caps.length ∧
   ∀ (k:Nat) (c:Nat×Nat×Nat×Nat) (v:Value),caps[k]?=some c→cs[k]?=some v→∃ p,β c.1 c.2.1=some p∧c.2.2.1+c.2.2.2≤p.hi∧v=.pointer (some ⟨p.b,p.o+c.2.2.1,none⟩)
 | .yl id,x=>∃ p,β id 0=some p∧x=.func (.yield p.b) #[] #[]
 | .it id,x=>∃ p,β id 0=some p∧x=.pointer (some ⟨p.b,0,none⟩)
def CR (β:Pl):AC→Value→Prop
 | .b x,v=>v=.bool x
 | .i k n,v=>v=.int k n
 | .o x,v=>CRO β x v
def CRs (β:Pl):List AC→List Value→Prop
 | [],[]=>True
 | c::l,v::vs=>CR β c v∧CRs β l vs
 | _,_=>False
def TR (β:Pl):Bool×List AC→Value→Prop
 | (true,l),v=>∃ vs,CRs β l vs∧v=.agg vs.toArray
 | (false,[c]),v=>CR β c v
 | _,_=>False
def TRs (β:Pl):List (Bool×List AC)→List Value→Prop
 | [],[]=>True
 | c::l,v::vs=>TR β c v∧TRs β l vs
 | _,_=>False
def AR (β:Pl):AV→Value→Prop
 | .one c,v=>CR β c v
 | .agg l,v=>∃ vs,CRs β l vs∧v=.agg vs.toArray
 | .tup l,v=>∃ vs,TRs β l vs∧v=.tuple vs.toArray
 | .any,_=>True
def ARs (β:Pl):List AV→List Value→Prop
 | [],[]=>True
 | c::l,v::vs=>AR β c v∧ARs β l vs
 | _,_=>False
def ERs (β:Pl):List bJ→List MapEntry→Prop
 | [],[]=>True
 | e::l,m::ms=>(AR β e.key m.key∧e.key.bD=true∧AR β e.val m.val∧e.val.bD=true∧m.born=e.born)∧ERs β l ms
 | _,_=>False
def TmR (β:Pl) (tm:PT AV) (nt:Nat) (tmps:Array Value):Prop:=
 tmps.size=nt∧nt≤1048576∧∀ t,AR β (az (tm.get t) aH fun v=>v) (tmps.getD t undef)
def dV:aN→Nat→Prop
 | .arr _ _ lo gen,g=>lo≤g∧g≤gen
 | .oth _,g=>g=0
 | .ro _,g=>g=0
def aN.lW:aN→Bool
 | .ro _=>true
 | _=>false
def UI (o:aN) (g:Nat):Prop:=dV o g∧o.lW=false
def gQ (β:Pl) (w:World) (cells:List AC) (e:TypeId) (p:Place):Prop:=
 ∃ c:Array Value,w.heap[p.b]?=some (.cells c e (0,0))∧c.size=p.n∧p.o+p.hi≤p.n∧p.hi≤cells.length ∧
  ∀ k x,k<p.hi→cells[k]?=some x→∃ v,c[p.o+k]?=some v∧CR β x v
def pC (β:Pl) (w:World) (cells:List AC) (p:Place):Prop:=
 ∃ (c:Array Value) (e:TypeId) (f:Nat×Nat),w.heap[p.b]?=some (.cells c e f)∧c.size=p.n∧p.o+p.hi≤p.n∧p.hi≤cells.length ∧
  ∀ k x,k<p.hi→cells[k]?=some x→∃ v,c[p.o+k]?=some v∧CR β x v
theorem gQ.d {β:Pl} {w:World} {cells:List AC} {e:TypeId} {p:Place} (h:gQ β w cells e p):pC β w cells p:=
 let ⟨c,h1,r⟩:=h;⟨c,e,(0,0),h1,r⟩
def Hh (β:Pl) (w:World) (p:Place):Pg→Prop
 | .map es clock=>∃ ms:List MapEntry,w.heap[p.b]?=some (.map ms.toArray clock)∧ERs β es ms
 | .iter m since seen stepped=>
  match m with
  | none=>w.heap[p.b]?=some (.mapIter none since seen.toArray stepped)
  | some i=>∃ q,β i 0=some q∧w.heap[p.b]?=some (.mapIter (some q.b) since seen.toArray stepped)
 | .loop st pe tm nt ps as bo d=>∃ q fn tmps,β d 0=some q∧TmR β tm nt tmps ∧
   w.heap[p.b]?=some (.loop { state:=st,pending:=pe,fn:=fn,tmps:=tmps,params:=ps.toArray,assign:=as,body:=bo,defers:=q.b })
 | .dfr b=>w.heap[p.b]?=some (.deferred (if b=true then some [] else none))
def gj (β:Pl) (w:World) (id:Nat):aN→Prop
 | .arr cells e lo gen=>lo≤gen ∧
   (∀ g,lo≤g→g≤gen→∃ p,β id g=some p∧gQ β w cells e p∧(g=gen→p.hi=cells.length)) ∧
   (∀ g g' p p',lo≤g→g≤g'→g'≤gen→β id g=some p→β id g'=some p'→p.hi≤p'.hi∧(p.b=p'.b→p.o=p'.o)) ∧
   (∀ g,gen<g→β id g=none)
 | .oth x=>∃ p,β id 0=some p∧Hh β w p x
 | .ro cells=>∃ p,β id 0=some p∧pC β w cells p
structure Rel (m:Nat) (β:Pl) (H:Hp) (w:World):Prop where
 obj:∀ id o,H.get id=some o→gj β w id o
 sep:∀ id id' o o' g g' p p',H.get id=some o→H.get id'=some o'→dV o g→dV o' g'→β id g=some p→β id' g'=some p'→p.b=p'.b→id=id'∨(o.lW=true∧o'.lW=true)
 wf:∀ id,H.nx≤id→H.get id=none
 free:∀ id g,H.nx≤id→id<m→β id g=none
structure Ext (β:Pl) (H:Hp) (w:World) (β':Pl) (H':Hp) (w':World):Prop where
 sub:∀ id g p,β id g=some p→β' id g=some p
 loc:∀ id g p,β' id g=some p→β id g=some p∨(H.nx≤id∧id<H'.nx)∨∃ o,H.get id=some o
 size:w.heap.size≤w'.heap.size
 os:w'.os=w.os
 tape:w'.tape=w.tape
 output:w'.output=w.output
 frame:∀ b,b<w.heap.size→(∀ id o g p,H.get id=some o→UI o g→β id g=some p→p.b≠b)→w'.heap[b]?=w.heap[b]?
 prov:∀ id o' g p,H'.get id=some o'→dV o' g→β' id g=some p→w.heap.size≤p.b∨∃ o g0 p0,H.get id=some o∧dV o g0∧β id g0=some p0∧p0.b=p.b∧o.lW=o'.lW
 nx:H.nx≤H'.nx
 log:∃ l,H'.log=l++H.log∧∀ id,id<H.nx→id∉l→H'.get id=H.get id
 dom:∀ id o,H.get id=some o→∃ o',H'.get id=some o'
 old:∀ id o',H'.get id=some o'→(∃ o,H.get id=some o)∨(H.nx≤id∧id<H'.nx)
 far:∀ l,H'.log=l++H.log→∀ b,b<w.heap.size→(∀ id o g p,id∈l→H.get id=some o→UI o g→β id g=some p→p.b≠b)→w'.heap[b]?=w.heap[b]?
abbrev Sub (β β':Pl):Prop:=∀ id g p,β id g=some p→β' id g=some p
section mono
variable {β β':Pl} (hs:Sub β β')
include hs
theorem CRO.mono {x:AO} {v:Value} (h:CRO β x v):CRO β' x v:=by
 cases x with
 | p v=>exact h
 | str s=>exact h
 | nilP=>exact h
 | nilS=>exact h
 | nilM=>exact h
 | nilF=>exact h
 | ptr id g off lim=>obtain ⟨p,hp,r⟩:=h;exact ⟨p,hs _ _ _ hp,r⟩
 | sl id g off len sz=>obtain ⟨p,cap,o',hp,r⟩:=h;exact ⟨p,cap,o',hs _ _ _ hp,r⟩
 | mp id=>obtain ⟨p,hp,r⟩:=h;exact ⟨p,hs _ _ _ hp,r⟩
 | clo f caps=>
  obtain ⟨cs,h1,h2,h3⟩:=h;refine ⟨cs,h1,h2,fun k c v hc hv=>?_⟩;obtain ⟨p,hp,r⟩:=h3 k c v hc hv;exact ⟨p,hs _ _ _ hp,r⟩
 | yl id=>obtain ⟨p,hp,r⟩:=h;exact ⟨p,hs _ _ _ hp,r⟩
 | it id=>obtain ⟨p,hp,r⟩:=h;exact ⟨p,hs _ _ _ hp,r⟩
theorem CR.mono {x:AC} {v:Value} (h:CR β x v):CR β' x v:=by
 cases x with
 | b x=>exact h
 | i k n=>exact h
 | o x=>exact CRO.mono hs h
theorem CRs.mono:∀ {l:List AC} {vs:List Value},CRs β l vs→CRs β' l vs
 | [],[],_=>trivial
 | _::_,_::_,h=>⟨CR.mono hs h.1,CRs.mono h.2⟩
 | [],_::_,h=>h.elim
 | _::_,[],h=>h.elim
theorem TR.mono {x:Bool×List AC} {v:Value} (h:TR β x v):TR β' x v:=by
 obtain ⟨b,l⟩:=x;cases b with
 | true=>obtain ⟨vs,h1,h2⟩:=h;exact ⟨vs,CRs.mono hs h1,h2⟩
 | false=>
  match l,h with
  | [c],h=>exact CR.mono hs h
theorem TRs.mono:∀ {l:List (Bool×List AC)} {vs:List Value},TRs β l vs→TRs β' l vs
 | [],[],_=>trivial
 | _::_,_::_,h=>⟨TR.mono hs h.1,TRs.mono h.2⟩
 | [],_::_,h=>h.elim
 | _::_,[],h=>h.elim
theorem AR.mono {x:AV} {v:Value} (h:AR β x v):AR β' x v:=by
 cases x with
 | one c=>exact CR.mono hs h
 | agg l=>obtain ⟨vs,h1,h2⟩:=h;exact ⟨vs,CRs.mono hs h1,h2⟩
 | tup l=>obtain ⟨vs,h1,h2⟩:=h;exact ⟨vs,TRs.mono hs h1,h2⟩
 | any=>trivial
theorem ARs.mono:∀ {l:List AV} {vs:List Value},ARs β l vs→ARs β' l vs
 | [],[],_=>trivial
 | _::_,_::_,h=>⟨AR.mono hs h.1,ARs.mono h.2⟩
 | [],_::_,h=>h.elim
 | _::_,[],h=>h.elim
theorem ERs.mono:∀ {l:List bJ} {ms:List MapEntry},ERs β l ms→ERs β' l ms
 | [],[],_=>trivial
 | _::_,_::_,h=>⟨⟨AR.mono hs h.1.1,h.1.2.1,AR.mono hs h.1.2.2.1,h.1.2.2.2⟩,ERs.mono h.2⟩
 | [],_::_,h=>h.elim
 | _::_,[],h=>h.elim
theorem TmR.mono {tm:PT AV} {nt:Nat} {tmps:Array Value} (h:TmR β tm nt tmps):TmR β' tm nt tmps:=⟨h.1,h.2.1,fun t=>AR.mono hs (h.2.2 t)⟩
theorem gQ.mono {w w':World} {cells:List AC} {e:TypeId} {p:Place} (h:gQ β w cells e p) (hw:w'.heap[p.b]?=w.heap[p.b]?):gQ β' w' cells e p:=by
 obtain ⟨c,h1,h2,h3,h4,h5⟩:=h;refine ⟨c,hw.trans h1,h2,h3,h4,fun k x hk hx=>?_⟩;obtain ⟨v,hv,hr⟩:=h5 k x hk hx;exact ⟨v,hv,CR.mono hs hr⟩
theorem Hh.mono {w w':World} {p:Place} {x:Pg} (h:Hh β w p x) (hw:w'.heap[p.b]?=w.heap[p.b]?):Hh β' w' p x:=by
 cases x with
 | map es clock=>obtain ⟨ms,h1,h2⟩:=h;exact ⟨ms,hw.trans h1,ERs.mono hs h2⟩
 | iter m since seen stepped=>
  cases m with
  | none=>exact hw.trans h
  | some i=>obtain ⟨q,h1,h2⟩:=h;exact ⟨q,hs _ _ _ h1,hw.trans h2⟩
 | loop st pe tm nt ps as bo d=>
  obtain ⟨q,fn,tmps,h1,h2,h3⟩:=h;exact ⟨q,fn,tmps,hs _ _ _ h1,TmR.mono hs h2,hw.trans h3⟩
 | dfr b=>exact hw.trans h
theorem gj.mono {w w':World} {id:Nat} {o:aN} (h:gj β w id o) (hn:∀ g,β' id g=β id g) (hw:∀ g p,dV o g→β id g=some p→w'.heap[p.b]?=w.heap[p.b]?):gj β' w' id o:=by
 cases o with
 | arr cells e lo gen=>
  obtain ⟨h0,h1,h2,h3⟩:=h;refine ⟨h0,fun g hl hg=>?_,fun g g' p p' a b c d e=>?_,fun g hg=>by rw[hn];exact h3 g hg⟩
  ·obtain ⟨p,hp,hr,hh⟩:=h1 g hl hg;exact ⟨p,hs _ _ _ hp,gQ.mono hs hr (hw g p ⟨hl,hg⟩ hp),hh⟩
  rw[hn] at d e;exact h2 g g' p p' a b c d e
 | oth x=>
  obtain ⟨p,hp,hx⟩:=h;exact ⟨p,hs _ _ _ hp,Hh.mono hs hx (hw 0 p rfl hp)⟩
 | ro cells=>
  obtain ⟨p,hp,c,e,f,h1,h2,h3,h4,h5⟩:=h;refine ⟨p,hs _ _ _ hp,c,e,f,(hw 0 p rfl hp).trans h1,h2,h3,h4,fun k x hk hx=>?_⟩;obtain ⟨v,hv,hr⟩:=h5 k x hk hx;exact ⟨v,hv,CR.mono hs hr⟩
end mono
theorem ERs.get {β:Pl}:∀ {l:List bJ} {ms:List MapEntry},ERs β l ms→l.length=ms.length
 | [],[],_=>rfl
 | _::_,_::_,h=>by simp[ERs.get h.2]
 | [],_::_,h=>h.elim
 | _::_,[],h=>h.elim
theorem CRs.length {β:Pl}:∀ {l:List AC} {vs:List Value},CRs β l vs→vs.length=l.length
 | [],[],_=>rfl
 | _::_,_::_,h=>by simp[CRs.length h.2]
 | [],_::_,h=>h.elim
 | _::_,[],h=>h.elim
theorem ARs.length {β:Pl}:∀ {l:List AV} {vs:List Value},ARs β l vs→vs.length=l.length
 | [],[],_=>rfl
 | _::_,_::_,h=>by simp[ARs.length h.2]
 | [],_::_,h=>h.elim
 | _::_,[],h=>h.elim
theorem CRs.get {β:Pl}:∀ {l:List AC} {vs:List Value},CRs β l vs→∀ (k:Nat) (c:AC) (v:Value),l[k]?=some c→vs[k]?=some v→CR β c v
 | [],[],_,k,c,v,h,_=>by simp at h
 | _::_,_::_,h,0,c,v,hc,hv=>by simp at hc hv;subst hc hv;exact h.1
 | _::_,_::_,h,k+1,c,v,hc,hv=>CRs.get h.2 k c v (by simpa using hc) (by simpa using hv)
 | [],_::_,h,_,_,_,_,_=>h.elim
 | _::_,[],h,_,_,_,_,_=>h.elim
theorem CRs.dY {β:Pl}:∀ {l:List AC} {vs:List Value},vs.length=l.length→(∀ (k:Nat) (c:AC) (v:Value),l[k]?=some c→vs[k]?=some v→CR β c v)→CRs β l vs
 | [],[],_,_=>trivial
 | c::l,v::vs,hl,h=>⟨h 0 c v rfl rfl,CRs.dY (by simpa using hl) fun k c' v' hc hv=>h (k+1) c' v' (by simpa using hc) (by simpa using hv)⟩
 | [],_::_,hl,_=>by simp at hl
 | _::_,[],hl,_=>by simp at hl
theorem CRs.append {β:Pl} {l l':List AC} {vs vs':List Value} (h:CRs β l vs) (h':CRs β l' vs'):CRs β (l++l') (vs++vs'):=by
 induction l generalizing vs with
 | nil=>cases vs with|nil=>exact h'|cons=>exact h.elim
 | cons c l ih=>cases vs with|nil=>exact h.elim|cons v vs=>exact ⟨h.1,ih h.2⟩
theorem ARs.append {β:Pl} {l l':List AV} {vs vs':List Value} (h:ARs β l vs) (h':ARs β l' vs'):ARs β (l++l') (vs++vs'):=by
 induction l generalizing vs with
 | nil=>cases vs with|nil=>exact h'|cons=>exact h.elim
 | cons c l ih=>cases vs with|nil=>exact h.elim|cons v vs=>exact ⟨h.1,ih h.2⟩
theorem CRs.take {β:Pl} {l:List AC} {vs:List Value} (h:CRs β l vs) (n:Nat):CRs β (l.take n) (vs.take n):=
 CRs.dY (by simp[h.length]) fun k c v hc hv=>by
  rw[List.getElem?_take] at hc hv;split at hc
  ·rename_i hk;rw[zB0 hk] at hv;exact h.get k c v hc hv
  cases hc
theorem CRs.drop {β:Pl} {l:List AC} {vs:List Value} (h:CRs β l vs) (n:Nat):CRs β (l.drop n) (vs.drop n):=
 CRs.dY (by simp[h.length]) fun k c v hc hv=>by
  rw[List.getElem?_drop] at hc hv;exact h.get _ c v hc hv
theorem CR.kQ {β:Pl} {c:AC} {v:Value} (h:CR β c v):v.oneCell'=true:=by
 cases c with
 | b x=>cases h;rfl
 | i k n=>cases h;rfl
 | o x=>
  cases x with
  | p u=>obtain ⟨h1,h2⟩:=h;subst h1;exact h2
  | str s=>cases h;rfl
  | nilP=>cases h;rfl
  | nilS=>cases h;rfl
  | nilM=>cases h;rfl
  | nilF=>cases h;rfl
  | ptr id g off lim=>obtain ⟨p,_,_,rfl⟩:=h;rfl
  | sl id g off len sz=>obtain ⟨p,cap,o',_,_,_,rfl,_⟩:=h;rfl
  | mp id=>obtain ⟨p,_,rfl⟩:=h;rfl
  | clo f caps=>obtain ⟨cs,rfl,_⟩:=h;rfl
  | yl id=>obtain ⟨p,_,rfl⟩:=h;rfl
  | it id=>obtain ⟨p,_,rfl⟩:=h;rfl
theorem CRs.kQ {β:Pl}:∀ {l:List AC} {vs:List Value},CRs β l vs→∀ v∈vs,v.oneCell'=true
 | [],[],_,v,hv=>by cases hv
 | _::_,_::_,h,v,hv=>by
  rcases List.mem_cons.1 hv with rfl|hv
  ·exact h.1.kQ
  exact CRs.kQ h.2 v hv
 | [],_::_,h,_,_=>h.elim
 | _::_,[],h,_,_=>h.elim
theorem AR.cells {β:Pl} {x:AV} {v:Value} (h:AR β x v) (hn:x.bD=true):CRs β x.cells v.cells.toList:=by
 cases x with
 | one c=>
  have h1:=CR.kQ h;have:v.cells=#[v]:=by cases v <;> first|rfl|(simp[Value.oneCell'] at h1)
  rw[this];exact ⟨h,trivial⟩
 | agg l=>obtain ⟨vs,h1,rfl⟩:=h;exact h1
 | tup l=>cases hn
 | any=>cases hn
theorem Ext.refl (β:Pl) (H:Hp) (w:World):Ext β H w β H w:=
 ⟨fun _ _ _ h=>h,fun _ _ _ h=>.inl h,zA1 _,rfl,rfl,rfl,fun _ _ _=>rfl,fun id o g p h1 h2 h3=>.inr ⟨o,g,p,h1,h2,h3,rfl,rfl⟩,zA1 _,⟨[],rfl,fun _ _ _=>rfl⟩,fun _ o h=>⟨o,h⟩,fun _ o h=>.inl ⟨o,h⟩,fun _ _ _ _ _=>rfl⟩
theorem Ext.trans {β β1 β2:Pl} {H H1 H2:Hp} {w w1 w2:World} (h:Ext β H w β1 H1 w1) (k:Ext β1 H1 w1 β2 H2 w2):Ext β H w β2 H2 w2 where
 sub:=fun id g p hp=>k.sub _ _ _ (h.sub _ _ _ hp)
 loc:=fun id g p hp=>by
  rcases k.loc id g p hp with hp|hp|⟨o,ho⟩
  ·rcases h.loc id g p hp with hp|hp|hp
   ·exact .inl hp
   ·exact .inr (.inl ⟨hp.1,zA0 hp.2 k.nx⟩)
   exact .inr (.inr hp)
  ·exact .inr (.inl ⟨zA2 h.nx hp.1,hp.2⟩)
  rcases h.old id o ho with hq|hq
  ·exact .inr (.inr hq)
  exact .inr (.inl ⟨hq.1,zA0 hq.2 k.nx⟩)
 size:=zA2 h.size k.size
 os:=k.os.trans h.os
 tape:=k.tape.trans h.tape
 output:=k.output.trans h.output
 frame:=fun b hb hn=>by
  rw[k.frame b (zA0 hb h.size) ?_,h.frame b hb hn];intro id o g p ho hg hp Y7;rcases h.prov id o g p ho hg.1 hp with hq|⟨o0,g0,p0,a1,a2,a3,a4,a5⟩
  ·omega
  exact hn id o0 g0 p0 a1 ⟨a2,a5.trans hg.2⟩ a3 (a4.trans Y7)
 prov:=fun id o' g p ho hg hp=>by
  rcases k.prov id o' g p ho hg hp with hq|⟨o0,g0,p0,a1,a2,a3,a4,a5⟩
  ·exact .inl (zA2 h.size hq)
  rcases h.prov id o0 g0 p0 a1 a2 a3 with hq|⟨o1,g1,p1,b1,b2,b3,b4,b5⟩
  ·exact .inl (by omega)
  exact .inr ⟨o1,g1,p1,b1,b2,b3,b4.trans a4,b5.trans a5⟩
 nx:=zA2 h.nx k.nx
 log:=by
  obtain ⟨l,hl,hg⟩:=h.log;obtain ⟨l2,Y',X9⟩:=k.log;refine ⟨l2++l,by rw[Y',hl,List.append_assoc],fun id hid hm=>?_⟩;rw[X9 id (zA0 hid h.nx) (fun hx=>hm (List.mem_append_left _ hx)),hg id hid (fun hx=>hm (List.mem_append_right _ hx))]
 dom:=fun id o ho=>by
  obtain ⟨o1,h1⟩:=h.dom id o ho;exact k.dom id o1 h1
 old:=fun id o' ho=>by
  rcases k.old id o' ho with ⟨o1,h1⟩|hq
  ·rcases h.old id o1 h1 with hq|hq
   ·exact .inl hq
   exact .inr ⟨hq.1,zA0 hq.2 k.nx⟩
  exact .inr ⟨zA2 h.nx hq.1,hq.2⟩
 far:=fun l hl b hb hn=>by
  obtain ⟨l1,e1,_⟩:=h.log;obtain ⟨l2,e2,_⟩:=k.log;have e:l=l2++l1:=by
   rw[e2,e1,←List.append_assoc] at hl;exact (List.append_cancel_right hl).symm
  subst e;rw[k.far l2 e2 b (zA0 hb h.size) ?_,h.far l1 e1 b hb fun id o g p hid=>hn id o g p (List.mem_append_right _ hid)];intro id o g p hid ho hg hp Y7;rcases h.prov id o g p ho hg.1 hp with hq|⟨o0,g0,p0,a1,a2,a3,a4,a5⟩
  ·omega
  exact hn id o0 g0 p0 (List.mem_append_left _ hid) a1 ⟨a2,a5.trans hg.2⟩ a3 (a4.trans Y7)
theorem dw {α:Type} {a:Array α} {i:Nat} {x:α} (h:a[i]?=some x):i<a.size:=(Array.getElem?_eq_some_iff.1 h).1
theorem Hh.lt {β:Pl} {w:World} {p:Place} {x:Pg} (h:Hh β w p x):p.b<w.heap.size:=by
 cases x with
 | map es clock=>obtain ⟨ms,h1,_⟩:=h;exact dw h1
 | iter m since seen stepped=>
  cases m with
  | none=>exact dw h
  | some i=>obtain ⟨q,_,h1⟩:=h;exact dw h1
 | loop st pe tm nt ps as bo d=>obtain ⟨q,fn,tmps,_,_,h3⟩:=h;exact dw h3
 | dfr b=>exact dw h
theorem gj.lt {β:Pl} {w:World} {id:Nat} {o:aN} (h:gj β w id o) {g:Nat} {p:Place} (hg:dV o g) (hp:β id g=some p):p.b<w.heap.size:=by
 cases o with
 | arr cells e lo gen=>
  obtain ⟨_,h1,_,_⟩:=h;obtain ⟨q,hq,⟨c,hc,_⟩,_⟩:=h1 g hg.1 hg.2;rw[hp] at hq;cases hq;exact dw hc
 | oth x=>
  obtain ⟨q,hq,hx⟩:=h;have:g=0:=hg;subst this;rw[hp] at hq;cases hq;exact hx.lt
 | ro cells=>
  obtain ⟨q,hq,c,e,f,hc,_⟩:=h;have:g=0:=hg;subst this;rw[hp] at hq;cases hq;exact dw hc
theorem UK (H:Hp) (o:aN) (h:H.nx<H.nx+1) (i:Nat):(H.new o).get i=if i=H.nx then some o else H.get i:=PT.nG _ _ _ _ h
theorem US (H:Hp) (id:Nat) (o:aN) (h:id<id+1) (i:Nat):(H.mod id o).get i=if i=id then some o else H.get i:=PT.nG _ _ _ _ h
def plus (β:Pl) (id g:Nat) (p:Place):Pl:=fun i k=>if i=id∧k=g then some p else β i k
theorem aR (β:Pl) (id g:Nat) (p:Place):plus β id g p id g=some p:=by simp[plus]
theorem bP (β:Pl) (id g:Nat) (p:Place) {i k:Nat} (h:¬(i=id∧k=g)):plus β id g p i k=β i k:=by simp[plus,h]
theorem jg {β:Pl} {id g:Nat} {p:Place} (h:β id g=none):Sub β (plus β id g p):=by
 intro i k q hq;by_cases e:i=id∧k=g
 ·obtain ⟨rfl,rfl⟩:=e;rw[h] at hq;cases hq
 rw[bP _ _ _ _ e];exact hq
section
variable {m:Nat} {β:Pl} {H:Hp} {w:World} (hR:Rel m β H w)
include hR
theorem Rel.TE {id:Nat} {o:aN} (ho:H.get id=some o):id<H.nx:=by
 rcases Nat.lt_or_ge id H.nx with h|h
 ·exact h
 rw[hR.wf id h] at ho;cases ho
theorem lB (_hm:m≤m) (L1:H.nx≤m) {id:Nat} {o:aN} (ho:H.get id=some o) (o':aN) {β':Pl} {w':World} (G1:Sub β β') (B4:∀ i,i≠id→∀ g,β' i g=β i g)
  (J1:w.heap.size≤w'.heap.size) (hos:w'.os=w.os) (L6:w'.tape=w.tape) (Z3:w'.output=w.output)
  (T5:∀ b,b<w.heap.size→(∀ g p,dV o g→β id g=some p→p.b≠b)→w'.heap[b]?=w.heap[b]?)
  (O_:gj β' w' id o')
  (hprov:∀ g p,dV o' g→β' id g=some p→w.heap.size≤p.b∨∃ g0 p0,dV o g0∧β id g0=some p0∧p0.b=p.b) (R6:o.lW=false:=by rfl) (hro':o'.lW=false:=by rfl):
  Rel m β' (H.mod id o') w'∧Ext β H w β' (H.mod id o') w':=by
 have hid:=hR.TE ho;have hid40:id<id+1:=by omega
 have U0:=US H id o' hid40;refine ⟨⟨?_,?_,?_,?_⟩,?_⟩
 ·intro i x hx;rw[U0] at hx;by_cases e:i=id
  ·subst e;rw[zB0 rfl] at hx;cases hx;exact O_
  rw[zB1 e] at hx;have hi:=hR.obj i x hx;refine gj.mono G1 hi (B4 i e) fun g p hg hp=>?_;exact T5 p.b (hi.lt hg hp) fun g0 p0 j8 S6 hb=>(hR.sep _ _ _ _ _ _ _ _ hx ho hg j8 hp S6 hb.symm).elim e fun hh=>by rw[R6] at hh;cases hh.2
 ·intro i j x y g g' p p' hx hy hg J2 hp D2 hb;rw[U0] at hx hy;by_cases e:i=id
  ·by_cases f:j=id
   ·exact .inl (by rw[e,f])
   subst e;rw[zB0 rfl] at hx;rw[zB1 f] at hy;cases hx;rw[B4 j f] at D2;have D0:=(hR.obj j y hy).lt J2 D2;rcases hprov g p hg hp with hq|⟨g0,p0,a1,a2,a3⟩
   ·omega
   exact (hR.sep _ _ _ _ _ _ _ _ ho hy a1 J2 a2 D2 (a3.trans hb)).imp (fun h=>h) fun hh=>by rw[R6] at hh;cases hh.1
  by_cases f:j=id
  ·subst f;rw[zB1 e] at hx;rw[zB0 rfl] at hy;cases hy;rw[B4 i e] at hp;have D0:=(hR.obj i x hx).lt hg hp;rcases hprov g' p' J2 D2 with hq|⟨g0,p0,a1,a2,a3⟩
   ·omega
   exact (hR.sep _ _ _ _ _ _ _ _ hx ho hg a1 hp a2 (hb.trans a3.symm)).imp (fun h=>h) fun hh=>by rw[R6] at hh;cases hh.2
  rw[zB1 e] at hx;rw[zB1 f] at hy;rw[B4 i e] at hp;rw[B4 j f] at D2;exact hR.sep _ _ _ _ _ _ _ _ hx hy hg J2 hp D2 hb
 ·intro i hi;have W9:H.nx≤i:=hi;rw[U0,zB1 (by omega)];exact hR.wf i W9
 ·intro i g hi him;have W9:H.nx≤i:=hi;rw[B4 i (by omega)];exact hR.free i g W9 him
 refine ⟨G1,?_,J1,hos,L6,Z3,?_,?_,zA1 _,⟨[id],rfl,?_⟩,?_,?_,?_⟩
 ·intro i g p hp;by_cases e:i=id
  ·subst e;exact .inr (.inr ⟨o,ho⟩)
  rw[B4 i e] at hp;exact .inl hp
 ·exact fun b hb hn=>T5 b hb fun g p hg hp=>hn id o g p ho ⟨hg,R6⟩ hp
 ·intro i x g p hx hg hp;rw[U0] at hx;by_cases e:i=id
  ·subst e;rw[zB0 rfl] at hx;cases hx;rcases hprov g p hg hp with hq|⟨g0,p0,a1,a2,a3⟩
   ·exact .inl hq
   exact .inr ⟨o,g0,p0,ho,a1,a2,a3,by rw[R6,hro']⟩
  rw[zB1 e] at hx;rw[B4 i e] at hp;exact .inr ⟨x,g,p,hx,hg,hp,rfl,rfl⟩
 ·intro i hi hl;rw[U0,zB1 (by simpa using hl)]
 ·intro i x hx;rw[U0];by_cases e:i=id
  ·rw[zB0 e];exact ⟨_,rfl⟩
  rw[zB1 e];exact ⟨x,hx⟩
 ·intro i x hx;rw[U0] at hx;by_cases e:i=id
  ·subst e;exact .inl ⟨o,ho⟩
  rw[zB1 e] at hx;exact .inl ⟨x,hx⟩
 intro l hl b hb hn;have e:l=[id]:=by
  have a8:[id]++H.log=l++H.log:=hl;exact (List.append_cancel_right a8).symm
 subst e;exact T5 b hb fun g p hg hp=>hn id o g p (List.mem_singleton.2 rfl) ho ⟨hg,R6⟩ hp
theorem kT (_hm:m≤m) (L1:H.nx<m) (o':aN) (p:Place) {w':World} (hb:w.heap.size≤p.b)
  (J1:w.heap.size≤w'.heap.size) (hos:w'.os=w.os) (L6:w'.tape=w.tape) (Z3:w'.output=w.output)
  (T5:∀ b,b<w.heap.size→w'.heap[b]?=w.heap[b]?) (hgen:∀ g,dV o' g→g=0)
  (O_:gj (plus β H.nx 0 p) w' H.nx o'):
  Rel m (plus β H.nx 0 p) (H.new o') w'∧Ext β H w (plus β H.nx 0 p) (H.new o') w':=by
 have U0:=UK H o' (by omega);have hnone:β H.nx 0=none:=hR.free H.nx 0 (zA1 _) L1;have G1:Sub β (plus β H.nx 0 p):=jg hnone;have B4:∀ i,i≠H.nx→∀ g,plus β H.nx 0 p i g=β i g:=fun i hi g=>bP _ _ _ _ (fun h=>hi h.1);have L0:∀ g q,dV o' g→plus β H.nx 0 p H.nx g=some q→q=p:=by
  intro g q hg hq;have:=hgen g hg;subst this;rw[aR] at hq;exact (Option.some.inj hq).symm
 refine ⟨⟨?_,?_,?_,?_⟩,?_⟩
 ·intro i x hx;rw[U0] at hx;by_cases e:i=H.nx
  ·subst e;rw[zB0 rfl] at hx;cases hx;exact O_
  rw[zB1 e] at hx;have hi:=hR.obj i x hx;exact gj.mono G1 hi (B4 i e) fun g p hg hp=>T5 p.b (hi.lt hg hp)
 ·intro i j x y g g' q q' hx hy hg J2 hq Z2 Z6;rw[U0] at hx hy;by_cases e:i=H.nx
  ·by_cases f:j=H.nx
   ·exact .inl (by rw[e,f])
   subst e;rw[zB0 rfl] at hx;rw[zB1 f] at hy;cases hx;rw[B4 j f] at Z2;have D0:=(hR.obj j y hy).lt J2 Z2;rw[L0 g q hg hq] at Z6;omega
  by_cases f:j=H.nx
  ·subst f;rw[zB1 e] at hx;rw[zB0 rfl] at hy;cases hy;rw[B4 i e] at hq;have D0:=(hR.obj i x hx).lt hg hq;rw[L0 g' q' J2 Z2] at Z6;omega
  rw[zB1 e] at hx;rw[zB1 f] at hy;rw[B4 i e] at hq;rw[B4 j f] at Z2;exact hR.sep _ _ _ _ _ _ _ _ hx hy hg J2 hq Z2 Z6
 ·intro i hi;have W9:H.nx+1≤i:=hi;rw[U0,zB1 (by omega)];exact hR.wf i (by omega)
 ·intro i g hi him;have W9:H.nx+1≤i:=hi;rw[B4 i (by omega)];exact hR.free i g (by omega) him
 refine ⟨G1,?_,J1,hos,L6,Z3,fun b Z6 _=>T5 b Z6,?_,Nat.le_succ _,⟨[],rfl,?_⟩,?_,?_,fun _ _ b Z6 _=>T5 b Z6⟩
 ·intro i g q hq;by_cases e:i=H.nx
  ·subst e;exact .inr (.inl ⟨zA1 _,zA6 _⟩)
  rw[B4 i e] at hq;exact .inl hq
 ·intro i x g q hx hg hq;rw[U0] at hx;by_cases e:i=H.nx
  ·subst e;rw[zB0 rfl] at hx;cases hx;rw[L0 g q hg hq];exact .inl hb
  rw[zB1 e] at hx;rw[B4 i e] at hq;exact .inr ⟨x,g,q,hx,hg,hq,rfl,rfl⟩
 ·intro i hi _;rw[U0,zB1 (by omega)]
 ·intro i x hx;rw[U0,zB1 (by have:=hR.TE hx;omega)];exact ⟨x,hx⟩
 intro i x hx;rw[U0] at hx;by_cases e:i=H.nx
 ·subst e;exact .inr ⟨zA1 _,zA6 _⟩
 rw[zB1 e] at hx;exact .inl ⟨x,hx⟩
end
theorem Rel.drew {m:Nat} {β:Pl} {H:Hp} {w:World} (hR:Rel m β H w) (n:Nat):Rel m β H { w with drawn:=n } where
 obj:=fun id o ho=>gj.mono (fun _ _ _ h=>h) (hR.obj id o ho) (fun _=>rfl) fun _ _ _ _=>rfl
 sep:=hR.sep
 wf:=hR.wf
 free:=hR.free
theorem uo {m:Nat} {β:Pl} {H:Hp} {w:World} (hR:Rel m β H w) (hm:m≤m) (L1:H.nx<m) (cells:List AC) (vs:Array Value) (e:TypeId) (hc:CRs β cells vs.toList) (w0:World)
  (h0:w0.heap=w.heap) (hos:w0.os=w.os) (L6:w0.tape=w.tape) (Z3:w0.output=w.output) (extra:Array Value):
  Rel m (plus β H.nx 0 ⟨w.heap.size,0,vs.size+extra.size,cells.length⟩) (H.new (.arr cells e 0 0)) { w0 with heap:=w0.heap.push (.cells (vs++extra) e) } ∧
  Ext β H w (plus β H.nx 0 ⟨w.heap.size,0,vs.size+extra.size,cells.length⟩) (H.new (.arr cells e 0 0)) { w0 with heap:=w0.heap.push (.cells (vs++extra) e) }:=by
 have hlen:vs.size=cells.length:=by simpa using hc.length
 refine kT hR hm L1 _ _ (zA1 _) (by rw[h0];simp) hos L6 Z3 ?_ ?_ ?_
 ·intro b hb;show (w0.heap.push _)[b]?=_;rw[Array.getElem?_push,zB1 (by rw[h0];omega),h0]
 ·intro g hg;have:=hg.2;omega
 refine ⟨zA1 _,?_,?_,?_⟩
 ·intro g _ hg;have j8:g=0:=by omega
  subst j8;refine ⟨_,aR _ _ _ _,⟨vs++extra,?_,by simp,by simp;omega,zA1 _,?_⟩,fun _=>rfl⟩
  ·show (w0.heap.push _)[w.heap.size]?=_;rw[←h0,Array.getElem?_push_size]
  intro k x hk hx;have M3:k<cells.length:=hk;have hkv:k<vs.size:=by omega
  refine ⟨vs[k],?_,?_⟩
  ·show (vs++extra)[0+k]?=_;rw[Nat.zero_add,Array.getElem?_append_left hkv,Array.getElem?_eq_getElem hkv]
  refine CR.mono (jg (hR.free H.nx 0 (zA1 _) L1)) (hc.get k x vs[k] hx ?_);simp[hkv]
 ·intro g g' p p' _ h1 h2 hp D2;have e1:g=0:=by omega
  have e2:g'=0:=by omega
  subst e1 e2;rw[hp] at D2;cases D2;exact ⟨zA1 _,fun _=>rfl⟩
 intro g hg;rw[bP _ _ _ _ (by omega)];exact hR.free H.nx g (zA1 _) L1
end Go.Eng
end
