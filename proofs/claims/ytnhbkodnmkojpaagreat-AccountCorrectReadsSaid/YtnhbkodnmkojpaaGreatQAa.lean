/- A part of the proof: EngDef, EngRun, EngTree, EngCong, EngRel, EngSteps. No conditions. -/
import Derived.RangeFuncLeaves
import Derived.OrdersIn
import Derived.WalkKit
set_option maxRecDepth 100000
set_option maxHeartbeats 64000000
set_option linter.unusedVariables false
set_option linter.unusedSimpArgs false
noncomputable section
namespace Go
universe u
theorem zA0 {n m k:Nat} (h:n<m) (g:m≤k):n<k:=Nat.lt_of_lt_of_le h g
theorem zA1 (n:Nat):n≤n:=Nat.le_refl n
theorem zA2 {n m k:Nat} (h:n≤m) (g:m≤k):n≤k:=Nat.le_trans h g
theorem zA3 {n m:Nat} (h:Nat.beq n m=true):n=m:=Nat.eq_of_beq_eq_true h
theorem zA4 {n m:Nat} (h:Nat.ble n m=true):n≤m:=Nat.le_of_ble_eq_true h
theorem zA5 {n m:Nat} (h:n≤m):Nat.ble n m=true:=Nat.ble_eq_true_of_le h
theorem zA6 (n:Nat):n<Nat.succ n:=Nat.lt_succ_self n
theorem zA7 {n m:Nat} (h:n≤m):n≤Nat.succ m:=Nat.le_succ_of_le h
theorem zA8:¬false=true:=Bool.false_ne_true
theorem zB0 {c:Prop} {h:Decidable c} (p:c) {α:Sort u} {t e:α}:ite c t e=t:=if_pos p
theorem zB1 {c:Prop} {h:Decidable c} (p:¬c) {α:Sort u} {t e:α}:ite c t e=e:=if_neg p
theorem zB2:¬False:=not_false
theorem zB3 {a b:Prop} (x:a) (y:b):a∧b:=And.intro x y
theorem zB4 {α:Type u} {l:List α} {i:Nat} (h:i<l.length):l[i]?=some l[i]:=List.getElem?_eq_getElem h
theorem zB5 {α:Type u} [BEq α] [LawfulBEq α] {a b:α} (h:a≠b):(a==b)=false:=beq_false_of_ne h
theorem zC0 (i:Nat) (h:(i:Int)+1≤9223372036854775807):IntKind.i64.wrap ((i:Int)+1)=((i+1:Nat):Int):=by rw[IntKind.wrap_i64];omega
theorem zC1 {α:Type u} {i:Nat} {l:List α} (h:i<l.length):l.drop i=l[i]::l.drop (i+1):=List.drop_eq_getElem_cons h
theorem zC2 {α:Type u} {i:Nat} {l:List α} (h:i<l.length):l.take (i+1)=l.take i++[l[i]]:=List.take_succ_eq_append_getElem h
end Go
namespace Go.Eng
open Go
def aw {α β:Type} (o:Option α) (e:β) (f:α→β):β:=Option.rec (motive:=fun _=>β) e f o
def ifE {β:Type} (b:Bool) (x y:β):β:=Bool.rec (motive:=fun _=>β) y x b
def both (a b:Bool):Bool:=Bool.rec (motive:=fun _=>Bool) false b a
inductive PT (α:Type) where
 | leaf:PT α
 | node:PT α→Option α→PT α→PT α
def PT.get {α:Type} (t:PT α):Nat→Option α:=
 PT.rec (motive:=fun _=>Nat→Option α) (fun _=>none)
  (fun _ v _ gl gr n=>Nat.rec (motive:=fun _=>Option α) v
   (fun k _=>Bool.rec (motive:=fun _=>Option α) (gr (Nat.div k 2)) (gl (Nat.div k 2)) (Nat.beq (Nat.mod k 2) 0)) n) t
def PT.mk {α:Type} (a:Option α) (f:Nat):Nat→PT α:=
 Nat.rec (motive:=fun _=>Nat→PT α) (fun _=>.node .leaf a .leaf)
  (fun _ ih n=>Nat.rec (motive:=fun _=>PT α) (.node .leaf a .leaf)
   (fun k _=>Bool.rec (motive:=fun _=>PT α) (.node .leaf none (ih (Nat.div k 2))) (.node (ih (Nat.div k 2)) none .leaf) (Nat.beq (Nat.mod k 2) 0)) n) f
def PT.put {α:Type} (a:Option α) (t:PT α):Nat→PT α:=
 PT.rec (motive:=fun _=>Nat→PT α) (fun n=>PT.mk a n n)
  (fun l v r sl sr n=>Nat.rec (motive:=fun _=>PT α) (.node l a r)
   (fun k _=>Bool.rec (motive:=fun _=>PT α) (.node l v (sr (Nat.div k 2))) (.node (sl (Nat.div k 2)) v r) (Nat.beq (Nat.mod k 2) 0)) n) t
def PT.set {α:Type} (t:PT α) (n:Nat) (a:α):PT α:=PT.put (some a) t n
def PT.del {α:Type} (t:PT α) (n:Nat):PT α:=PT.put none t n
inductive AO where
 | p (v:Value)
 | str (s:List UInt8)
 | nilP
 | nilS
 | nilM
 | nilF
 | ptr (id gen off lim:Nat)
 | sl (id gen off len sz:Nat)
 | mp (id:Nat)
 | clo (f:FuncId) (caps:List (Nat×Nat×Nat×Nat))
 | yl (id:Nat)
 | it (id:Nat)
inductive AC where
 | b (x:Bool)
 | i (k:IntKind) (n:Int)
 | o (x:AO)
inductive AV where
 | one (c:AC)
 | agg (l:List AC)
 | tup (l:List (Bool×List AC))
 | any
def avE {β:Type} (v:AV) (f:AC→β) (g:List AC→β) (h:List (Bool×List AC)→β):β:=AV.rec (motive:=fun _=>β) f g h (h []) v
def acE {β:Type} (c:AC) (f:Bool→β) (g:IntKind→Int→β) (h:AO→β):β:=AC.rec (motive:=fun _=>β) f g h c
def dM {β:Type} (v:AV) (e:β) (f:Bool→β):β:=avE v (fun c=>acE c f (fun _ _=>e) (fun _=>e)) (fun _=>e) (fun _=>e)
def er {β:Type} (v:AV) (e:β) (f:IntKind→Int→β):β:=avE v (fun c=>acE c (fun _=>e) f (fun _=>e)) (fun _=>e) (fun _=>e)
def Lv {β:Type} (v:AV) (e:β) (f:AO→β):β:=avE v (fun c=>acE c (fun _=>e) (fun _ _=>e) f) (fun _=>e) (fun _=>e)
def rh {β:Type} (v:AV) (e:β) (f:Nat→Nat→Nat→Nat→β):β:=
 Lv v e fun x=>AO.rec (motive:=fun _=>β) (fun _=>e) (fun _=>e) e e e e f (fun _ _ _ _ _=>e) (fun _=>e) (fun _ _=>e) (fun _=>e) (fun _=>e) x
def slE {β:Type} (v:AV) (e:β) (f:Nat→Nat→Nat→Nat→Nat→β):β:=
 Lv v e fun x=>AO.rec (motive:=fun _=>β) (fun _=>e) (fun _=>e) e e e e (fun _ _ _ _=>e) f (fun _=>e) (fun _ _=>e) (fun _=>e) (fun _=>e) x
structure bI where
 key:AV
 val:AV
 born:Nat
inductive LD where
 | map (es:List bI) (clock:Nat)
 | iter (m:Option Nat) (since:Nat) (seen:List Nat) (stepped:Nat)
 | loop (state:LoopState) (pending:Option Code) (tm:PT AV) (nt:Nat) (params:List Tmp) (assign body:Code) (defers:Nat)
 | dfr (open_:Bool)
inductive aJ where
 | arr (cells:List AC) (elem:TypeId) (lo gen:Nat)
 | oth (x:LD)
 | ro (cells:List AC)
structure Hp where
 t:PT aJ
 nx:Nat
 log:List Nat
def Hp.get (h:Hp) (i:Nat):Option aJ:=h.t.get i
def Hp.new (h:Hp) (o:aJ):Hp:=⟨h.t.set h.nx o,Nat.add h.nx 1,h.log⟩
def Hp.mod (h:Hp) (i:Nat) (o:aJ):Hp:=⟨h.t.set i o,h.nx,i::h.log⟩
def nh {β:Type} (o:Option aJ) (e:β) (f:List AC→TypeId→Nat→Nat→β):β:=
 Option.rec (motive:=fun _=>β) e (fun x=>aJ.rec (motive:=fun _=>β) f (fun _=>e) (fun _=>e) x) o
inductive R (α:Type) where
 | ok (l:List α)
 | bad (why:String)
def vM {α:Type} (x y:R α):R α:=
 R.rec (motive:=fun _=>R α) (fun a=>R.rec (motive:=fun _=>R α) (fun b=>.ok (a++b)) (fun s=>.bad s) y) (fun s=>.bad s) x
def cD {α β:Type} (f:α→R β) (l:List α):R β:=
 List.rec (motive:=fun _=>R β) (.bad "no way") (fun x l' ih=>List.rec (motive:=fun _=>R β) (f x) (fun _ _ _=>vM (f x) ih) l') l
def R.bind {α β:Type} (r:R α) (f:α→R β):R β:=R.rec (motive:=fun _=>R β) (fun l=>cD f l) (fun s=>.bad s) r
def aF:AV:=.tup []
def AV.cells (v:AV):List AC:=avE v (fun c=>[c]) (fun l=>l) (fun _=>[])
def AV.bw (v:AV):Bool:=avE v (fun _=>true) (fun _=>true) (fun _=>false)
def cOf:Value→AC
 | .bool b=>.b b
 | .int k n=>.i k n
 | .string s=>.o (.str s.data.toList)
 | .pointer none=>.o .nilP
 | .slice none 0 0=>.o .nilS
 | .map none=>.o .nilM
 | .nilFunc=>.o .nilF
 | v=>.o (.p v)
def ofValue:Value→AV
 | .agg cs=>.agg (cs.toList.map cOf)
 | .tuple vs=>.tup (vs.toList.map fun v=>match v with|.agg cs=>(true,cs.toList.map cOf)|v=>(false,[cOf v]))
 | v=>.one (cOf v)
def okV:Value→Bool
 | .agg cs=>cs.toList.all Value.oneCell'
 | .tuple vs=>vs.toList.isEmpty
 | _=>true
def AC.val?:AC→Option Value
 | .b x=>some (.bool x)
 | .i k n=>some (.int k n)
 | .o (.p v)=>some v
 | .o (.str s)=>some (.string ⟨s.toArray⟩)
 | .o .nilP=>some (.pointer none)
 | .o .nilS=>some (.slice none 0 0)
 | .o .nilM=>some (.map none)
 | .o .nilF=>some .nilFunc
 | _=>none
def aX:List AC→Option (List Value)
 | []=>some []
 | c::l=>
  match c.val?,aX l with
  | some v,some vs=>some (v::vs)
  | _,_=>none
def AV.val?:AV→Option Value
 | .one c=>c.val?
 | .agg l=>match aX l with|some vs=>some (.agg vs.toArray)|none=>none
 | .tup []=>some (.tuple #[])
 | _=>none
inductive OpF where
 | slot (t:Tmp)
 | cst (v:AV)
def opF:Operand→OpF
 | .tmp t=>.slot t
 | .const v=>.cst (bif okV v then ofValue v else .any)
 | .global _=>.cst .any
 | .func f=>.cst (.one (.o (.clo f [])))
def OpF.ev (x:OpF) (tm:PT AV):AV:=OpF.rec (motive:=fun _=>AV) (fun t=>aw (tm.get t) aF fun v=>v) (fun v=>v) x
def ev (tm:PT AV) (x:Operand):AV:=(opF x).ev tm
def aB {α:Type} (P:Program):Sem α→Option α
 | .pure a=>some a
 | .program k=>aB P (k P)
 | .mark _ k=>aB P k
 | _=>none
def mf (P:Program) (t:TypeId):Option Bool:=
 match P.underlying t with
 | some (.struct _)=>some true
 | some (.array _ _)=>some true
 | some _=>some false
 | none=>none
def aV (P:Program) (t:TypeId):Option Nat:=match P.info? t with|some i=>some i.size|none=>none
def cG (P:Program) (t:TypeId):Option Nat:=match P.info? t with|some i=>some i.bytes|none=>none
def aA (P:Program) (t:TypeId):Option Value:=
 match P.info? t with
 | some i=>
  match i.zero with
  | some z=>match z with
   | .tuple _=>none
   | z=>bif okV z then some z else none
  | none=>none
 | none=>none
def rf (P:Program) (t:TypeId):Option TypeId:=match P.underlying t with|some (.slice e)=>some e|_=>none
def aG (P:Program) (s:TypeId) (f:Nat):Option (Nat×TypeId×Nat):=
 match P.underlying s with
 | some (.struct fs)=>
  match fs[f]? with
  | some fd=>
   match aV P fd.type with
   | some n=>some (fd.offset,fd.type,n)
   | none=>none
  | none=>none
 | _=>none
def ib (P:Program) (t:TypeId):Option (TypeId×TypeId):=match P.underlying t with|some (.map k e)=>some (k,e)|_=>none
def loadT (P:Program) (t:TypeId):Option (Bool×Nat):=
 match mf P t,aV P t with
 | some a,some n=>some (a,n)
 | _,_=>none
def bd (P:Program) (t:TypeId):Option (TypeId×Nat):=
 match rf P t with
 | some e=>match aV P e with|some n=>some (e,n)|none=>none
 | none=>none
def bB (l:List AC):Nat:=List.rec (motive:=fun _=>Nat) 0 (fun _ _ ih=>Nat.add ih 1) l
def Eb (n:Nat):List AC→List AC:=
 Nat.rec (motive:=fun _=>List AC→List AC) (fun l=>l) (fun _ ih l=>List.rec (motive:=fun _=>List AC) [] (fun _ l' _=>ih l') l) n
def Kr (n:Nat):List AC→List AC:=
 Nat.rec (motive:=fun _=>List AC→List AC) (fun _=>[]) (fun _ ih l=>List.rec (motive:=fun _=>List AC) [] (fun x l' _=>x::ih l') l) n
def ng (l m:List AC):List AC:=List.rec (motive:=fun _=>List AC) m (fun x _ ih=>x::ih) l
def cut (l:List AC) (off n:Nat):List AC:=Kr n (Eb off l)
def eI (l:List AC) (off:Nat) (c:List AC):List AC:=ng (Kr off l) (ng c (Eb (Nat.add off (bB c)) l))
inductive aD where
 | normal
 | exit (id:Nat)
 | ret
inductive ad where
 | val (v:AV) (h:Hp)
 | vals (l:List (AV×Hp))
 | enter (f:FuncId) (args:List AV)
 | round (id:Nat) (args:List AV)
 | bad (why:String)
def nd {α:Type} (o:Option α) (why:String) (f:α→ad):ad:=Option.rec (motive:=fun _=>ad) (.bad why) f o
def aI (b:Bool) (why:String) (n:ad):ad:=Bool.rec (motive:=fun _=>ad) (.bad why) n b
def rdO (o:Option aJ) (g off lim n:Nat):Option (List AC):=
 Option.rec (motive:=fun _=>Option (List AC)) none (fun x=>aJ.rec (motive:=fun _=>Option (List AC))
  (fun cells _ lo gen=>ifE (both (Nat.ble lo g) (both (Nat.ble g gen) (both (Nat.ble n lim) (Nat.ble (Nat.add off n) (bB cells))))) (some (cut cells off n)) none) (fun _=>none)
  (fun cells=>ifE (both (Nat.beq g 0) (both (Nat.ble n lim) (Nat.ble (Nat.add off n) (bB cells)))) (some (cut cells off n)) none) x) o
def eJ (h:Hp) (id g off lim n:Nat):Option (List AC):=rdO (h.get id) g off lim n
def bT (h:Hp) (a:Bool) (n:Nat) (v:AV):ad:=
 rh v (.bad "load - no pointer") fun id g off lim=>
  nd (eJ h id g off lim n) "load - cells" fun c=>ifE a (.val (.agg c) h) (List.rec (motive:=fun _=>ad) (.bad "load - no cell") (fun x _ _=>.val (.one x) h) c)
def fw (h:Hp) (n:Nat) (x v:AV):ad:=
 rh v (.bad "store - no pointer") fun id g off lim=>
  nh (h.get id) (.bad "store - no row") fun cells e lo gen=>
   aI (both (Nat.beq g gen) (both (Nat.beq (bB x.cells) n) (both (Nat.ble n lim) (both (Nat.ble (Nat.add off n) (bB cells)) (both (Nat.ble lo gen) x.bw))))) "store - stale or of another size"
    (.val aF (h.mod id (.arr (eI cells off x.cells) e gen gen)))
def gG (h:Hp) (cells:List AC) (e:TypeId):ad:=
 .val (.one (.o (.ptr h.nx 0 0 (bB cells)))) (h.new (.arr cells e 0 0))
def jn (z:List AC) (n:Nat):List AC:=Nat.rec (motive:=fun _=>List AC) [] (fun _ ih=>ng z ih) n
def uM:Int→Option Nat
 | .ofNat n=>some n
 | .negSucc _=>none
def Av (v:Option AV) (d:Nat):Option Nat:=aw v (some d) fun v=>er v none fun _ n=>uM n
def aU (P:Program) (t:TypeId):Nat:=
 match P.underlying t with
 | some (.pointer _)=>0
 | some (.slice _)=>1
 | some (.map _ _)=>2
 | some (.func _ _ _)=>3
 | _=>4
def vq:AO→Nat
 | .nilP=>0
 | .nilS=>1
 | .nilM=>2
 | .nilF=>3
 | _=>5
def tn:AO→Nat
 | .ptr ..=>0
 | .sl ..=>1
 | .mp _=>2
 | .clo ..=>3
 | _=>5
def KK (k:Nat):AV→AV→Option Bool
 | .one (.o a),.one (.o b)=>bif Nat.blt k 4&&((Nat.beq (tn a) k&&Nat.beq (vq b) k)||(Nat.beq (vq a) k&&Nat.beq (tn b) k)) then some false else none
 | _,_=>none
def Ho:IntKind→Nat
 | .i8=>0|.i16=>1|.i32=>2|.i64=>3|.u8=>4|.u16=>5|.u32=>6|.u64=>7
def sameKind (a b:IntKind):Bool:=Nat.beq (Ho a) (Ho b)
def iE {β:Type} (a:Int) (f g:Nat→β):β:=Int.rec (motive:=fun _=>β) f g a
def iLe (a b:Int):Bool:=iE a (fun m=>iE b (fun n=>Nat.ble m n) (fun _=>false)) (fun m=>iE b (fun _=>true) (fun n=>Nat.ble n m))
def iEq (a b:Int):Bool:=iE a (fun m=>iE b (fun n=>Nat.beq m n) (fun _=>false)) (fun m=>iE b (fun _=>false) (fun n=>Nat.beq m n))
def pW (k:IntKind) (n:Int):Int:=
 ifE (Nat.beq (Ho k) 3) (iE n (fun m=>ifE (Nat.ble 9223372036854775808 m) (k.wrap n) n) (fun m=>ifE (Nat.ble 9223372036854775808 m) (k.wrap n) n)) (k.wrap n)
inductive BF where
 | i (f:IntKind→Int→Int→Int)
 | b (f:Int→Int→Bool)
 | no
def fz (op:BinOp):BF:=
 match op with
 | .add=>.i fun k a b=>pW k (Int.add a b)
 | .sub=>.i fun k a b=>pW k (Int.sub a b)
 | .mul=>.i fun k a b=>pW k (Int.mul a b)
 | .eql=>.b iEq
 | .neq=>.b fun a b=>!iEq a b
 | .lss=>.b fun a b=>!iLe b a
 | .leq=>.b iLe
 | .gtr=>.b fun a b=>!iLe a b
 | .geq=>.b fun a b=>iLe b a
 | _=>.no
def bEq (a b:UInt8):Bool:=Nat.beq a.toNat b.toNat
def lEq (x:List UInt8):List UInt8→Bool:=
 List.rec (motive:=fun _=>List UInt8→Bool) (fun y=>List.rec (motive:=fun _=>Bool) true (fun _ _ _=>false) y)
  (fun a _ ih y=>List.rec (motive:=fun _=>Bool) false (fun b y' _=>both (bEq a b) (ih y')) y) x
def jW (x:List UInt8):List UInt8→Bool:=
 List.rec (motive:=fun _=>List UInt8→Bool) (fun y=>List.rec (motive:=fun _=>Bool) false (fun _ _ _=>true) y)
  (fun a _ ih y=>List.rec (motive:=fun _=>Bool) false (fun b y' _=>ifE (Nat.blt a.toNat b.toNat) true (both (bEq a b) (ih y'))) y) x
def Vx (op:BinOp):Option (List UInt8→List UInt8→Bool):=
 match op with
 | .eql=>some lEq
 | .neq=>some fun a b=>!lEq a b
 | .lss=>some jW
 | .leq=>some fun a b=>jW a b||lEq a b
 | .gtr=>some fun a b=>!(jW a b||lEq a b)
 | .geq=>some fun a b=>!jW a b
 | _=>none
def gH {β:Type} (v:AV) (e:β) (f:List UInt8→β):β:=
 Lv v e fun x=>AO.rec (motive:=fun _=>β) (fun _=>e) f e e e e (fun _ _ _ _=>e) (fun _ _ _ _ _=>e) (fun _=>e) (fun _ _=>e) (fun _=>e) (fun _=>e) x
def bC (P:Program) (kt:TypeId):Nat:=
 match P.underlying kt with
 | some .string=>0
 | some (.int _)=>1
 | some .bool=>3
 | some _=>2
 | none=>3
def iS (P:Program) (kt:TypeId) (a b:AV):Option Bool:=
 Nat.rec (motive:=fun _=>Option Bool) (gH a none fun x=>gH b none fun y=>some (lEq x y))
  (fun k _=>Nat.rec (motive:=fun _=>Option Bool) (er a none fun k x=>er b none fun k' y=>ifE (sameKind k k') (some (iEq x y)) none)
   (fun k _=>Nat.rec (motive:=fun _=>Option Bool) (aw a.val? none fun x=>aw b.val? none fun y=>aB P (Op.equal kt x y)) (fun _ _=>none) k) k) (bC P kt)
def iQ (P:Program) (kt:TypeId) (k:AV) (l:List bI):Option (Option bI):=
 List.rec (motive:=fun _=>Option (Option bI)) (some none) (fun e _ ih=>aw (iS P kt k e.key) none fun b=>ifE b (some (some e)) ih) l
def gO (P:Program) (empty:Bool) (kt:TypeId) (k:AV):Option Unit:=
 Nat.rec (motive:=fun _=>Option Unit) (gH k none fun _=>some ())
  (fun n _=>Nat.rec (motive:=fun _=>Option Unit) (er k none fun _ _=>some ())
   (fun n _=>Nat.rec (motive:=fun _=>Option Unit) (aw k.val? none fun v=>aB P (Instr.checkKey empty 10000 kt v)) (fun _ _=>none) n) n) (bC P kt)
def sameKey (P:Program) (kt:TypeId) (a b:AV):Bool:=
 Nat.rec (motive:=fun _=>Bool) (gH a false fun x=>gH b false fun y=>lEq x y)
  (fun n _=>Nat.rec (motive:=fun _=>Bool) (er a false fun k x=>er b false fun k' y=>both (sameKind k k') (iEq x y))
   (fun _ _=>aw a.val? false fun x=>aw b.val? false fun y=>Instr.sameBits 10000 x y) n) (bC P kt)
def mb (P:Program) (kt:TypeId) (k x:AV) (l:List bI):Option (Bool×List bI):=
 List.rec (motive:=fun _=>Option (Bool×List bI)) (some (false,[]))
  (fun e es ih=>aw (iS P kt k e.key) none fun b=>ifE b (ifE (sameKey P kt e.key k) (some (true,⟨k,x,e.born⟩::es)) none) (aw ih none fun r=>some (r.1,e::r.2))) l
def Mp:AV→Bool×List AC
 | .one a=>(false,[a])
 | .agg l=>(true,l)
 | .tup _=>(false,[])
 | .any=>(false,[])
def UA (k v:AV):AV:=.tup [Mp k,Mp v]
def vj (k v:AV):AV:=.tup [(false,[.b true]),Mp k,Mp v]
def bJ (h:Hp) (ok:Bool) (v:AV) (b:Bool):ad:=
 match ok with
 | false=>.val v h
 | true=>aI v.bw "lookup - tuple" (.val (.tup [Mp v,(false,[.b b])]) h)
def bg (P:Program) (h:Hp) (kt:TypeId) (z:AV) (m k:AV) (ok:Bool):ad:=
 match m with
 | .one (.o .nilM)=>nd (gO P true kt k) "lookup - key" fun _=>bJ h ok z false
 | .one (.o (.mp id))=>
  match h.get id with
  | some (.oth (.map es _))=>nd (gO P es.isEmpty kt k) "lookup - key" fun _=>
   match iQ P kt k es with
   | some (some e)=>bJ h ok e.val true
   | some none=>bJ h ok z false
   | none=>.bad "lookup - keys"
  | _=>.bad "lookup - no map"
 | _=>.bad "lookup - not a map"
def aW (P:Program) (h:Hp) (kt:TypeId) (m k x:AV):ad:=
 match m with
 | .one (.o (.mp id))=>
  match h.get id with
  | some (.oth (.map es clock))=>nd (gO P false kt k) "mapUpdate - key" fun _=>aI (both k.bw x.bw) "mapUpdate - tuple" <| nd (mb P kt k x es) "mapUpdate - keys" fun r=>
   ifE r.1 (.val aF (h.mod id (.oth (.map r.2 clock)))) (.val aF (h.mod id (.oth (.map (es++[⟨k,x,clock⟩]) (Nat.add clock 1)))))
  | _=>.bad "mapUpdate - no map"
 | _=>.bad "mapUpdate - nil or not a map"
def TO:AV:=.tup [(false,[.b false])]
def qs (h:Hp):AV→ad
 | .one (.o (.it r))=>
  match h.get r with
  | some (.oth (.iter none _ _ _))=>.val TO h
  | some (.oth (.iter (some m) since seen last))=>
   match h.get m with
   | some (.oth (.map es clock))=>
    aI (!(!seen.isEmpty&&!es.isEmpty&&es.all (fun e=>Nat.ble last e.born))) "next - all gone" <|
     match es.filter (fun e=>!seen.contains e.born) with
     | []=>.val TO h
     | e::l=>
      aI ((e::l).all fun e=>Nat.blt e.born since) "next - new entries"
       (.vals ((e::l).map fun e=>(vj e.key e.val,h.mod r (.oth (.iter (some m) since (seen++[e.born]) clock)))))
   | _=>.bad "next - no map"
  | _=>.bad "next - no iterator"
 | _=>.bad "next - not an iterator"
def mX (h:Hp):AV→ad
 | .one (.o (.it r))=>
  match h.get r with
  | some (.oth (.iter (some m) _ seen stepped))=>
   match h.get m with
   | some (.oth (.map es clock))=>
    match seen.getLast? with
    | some st=>
     aI (Nat.beq clock stepped) "entry - clock" <|
      match es.find? (fun e=>Nat.beq e.born st) with
      | some e=>.val (UA e.key e.val) h
      | none=>.bad "entry - gone"
    | none=>.bad "entry - no step"
   | _=>.bad "entry - no map"
  | _=>.bad "entry - no iterator"
 | _=>.bad "entry - not an iterator"
def jH (h:Hp) (sz:Nat):AV→Option (Nat×List AC)
 | .one (.o (.sl id g off len sz'))=>
  match Nat.beq sz' sz,eJ h id g off (Nat.mul len sz) (Nat.mul len sz) with
  | true,some c=>some (len,c)
  | _,_=>none
 | .one (.o .nilS)=>some (0,[])
 | _=>none
def dH (h:Hp) (e sz by_:Nat) (n:Nat) (c:List AC) (s:AV):ad:=
 match s with
 | .one (.o .nilS)=>
  ifE (Nat.beq n 0) (.val s h)
   (aI (both (Nat.ble n 140737488355328) (Nat.ble (Nat.mul n by_) 140737488355328)) "append - too much"
    (.val (.one (.o (.sl h.nx 0 0 n sz))) (h.new (.arr c e 0 0))))
 | .one (.o (.sl id g off len sz'))=>
  nh (h.get id) (.bad "append - no row") fun cells e' lo gen=>
   aI (both (Nat.beq sz' sz) (both (Nat.beq e' e) (both (Nat.ble lo g) (both (Nat.ble g gen) (both (Nat.ble (Nat.add off (Nat.mul len sz)) (bB cells))
     (both (Nat.ble (Nat.add len n) 140737488355328) (Nat.ble (Nat.mul (Nat.add len n) by_) 140737488355328))))))) "append - stale or too much"
    (ifE (Nat.beq n 0) (.val s h)
     (ifE (both (Nat.beq g gen) (both (Nat.beq off 0) (Nat.beq (Nat.mul len sz) (bB cells))))
      (.val (.one (.o (.sl id (Nat.add gen 1) 0 (Nat.add len n) sz))) (h.mod id (.arr (ng cells c) e lo (Nat.add gen 1))))
      (.val (.one (.o (.sl id (Nat.add gen 1) 0 (Nat.add len n) sz))) (h.mod id (.arr (ng (cut cells off (Nat.mul len sz)) c) e (Nat.add gen 1) (Nat.add gen 1))))))
 | _=>.bad "append - no slice"
def ba (P:Program) (h:Hp) (t:TypeId) (s x:AV):ad:=
 nd (bd P t) "append - type" fun es=>nd (cG P es.1) "append - bytes" fun by_=>nd (aA P es.1) "append - zero" fun z=>
  aI (both (!Nat.beq es.2 0) (Nat.beq (bB (ofValue z).cells) es.2)) "append - size 0" <|
   nd (jH h es.2 x) "append - what is appended" fun nc=>dH h es.1 es.2 by_ nc.1 nc.2 s
def Be (P:Program) (h:Hp) (t:TypeId) (d s:AV):ad:=
 nd (bd P t) "copy - type" fun es=>
  match d,s with
  | .one (.o (.sl id g off len sz1)),.one (.o (.sl id2 g2 off2 len2 sz2))=>
   aI (both (Nat.beq sz1 es.2) (Nat.beq sz2 es.2)) "copy - sizes" <|
    nd (eJ h id2 g2 off2 (Nat.mul len2 es.2) (Nat.mul (ifE (Nat.ble len2 len) len2 len) es.2)) "copy - source" fun c=>
     nh (h.get id) (.bad "copy - no row") fun cells e' lo gen=>
      aI (both (Nat.beq g gen) (both (Nat.ble (Nat.add off (Nat.mul (ifE (Nat.ble len2 len) len2 len) es.2)) (bB cells)) (Nat.ble lo gen))) "copy - stale"
       (.val (.one (.i .i64 (.ofNat (ifE (Nat.ble len2 len) len2 len)))) (h.mod id (.arr (eI cells off c) e' gen gen)))
  | .one (.o (.sl ..)),.one (.o .nilS)=>.val (.one (.i .i64 (.ofNat 0))) h
  | .one (.o .nilS),.one (.o (.sl ..))=>.val (.one (.i .i64 (.ofNat 0))) h
  | .one (.o .nilS),.one (.o .nilS)=>.val (.one (.i .i64 (.ofNat 0))) h
  | _,_=>.bad "copy - not slices"
def gA:List AV→Option (List (Nat×Nat×Nat×Nat))
 | []=>some []
 | .one (.o (.ptr id g off lim))::l=>match gA l with|some r=>some ((id,g,off,lim)::r)|none=>none
 | _::_=>none
def ez:List (Nat×Nat×Nat×Nat)→List AV
 | []=>[]
 | (id,g,off,lim)::l=>.one (.o (.ptr id g off lim))::ez l
def al (P:Program) (f:FuncId):Bool:=
 match P.funcs[f]? with
 | some fn=>fn.body.isSome
 | none=>false
def kz (P:Program) (f:AV) (args:List AV):ad:=
 Lv f (.bad "call - no function value") fun x=>
  AO.rec (motive:=fun _=>ad) (fun _=>.bad "call") (fun _=>.bad "call") (.bad "call - nil") (.bad "call - nil") (.bad "call - nil") (.bad "call - nil") (fun _ _ _ _=>.bad "call") (fun _ _ _ _ _=>.bad "call") (fun _=>.bad "call")
   (fun g caps=>aI (al P g) "call - no body" (.enter g (args++ez caps))) (fun id=>.round id args) (fun _=>.bad "call") x
def bj (x:AV):Value:=match x.val? with|some v=>v|none=>undef
def ax (P:Program) (tm:PT AV) (h:Hp) (o:Oper):ad:=
 aI (o.op.operands.toList.all (fun x=>(ev tm x).val?.isSome)) "plain - an address" <|
  match aB P (execOp (fun x=>bj (ev tm x)) o) with
  | some (.value v)=>aI (okV v) "plain - value" (.val (ofValue v) h)
  | _=>.bad "plain - no value"
def cH (place:Nat→Option (Nat×Nat)):List (Nat×Operand)→Option (List (Nat×Nat×OpF))
 | []=>some []
 | (i,x)::l=>
  match place i,cH place l with
  | some p,some r=>some ((p.1,p.2,opF x)::r)
  | _,_=>none
def eP (tm:PT AV) (parts:List (Nat×Nat×OpF)):List AC→Option (List AC):=
 List.rec (motive:=fun _=>List AC→Option (List AC)) (fun cells=>some cells)
  (fun x _ ih cells=>
   ifE (both (Nat.beq (bB (x.2.2.ev tm).cells) x.2.1) (both (Nat.ble (Nat.add x.1 x.2.1) (bB cells)) (x.2.2.ev tm).bw)) (ih (eI cells x.1 (x.2.2.ev tm).cells)) none) parts
def ck (P:Program) (t:TypeId):Option (Nat→Option (Nat×Nat)):=
 match P.underlying t with
 | some (.struct fs)=>
  match fs.toList.mapM (fun f=>(P.info? f.type).map fun i=>(f.offset,i.size)) with
  | some places=>some fun i=>places.toArray[i]?
  | none=>none
 | some (.array _ el)=>
  match P.info? el with
  | some ie=>some fun i=>some (i*ie.size,ie.size)
  | none=>none
 | _=>none
def mr (h:Hp) (z:List AC) (tm:PT AV) (parts:List (Nat×Nat×OpF)):ad:=nd (eP tm parts z) "build - fill" fun c=>.val (.agg c) h
def gV (h:Hp) (z:List AC) (tm:PT AV) (e sz len:Nat) (parts:List (Nat×Nat×OpF)):ad:=
 nd (eP tm parts z) "buildSlice - fill" fun c=>.val (.one (.o (.sl h.nx 0 0 len sz))) (h.new (.arr c e 0 0))
def cU (h:Hp) (sz':Nat) (x:AV) (lo hi:Option AV) (alt:ad):ad:=
 slE x alt fun id g off len sz=>
  nd (Av lo 0) "slice - low" fun l=>nd (Av hi len) "slice - high" fun r=>
   aI (both (Nat.beq sz sz') (both (Nat.ble l r) (Nat.ble r len))) "slice - out" (.val (.one (.o (.sl id g (Nat.add off (Nat.mul l sz)) (Nat.sub r l) sz))) h)
def cy (h:Hp) (x:AV) (i:Nat):ad:=
 avE x (fun _=>.bad "extract - no tuple") (fun _=>.bad "extract - no tuple") fun l=>
  Nat.rec (motive:=fun _=>List (Bool×List AC)→ad)
   (fun l=>List.rec (motive:=fun _=>ad) (.bad "extract") (fun x _ _=>
    ifE x.1 (.val (.agg x.2) h) (List.rec (motive:=fun _=>ad) (.bad "extract") (fun c m _=>List.rec (motive:=fun _=>ad) (.val (.one c) h) (fun _ _ _=>.bad "extract") m) x.2)) l)
   (fun _ ih l=>List.rec (motive:=fun _=>ad) (.bad "extract") (fun _ l' _=>ih l') l) i l
def cX (P:Program) (h:Hp) (t:TypeId) (l c:AV):ad:=
 nd (bd P t) "makeSlice - type" fun es=>nd (cG P es.1) "makeSlice - bytes" fun by_=>nd (aA P es.1) "makeSlice - zero" fun z=>
  er l (.bad "makeSlice - sizes unknown") fun _ n=>er c (.bad "makeSlice - sizes unknown") fun _ m=>nd (uM n) "makeSlice - negative" fun n=>nd (uM m) "makeSlice - negative" fun m=>
   aI (both (Nat.ble n m) (both (Nat.ble m 1073741824) (both (Nat.ble (Nat.mul m by_) 140737488355328) (Nat.beq (bB (ofValue z).cells) es.2)))) "makeSlice - sizes"
    (.val (.one (.o (.sl h.nx 0 0 n es.2))) (h.new (.arr (jn (ofValue z).cells m) es.1 0 0)))
def pj (h:Hp) (x:AV):ad:=
 match x with
 | .one (.o .nilM)=>.val (.one (.o (.it h.nx))) (h.new (.oth (.iter none 0 [] 0)))
 | .one (.o (.mp m))=>
  match h.get m with
  | some (.oth (.map _ clock))=>.val (.one (.o (.it h.nx))) (h.new (.oth (.iter (some m) clock [] clock)))
  | _=>.bad "range - no map"
 | _=>.bad "range - of what"
def dW (P:Program) (t:TypeId):Option Nat:=
 match P.underlying t with
 | some .string=>some 0
 | some (.slice _)=>some 1
 | some (.map _ _)=>some 2
 | _=>none
def GY (l:List UInt8):Nat:=List.rec (motive:=fun _=>Nat) 0 (fun _ _ ih=>Nat.add ih 1) l
def Af (n:Nat):AV:=.one (.i .i64 (.ofNat n))
def dN (h:Hp) (x:AV):ad:=
 match x with
 | .one (.o .nilM)=>.val (Af 0) h
 | .one (.o (.mp id))=>
  match h.get id with
  | some (.oth (.map es _))=>.val (Af es.length) h
  | _=>.bad "len - no map"
 | _=>.bad "len - not a map"
def PW (x:AV):Bool:=
 Lv x false fun x=>AO.rec (motive:=fun _=>Bool) (fun _=>false) (fun _=>false) false true false false (fun _ _ _ _=>false) (fun _ _ _ _ _=>false) (fun _=>false) (fun _ _=>false) (fun _=>false) (fun _=>false) x
def cR (h:Hp) (k:Nat) (x:AV):ad:=
 Nat.rec (motive:=fun _=>ad) (gH x (.bad "len - not a string") fun s=>.val (Af (GY s)) h)
  (fun k' _=>Nat.rec (motive:=fun _=>ad) (slE x (aI (PW x) "len - not a slice" (.val (Af 0) h)) fun _ _ _ len _=>.val (Af len) h) (fun _ _=>dN h x) k') k
def mW (h:Hp) (kd:Nat) (op:BinOp) (x y:AV) (alt:ad):ad:=
 match KK kd x y with
 | some b=>
  match op with
  | .eql=>.val (.one (.b b)) h
  | .neq=>.val (.one (.b (!b))) h
  | _=>.bad "binOp - addresses"
 | none=>alt
def jS (h:Hp) (f:BF) (k:IntKind) (a:Int) (k':IntKind) (b:Int) (alt:ad):ad:=
 ifE (sameKind k k') (BF.rec (motive:=fun _=>ad) (fun f=>.val (.one (.i k (f k a b))) h) (fun f=>.val (.one (.b (f a b))) h) alt f) alt
def jU (h:Hp) (kd:Nat) (op:BinOp) (x y:AV) (alt:ad):ad:=
 gH x (mW h kd op x y alt) fun a=>gH y alt fun b=>aw (Vx op) alt fun f=>.val (.one (.b (f a b))) h
def bF (h:Hp) (kd:Nat) (op:BinOp) (f:BF) (x y:AV) (alt:ad):ad:=
 avE x (fun c=>acE c (fun _=>alt) (fun k a=>er y alt fun k' b=>jS h f k a k' b alt) (fun _=>jU h kd op x y alt)) (fun _=>alt) (fun _=>alt)
def dq (h:Hp) (fo n:Nat) (x:AV):ad:=
 rh x (.bad "fieldAddr - no pointer") fun id g off lim=>
  aI (both (Nat.ble 1 n) (Nat.ble (Nat.add fo n) lim)) "fieldAddr - lim" (.val (.one (.o (.ptr id g (Nat.add off fo) (Nat.sub lim fo)))) h)
def bL (h:Hp) (sz':Nat) (x i:AV):ad:=
 slE x (.bad "indexAddr - no slice") fun id g off len sz=>er i (.bad "indexAddr - index") fun _ n=>nd (uM n) "indexAddr - negative" fun n=>
  aI (both (Nat.beq sz sz') (Nat.blt n len)) "indexAddr - out" (.val (.one (.o (.ptr id g (Nat.add off (Nat.mul n sz)) sz))) h)
def Sb (n:Nat):List UInt8→Option UInt8:=
 Nat.rec (motive:=fun _=>List UInt8→Option UInt8) (fun l=>List.rec (motive:=fun _=>Option UInt8) none (fun x _ _=>some x) l)
  (fun _ ih l=>List.rec (motive:=fun _=>Option UInt8) none (fun _ l' _=>ih l') l) n
def jX (h:Hp) (isStr:Bool) (x i:AV) (alt:ad):ad:=
 ifE isStr (gH x alt fun s=>er i alt fun _ n=>nd (uM n) "index - negative" fun n=>nd (Sb n s) "index - out" fun b=>.val (.one (.i .u8 (.ofNat b.toNat))) h) alt
def GP (h:Hp) (op:UnOp) (x:AV) (alt:ad):ad:=
 match op with
 | .not=>dM x alt fun b=>.val (.one (.b (!b))) h
 | _=>alt
def Ry (n:Nat) (l:List AC):Option AC:=List.rec (motive:=fun _=>Option AC) none (fun x _ _=>some x) (Eb n l)
def oU (h:Hp) (fo n:Nat) (a:Bool) (x:AV):ad:=
 avE x (fun _=>.bad "field - no struct") (fun l=>ifE a (aI (Nat.ble (Nat.add fo n) (bB l)) "field - part" (.val (.agg (cut l fo n)) h)) (nd (Ry fo l) "field - part" fun c=>.val (.one c) h)) (fun _=>.bad "field - no struct")
inductive SF where
 | mk (f:PT AV→Hp→ad)
def SF.run (s:SF):PT AV→Hp→ad:=SF.rec (motive:=fun _=>PT AV→Hp→ad) (fun f=>f) s
def evs (l:List Operand) (tm:PT AV):List AV:=List.rec (motive:=fun _=>List AV) [] (fun x _ ih=>(opF x).ev tm::ih) l
def jE (why:String):SF:=.mk fun _ _=>.bad why
def ndF {α:Type} (o:Option α) (why:String) (f:α→SF):SF:=Option.rec (motive:=fun _=>SF) (jE why) f o
def iF (P:Program) (o:Oper) (b:Builtin) (args:List Operand) (ts:List TypeId):SF:=
 match b,args,ts with
 | .append,[s,x],[t,t2]=>ifE (Nat.beq t t2) (.mk fun tm h=>ba P h t (ev tm s) (ev tm x)) (jE "append - types")
 | .copy,[d,s],[t,t2]=>ifE (Nat.beq t t2) (.mk fun tm h=>Be P h t (ev tm d) (ev tm s)) (jE "copy - types")
 | .len,[x],[t]=>ndF (dW P t) "len - type" fun k=>.mk fun tm h=>cR h k ((opF x).ev tm)
 | .min,_,_=>.mk fun tm h=>ax P tm h o
 | .max,_,_=>.mk fun tm h=>ax P tm h o
 | _,_,_=>jE "builtin"
def rD (P:Program) (o:Oper) (c:Call):SF:=
 match c.callee with
 | .value f=>.mk fun tm _=>kz P ((opF f).ev tm) (evs c.args.toList tm)
 | .builtin b=>iF P o b c.args.toList c.argTypes.toList
 | .invoke ..=>jE "invoke"
def ql (P:Program) (t:TypeId):Bool:=match P.underlying t with|some .string=>true|_=>false
def QJ (x:OpF):SF:=OpF.rec (motive:=fun _=>SF) (fun t=>.mk fun tm h=>.val (aw (tm.get t) aF fun v=>v) h) (fun v=>.mk fun _ h=>.val v h) x
def Tv (c a b:OpF):SF:=.mk fun tm h=>dM (c.ev tm) (.bad "pick") fun x=>.val (ifE x (a.ev tm) (b.ev tm)) h
def fT (h:Hp) (v:AV):ad:=
 Lv v (.bad "nilCheck") fun x=>
  AO.rec (motive:=fun _=>ad) (fun _=>.bad "nilCheck") (fun _=>.bad "nilCheck") (.bad "nilCheck") (.bad "nilCheck") (.bad "nilCheck") (.bad "nilCheck") (fun _ _ _ _=>.val v h) (fun _ _ _ _ _=>.bad "nilCheck") (fun _=>.bad "nilCheck")
   (fun _ _=>.val v h) (fun _=>.bad "nilCheck") (fun _=>.bad "nilCheck") x
def an (P:Program) (o:Oper):SF:=
 match o.op with
 | .move x=>QJ (opF x)
 | .assign x=>QJ (opF x)
 | .pick c a b=>Tv (opF c) (opF a) (opF b)
 | .alloc e=>ndF (aA P e) "alloc - zero" fun z=>.mk fun _ h=>gG h (ofValue z).cells e
 | .box e x=>.mk fun tm h=>aI ((opF x).ev tm).bw "box - a tuple" (gG h ((opF x).ev tm).cells e)
 | .build t parts=>ndF (aA P t) "build - zero" fun z=>ndF (ck P t) "build - type" fun pl=>ndF (cH pl parts.toList) "build - parts" fun ps=>.mk fun tm h=>mr h (ofValue z).cells tm ps
 | .buildSlice t len parts=>ndF (bd P t) "buildSlice - type" fun es=>ndF (aA P es.1) "buildSlice - zero" fun z=>
  ifE (both (Nat.ble (Nat.mul len es.2) 16777216) (Nat.beq (bB (ofValue z).cells) es.2))
   (ndF (cH (fun i=>some (i*es.2,es.2)) parts.toList) "buildSlice - parts" fun ps=>.mk fun tm h=>gV h (jn (ofValue z).cells len) tm es.1 es.2 len ps) (jE "buildSlice - too much")
 | .load t a=>ndF (loadT P t) "load - type" fun p=>.mk fun tm h=>bT h p.1 p.2 ((opF a).ev tm)
 | .store t a x=>ndF (aV P t) "store - type" fun n=>.mk fun tm h=>fw h n ((opF x).ev tm) ((opF a).ev tm)
 | .nilCheck x=>.mk fun tm h=>fT h ((opF x).ev tm)
 | .binOp op t x y _=>.mk fun tm h=>bF h (aU P t) op (fz op) ((opF x).ev tm) ((opF y).ev tm) (ax P tm h o)
 | .fieldAddr s x f=>ndF (aG P s f) "fieldAddr - type" fun p=>.mk fun tm h=>dq h p.1 p.2.2 ((opF x).ev tm)
 | .field t x f=>ndF (aG P t f) "field - type" fun p=>ndF (mf P p.2.1) "field - type" fun a=>.mk fun tm h=>oU h p.1 p.2.2 a ((opF x).ev tm)
 | .indexAddr t x i=>ndF (bd P t) "indexAddr - type" fun p=>.mk fun tm h=>bL h p.2 ((opF x).ev tm) ((opF i).ev tm)
 | .slice t x lo hi mx=>
  match mx with
  | none=>
   match bd P t with
   | some p=>.mk fun tm h=>cU h p.2 ((opF x).ev tm) (lo.map (ev tm)) (hi.map (ev tm)) (ax P tm h o)
   | none=>.mk fun tm h=>ax P tm h o
  | some _=>jE "slice - three"
 | .extract x i=>.mk fun tm h=>cy h ((opF x).ev tm) i
 | .makeFunc fn first caps=>
  match fn with
  | .func f=>ifE first.isEmpty (.mk fun tm h=>nd (gA (evs caps.toList tm)) "makeFunc - captured" fun cs=>.val (.one (.o (.clo f cs))) h) (jE "makeFunc - bound")
  | _=>jE "makeFunc - kind"
 | .makeMap _ r=>
  match r with
  | none=>.mk fun _ h=>.val (.one (.o (.mp h.nx))) (h.new (.oth (.map [] 0)))
  | some _=>jE "makeMap - hint"
 | .makeSlice t l c=>.mk fun tm h=>cX P h t (ev tm l) (ev tm c)
 | .lookup t m k ok=>ndF (ib P t) "lookup - type" fun p=>ndF (aA P p.2) "lookup - zero" fun z=>.mk fun tm h=>bg P h p.1 (ofValue z) (ev tm m) (ev tm k) ok
 | .mapUpdate t m k x=>ndF (ib P t) "mapUpdate - type" fun p=>.mk fun tm h=>aW P h p.1 (ev tm m) (ev tm k) (ev tm x)
 | .insert t m k x=>ndF (ib P t) "insert - type" fun p=>.mk fun tm h=>aW P h p.1 (ev tm m) (ev tm k) (ev tm x)
 | .range t x=>ndF (ib P t) "range - type" fun _=>.mk fun tm h=>pj h (ev tm x)
 | .next x b=>
  match b with
  | true=>jE "next - string"
  | false=>.mk fun tm h=>qs h (ev tm x)
 | .entry x=>.mk fun tm h=>mX h (ev tm x)
 | .call c=>rD P o c
 | .unOp op _ x=>.mk fun tm h=>GP h op ((opF x).ev tm) (ax P tm h o)
 | .convert ..=>.mk fun tm h=>ax P tm h o
 | .index t x i=>.mk fun tm h=>jX h (ql P t) (ev tm x) (ev tm i) (ax P tm h o)
 | _=>jE "operation"
def OO (P:Program) (tm:PT AV) (h:Hp) (o:Oper):ad:=(an P o).run tm h
structure ab where
 tm:PT AV
 nt:Nat
 dfr:List Nat
def ab.put (a:ab) (d:Tmp) (v:AV):ab:=⟨a.tm.set d v,a.nt,a.dfr⟩
structure Rec where
 code:Option Nat→Code→ab→Hp→R (aD×ab×Hp)
 call:FuncId→List AV→Hp→R (AV×Hp)
def gOf (ops:List Oper):Option (Nat×Bool)→Option (Option Tmp×Bool)
 | none=>none
 | some (j,w)=>
  match ops[j]? with
  | none=>some (none,w)
  | some o=>some (o.dst,w)
def bz (tm:PT AV) (g:Option (Option Tmp×Bool)) (yes no:R (ab×Hp)):R (ab×Hp):=
 aw g yes fun p=>aw p.1 no fun t=>aw (tm.get t) no fun v=>
  AV.rec (motive:=fun _=>R (ab×Hp)) (fun c=>acE c (fun b=>ifE b (ifE p.2 yes no) (ifE p.2 no yes)) (fun _ _=>no) (fun _=>.bad "guard")) (fun _=>no) (fun _=>no) (.bad "guard") v
structure OF where
 g:Option (Option Tmp×Bool)
 dst:Option Tmp
 f:SF
 o:Oper
def fD (P:Program) (ops:List Oper) (l:List Oper):List OF:=
 List.rec (motive:=fun _=>List OF) [] (fun o _ ih=>⟨gOf ops o.guard,o.dst,an P o,o⟩::ih) l
def qO (P:Program) (ops:Array Oper):List OF:=fD P ops.toList ops.toList
def setArgs (l:List AV):Nat→PT AV→PT AV:=
 List.rec (motive:=fun _=>Nat→PT AV→PT AV) (fun _ t=>t) (fun v _ ih k t=>ih (Nat.add k 1) (t.set k v)) l
def eB:List Tmp→List AV→PT AV→PT AV
 | p::ps,v::vs,t=>eB ps vs (t.set p v)
 | _,_,t=>t
def pk {α:Type} (l:List α):Nat:=l.length
def iM (id:Nat) (x:aD×ab×Hp):R (AV×Hp):=
 match x.2.1.dfr,x.2.2.get id with
 | [],some (.oth (.loop _ _ tm nt ps as bo d))=>
  match x.1 with
  | .normal=>.ok [(.one (.b true),x.2.2.mod id (.oth (.loop .ready none tm nt ps as bo d)))]
  | .ret=>.ok [(.one (.b false),x.2.2.mod id (.oth (.loop .done (some .ret) tm nt ps as bo d)))]
  | .exit k=>.ok [(.one (.b false),x.2.2.mod id (.oth (.loop .done (some (.exit k)) tm nt ps as bo d)))]
 | _,_=>.bad "round - its end"
def ef (rec:Rec) (id:Nat) (body:Code) (x:aD×ab×Hp):R (AV×Hp):=
 match x.1,x.2.2.get id with
 | .normal,some (.oth (.loop .ready pe tm nt ps as bo d))=>
  (rec.code (some id) body x.2.1 (x.2.2.mod id (.oth (.loop .busy pe tm nt ps as bo d)))).bind (iM id)
 | _,_=>.bad "round - assignments"
def fu (rec:Rec) (id:Nat) (args:List AV) (h:Hp):R (AV×Hp):=
 match h.get id with
 | some (.oth (.loop .ready _ tm nt params assign body _))=>
  ifE (both (Nat.beq (pk args) (pk params)) (params.all fun p=>Nat.blt p nt))
   ((rec.code (some id) assign ⟨eB params args tm,nt,[]⟩ h).bind (ef rec id body)) (.bad "round - arguments")
 | _=>.bad "round - no loop that is ready"
structure Env where
 P:Program
 fh:FuncId→List AV→Option AV
def lG (E:Env) (rec:Rec) (f:FuncId) (args:List AV) (h:Hp):R (AV×Hp):=
 aw (E.fh f args) (rec.call f args h) fun v=>.ok [(v,h)]
def iK (E:Env) (rec:Rec) (h:Hp) (n:ad):R (AV×Hp):=
 ad.rec (motive:=fun _=>R (AV×Hp)) (fun v h'=>.ok [(v,h')]) (fun l=>.ok l) (fun f args=>lG E rec f args h) (fun id args=>fu rec id args h) (fun s=>.bad s) n
def MU (E:Env) (rec:Rec) (tm:PT AV) (h:Hp) (f:SF):R (AV×Hp):=iK E rec h (f.run tm h)
def fF (a:ab) (dst:Option Tmp) (v:AV) (h:Hp) (k:ab→Hp→R (ab×Hp)):R (ab×Hp):=
 aw dst (k a h) fun d=>ifE (Nat.blt d a.nt) (k (a.put d v) h) (.bad "slot")
def nk (E:Env) (rec:Rec) (a:ab) (dst:Option Tmp) (h:Hp) (k:ab→Hp→R (ab×Hp)) (n:ad):R (ab×Hp):=
 ad.rec (motive:=fun _=>R (ab×Hp)) (fun v h'=>fF a dst v h' k) (fun l=>cD (fun x=>fF a dst x.1 x.2 k) l) (fun f args=>(lG E rec f args h).bind fun x=>fF a dst x.1 x.2 k)
  (fun id args=>(fu rec id args h).bind fun x=>fF a dst x.1 x.2 k) (fun s=>.bad s) n
def eZ (E:Env) (rec:Rec) (l:List OF):ab→Hp→R (ab×Hp):=
 List.rec (motive:=fun _=>ab→Hp→R (ab×Hp)) (fun a h=>.ok [(a,h)])
  (fun o _ ih a h=>bz a.tm o.g (nk E rec a o.dst h ih (o.f.run a.tm h)) (fF a o.dst aF h ih)) l
def eU (e:Edge):Bool:=match e.ground with|.textOnly _=>false|.gcOnly _=>false|_=>true
def iI (acc:List Nat) (j:Nat):List Edge→Nat
 | []=>0
 | e::es=>bif eU e&&Nat.blt e.on j then Nat.lor (Nat.lor (Nat.shiftLeft 1 e.on) (acc.getD e.on 0)) (iI acc j es) else iI acc j es
def dO:List Nat→Nat→List Oper→List Nat
 | acc,_,[]=>acc
 | acc,j,o::os=>dO (acc++[iI acc j o.after.toList]) (Nat.add j 1) os
def UJ:Operand→Option Nat
 | .tmp t=>some t
 | _=>none
def xZ (ops:Array Oper):Option (Nat×Bool)→List Nat
 | none=>[]
 | some (j,_)=>
  match ops[j]? with
  | none=>[]
  | some oj=>
   match oj.dst with
   | some d=>[d]
   | none=>[]
def slotsOf (ops:Array Oper) (o:Oper):List Nat:=o.op.operands.toList.filterMap UJ++xZ ops o.guard
def Ca (l:List Nat) (i:Nat):Bool:=
 match l with
 | []=>false
 | x::l=>bif Nat.beq x i then true else Ca l i
def xH (ops:Array Oper) (x y:Oper):Bool:=
 (match x.dst with|some d=>Ca (slotsOf ops y) d||(match y.dst with|some d'=>Nat.beq d d'|none=>false)|none=>false) ||
 (match y.dst with|some d=>Ca (slotsOf ops x) d|none=>false)
def lj (ops:Array Oper) (m:Nat) (y:Oper):Nat→List Oper→Bool
 | _,[]=>true
 | i,x::xs=>(Nat.testBit m i||!xH ops x y)&&lj ops m y (Nat.add i 1) xs
def mF (ops:Array Oper) (before:List Oper):List Oper→List Nat→Bool
 | [],_=>true
 | o::os,m::ms=>lj ops m o 0 before&&mF ops (before++[o]) os ms
 | _::_,[]=>false
def jx:Nat→List Oper→Bool
 | _,[]=>true
 | j,o::os=>(o.after.toList.all fun e=>Nat.blt e.on j||!eU e)&&jx (Nat.add j 1) os
def dQ (ops:Array Oper):Bool:=mF ops [] ops.toList (dO [] 0 ops.toList)&&jx 0 ops.toList
structure Did where
 idx:Nat
 U2:PT aJ
 c0:Nat
 c1:Nat
 wr:List Nat
def AO.ids:AO→List Nat
 | .ptr id ..=>[id]
 | .sl id ..=>[id]
 | .mp id=>[id]
 | .clo _ cs=>cs.map fun c=>c.1
 | .yl id=>[id]
 | .it id=>[id]
 | _=>[]
def AC.ids:AC→List Nat
 | .o x=>x.ids
 | _=>[]
def AV.ids:AV→List Nat
 | .one c=>c.ids
 | .agg l=>l.flatMap AC.ids
 | .tup l=>l.flatMap fun x=>x.2.flatMap AC.ids
 | .any=>[]
def eO (o:Oper):Bool:=
 match o.op with
 | .call c=>match c.callee with|.value _=>true|_=>false
 | _=>false
def ME (o:Oper):Bool:=
 match o.op with
 | .load ..=>true
 | .store ..=>true
 | .lookup ..=>true
 | .mapUpdate ..=>true
 | .insert ..=>true
 | .range ..=>true
 | .next ..=>true
 | .entry ..=>true
 | .call _=>true
 | _=>false
def aZ (o:Oper):Nat:=bif eO o then 2 else bif ME o then 1 else 0
def cx (a:Nat):Nat→List Nat
 | 0=>[]
 | n+1=>a::cx (Nat.add a 1) n
def bO (u:Did) (i:Nat):Bool:=Ca u.wr i||(Nat.ble u.c0 i&&Nat.blt i u.c1)
def jo (t:PT aJ):List Nat→PT aJ
 | []=>t
 | i::l=>jo (t.del i) l
def bW (t src:PT aJ):List Nat→PT aJ
 | []=>t
 | i::l=>bW (PT.put (src.get i) t i) src l
def dg (u:Did):List Nat:=u.wr++cx u.c0 (Nat.sub u.c1 u.c0)
def dT (t:PT aJ):List Nat→List Nat
 | []=>[]
 | i::l=>match t.get i with
  | some (.oth (.iter (some m) _ _ _))=>i::m::dT t l
  | _=>i::dT t l
def aH (t:PT aJ) (nx:Nat) (tm:PT AV) (o:Oper) (us:List Did):PT aJ:=
 match aZ o with
 | 0=>.leaf
 | 1=>bW .leaf t ((dT t (o.op.operands.toList.flatMap fun x=>(ev tm x).ids)).filter fun i=>Nat.blt i nx&&!us.any (bO · i))
 | _=>jo t (us.flatMap dg)
def aE (m:Nat) (did:List Did):List Did:=
 List.rec (motive:=fun _=>List Did) [] (fun u _ ih=>ifE (Nat.testBit m u.idx) ih (u::ih)) did
def tp (U2:PT aJ) (wr:List Nat):Bool:=List.rec (motive:=fun _=>Bool) true (fun i _ ih=>aw (U2.get i) ih fun _=>false) wr
def dU (us:List Did) (wr:List Nat):Bool:=List.rec (motive:=fun _=>Bool) true (fun u _ ih=>both (tp u.U2 wr) ih) us
def cP (sub:PT aJ) (n:Nat) (l:List Nat):List Nat:=
 List.rec (motive:=fun _=>List Nat) [] (fun i _ ih=>ifE (Nat.blt i n) (aw (sub.get i) ih fun _=>i::ih) ih) l
def cF (k:Nat) (h:Hp) (h':Hp) (us:List Did) (wr:List Nat):PT aJ:=
 Nat.rec (motive:=fun _=>PT aJ) (bW h.t h'.t (cx h.nx (Nat.sub h'.nx h.nx)))
  (fun k' _=>Nat.rec (motive:=fun _=>PT aJ) (bW h.t h'.t (wr++cx h.nx (Nat.sub h'.nx h.nx))) (fun _ _=>bW h'.t h.t (us.flatMap dg)) k') k
def note (k j:Nat) (sub:PT aJ) (h h':Hp) (did:List Did) (wr:List Nat):List Did:=
 ifE (both (Nat.beq k 0) (Nat.beq h.nx h'.nx)) did (⟨j,sub,h.nx,h'.nx,wr⟩::did)
def Sp (k j:Nat) (a:ab) (dst:Option Tmp) (h:Hp) (sub:PT aJ) (us did:List Did) (K:List Did→ab→Hp→R (ab×Hp)) (x:AV×Hp) (wr:List Nat):R (ab×Hp):=
 ifE (dU us wr)
  (fF a dst x.1 ⟨cF k h x.2 us wr,x.2.nx,wr++h.log⟩ (K (note k j sub h x.2 did wr)))
  (.bad "draw - two operations that may change places touch one object")
def uD (k j:Nat) (a:ab) (dst:Option Tmp) (h:Hp) (sub:PT aJ) (us did:List Did) (K:List Did→ab→Hp→R (ab×Hp)) (x:R (AV×Hp)):R (ab×Hp):=
 R.rec (motive:=fun _=>R (ab×Hp))
  (fun l=>List.rec (motive:=fun _=>R (ab×Hp)) (.bad "draw - no way")
   (fun x l' _=>List.rec (motive:=fun _=>R (ab×Hp)) (Sp k j a dst h sub us did K x (cP sub h.nx x.2.log))
    (fun _ _ _=>.bad "draw - several ways") l') l)
  (fun s=>.bad s) x
def cN (E:Env) (rec:Rec) (l:List OF):Nat→List Nat→List Did→ab→Hp→R (ab×Hp):=
 List.rec (motive:=fun _=>Nat→List Nat→List Did→ab→Hp→R (ab×Hp)) (fun _ _ _ a h=>.ok [(a,h)])
  (fun o _ ih j ms did a h=>
   List.rec (motive:=fun _=>R (ab×Hp)) (.bad "draw - masks")
    (fun m ms' _=>
     bz a.tm o.g
      (uD (aZ o.o) j a o.dst h (aH h.t h.nx a.tm o.o (aE m did)) (aE m did) did (ih (Nat.add j 1) ms')
       (MU E rec a.tm ⟨aH h.t h.nx a.tm o.o (aE m did),h.nx,[]⟩ o.f))
      (fF a o.dst aF h (ih (Nat.add j 1) ms' did))) ms) l
inductive CF where
 | mk (f:Rec→Option Nat→ab→Hp→R (aD×ab×Hp))
def CF.run (c:CF):Rec→Option Nat→ab→Hp→R (aD×ab×Hp):=CF.rec (motive:=fun _=>Rec→Option Nat→ab→Hp→R (aD×ab×Hp)) (fun f=>f) c
def exE {β:Type} (e:aD) (n:β) (x:Nat→β) (r:β):β:=aD.rec (motive:=fun _=>β) n x r e
def vm (f:CF) (rec:Rec) (r:Option Nat) (x:aD×ab×Hp):R (aD×ab×Hp):=exE x.1 (f.run rec r x.2.1 x.2.2) (fun _=>.ok [x]) (.ok [x])
def uu (id:Nat) (x:aD×ab×Hp):R (aD×ab×Hp):=exE x.1 (.ok [x]) (fun k=>ifE (Nat.beq k id) (.ok [(.normal,x.2)]) (.ok [x])) (.ok [x])
def Gx (rec:Rec) (r:Option Nat) (c:Code) (x:aD×ab×Hp):R (aD×ab×Hp):=exE x.1 (rec.code r (.loop c) x.2.1 x.2.2) (fun _=>.ok [x]) (.ok [x])
def fk (x:ab×Hp):R (aD×ab×Hp):=.ok [(.normal,x)]
def kT (r:Option Nat) (a:ab) (h:Hp):Option (Nat×Hp×ab):=
 match r with
 | none=>some (h.nx,h.new (.oth (.dfr true)),⟨a.tm,a.nt,h.nx::a.dfr⟩)
 | some l=>
  match h.get l with
  | some (.oth (.loop _ _ _ _ _ _ _ d))=>some (d,h,a)
  | _=>none
def ee (l:Nat) (a1:ab) (x:AV×Hp):R (aD×ab×Hp):=
 match x.2.get l with
 | some (.oth (.loop st pe tm nt ps as bo d))=>
  match st with
  | .busy=>.bad "rangeFunc - busy"
  | _=>
   match pe with
   | none=>.ok [(.normal,a1,x.2.mod l (.oth (.loop .exhausted pe tm nt ps as bo d)))]
   | some .ret=>.ok [(.ret,a1,x.2.mod l (.oth (.loop .exhausted pe tm nt ps as bo d)))]
   | some (.exit k)=>.ok [(.exit k,a1,x.2.mod l (.oth (.loop .exhausted pe tm nt ps as bo d)))]
   | some _=>.bad "rangeFunc - jump"
 | _=>.bad "rangeFunc - no record"
def fW (E:Env) (rec:Rec) (r:Option Nat) (f:OpF) (params:List Tmp) (assign body:Code) (a:ab) (h:Hp):R (aD×ab×Hp):=
 match kT r a h with
 | none=>.bad "rangeFunc - no loop around"
 | some (d,h1,a1)=>
  match f.ev a.tm with
  | .one (.o (.clo g caps))=>
   ifE (al E.P g) ((rec.call g (.one (.o (.yl h1.nx))::ez caps) (h1.new (.oth (.loop .ready none a.tm a.nt params assign body d)))).bind (ee h1.nx a1)) (.bad "rangeFunc - no body")
  | _=>.bad "rangeFunc - no function"
def codeF (E:Env) (c:Code):CF:=
 Code.rec (motive:=fun _=>CF)
  (.mk fun _ _ a h=>.ok [(.normal,a,h)])
  (fun _ ops draw=>Bool.rec (motive:=fun _=>CF) (.mk fun rec _ a h=>(eZ E rec (qO E.P ops) a h).bind fk)
    (ifE (dQ ops) (.mk fun rec _ a h=>(cN E rec (qO E.P ops) 0 (dO [] 0 ops.toList) [] a h).bind fk) (.mk fun _ _ _ _=>.bad "draw - slots")) draw)
  (fun _ _ fx fy=>.mk fun rec r a h=>(fx.run rec r a h).bind (vm fy rec r))
  (fun c _ _ fx fy=>.mk fun rec r a h=>dM ((opF c).ev a.tm) (.bad "cond") fun b=>ifE b (fx.run rec r a h) (fy.run rec r a h))
  (fun id _ fx=>.mk fun rec r a h=>(fx.run rec r a h).bind (uu id))
  (fun c fx=>.mk fun rec r a h=>(fx.run rec r a h).bind (Gx rec r c))
  (fun f params assign body _ _=>.mk fun rec r a h=>fW E rec r (opF f) params.toList assign body a h)
  (fun id=>.mk fun _ _ a h=>.ok [(.exit id,a,h)])
  (fun _ fx=>fx)
  (fun _=>.mk fun _ _ a h=>.ok [(.normal,a,h)])
  (fun _=>.mk fun _ _ _ _=>.bad "goto")
  (.mk fun _ _ a h=>.ok [(.ret,a,h)])
  (fun _=>.mk fun _ _ _ _=>.bad "refuse") c
def Ua (E:Env) (rec:Rec) (r:Option Nat) (c:Code) (a:ab) (h:Hp):R (aD×ab×Hp):=(codeF E c).run rec r a h
def closeAll (h:Hp):List Nat→Option Hp
 | []=>some h
 | d::ds=>match h.get d with
  | some (.oth (.dfr true))=>closeAll (h.mod d (.oth (.dfr false))) ds
  | _=>none
def fg (v:AV):Option (Bool×List AC):=avE v (fun c=>some (false,[c])) (fun l=>some (true,l)) (fun _=>none)
def iv (P:Program) (x:ResultVar):PT AV→Hp→Option (Bool×List AC):=
 match x with
 | .tmp t=>fun tm _=>aw (tm.get t) none fg
 | .cell a t=>
  match loadT P t with
  | some p=>fun tm h=>aw (tm.get a) none fun v=>ad.rec (motive:=fun _=>Option (Bool×List AC)) (fun v _=>fg v) (fun _=>none) (fun _ _=>none) (fun _ _=>none) (fun _=>none) (bT h p.1 p.2 v)
  | none=>fun _ _=>none
def bc (P:Program) (l:List ResultVar) (tm:PT AV) (h:Hp):Option (List (Bool×List AC)):=
 List.rec (motive:=fun _=>Option (List (Bool×List AC))) (some []) (fun r _ ih=>aw (iv P r tm h) none fun x=>aw ih none fun l=>some (x::l)) l
def cY:List (Bool×List AC)→AV
 | [(true,l)]=>.agg l
 | [(false,[c])]=>.one c
 | l=>.tup l
inductive FF where
 | mk (c:CF) (nt:Nat) (res:List ResultVar)
 | no
def Pw (E:Env) (f:FuncId):FF:=
 match E.P.funcs[f]? with
 | some fn=>
  match fn.body with
  | some c=>.mk (codeF E c) fn.ntmps fn.results.toList
  | none=>.no
 | none=>.no
def aC (E:Env) (res:List ResultVar) (x:aD×ab×Hp):R (AV×Hp):=
 exE x.1
  (aw (closeAll x.2.2 x.2.1.dfr) (.bad "marks") fun h2=>aw (bc E.P res x.2.1.tm h2) (.bad "results") fun l=>.ok [(cY l,h2)])
  (fun _=>.bad "exit")
  (aw (closeAll x.2.2 x.2.1.dfr) (.bad "marks") fun h2=>aw (bc E.P res x.2.1.tm h2) (.bad "results") fun l=>.ok [(cY l,h2)])
def lI:List (AV×Hp)→Nat
 | []=>0
 | x::l=>Nat.max x.2.nx (lI l)
def UZ (o:aJ):aJ:=aJ.casesOn (motive:=fun _=>aJ) o (fun c e _ gen=>.arr c e gen gen) (fun x=>.oth x) (fun c=>.ro c)
def ig (n id:Nat) (o:Option aJ):Option aJ:=if id<n then o else o.map UZ
def ru (n:Nat) (t src:PT aJ):List Nat→PT aJ
 | []=>t
 | i::l=>ru n (PT.put (ig n i (src.get i)) t i) src l
open Classical in
def pt (n:Nat) (l:List (AV×Hp)) (t:PT aJ) (id:Nat):Bool:=decide (∀ x∈l,ig n id (x.2.t.get id)=ig n id (t.get id))
def tA (h h':Hp):List Nat:=h'.log.take (h'.log.length - h.log.length)
def CO (h:Hp) (l:List (AV×Hp)) (t:PT aJ):Hp:=
 ⟨ru h.nx .leaf t ((cx 0 (lI l)).filter (pt h.nx l t)),lI l,l.flatMap (fun x=>tA h x.2)++h.log⟩
open Classical in
def TP (h:Hp) (l:List (AV×Hp)) (x:AV×Hp):List (AV×Hp):=
 if ∀ z∈l,z.1=x.1∧∀ id,id<h.nx→z.2.t.get id=x.2.t.get id then [(x.1,CO h l x.2.t)] else l
def tr (h:Hp) (l:List (AV×Hp)):List (AV×Hp):=
 List.rec (motive:=fun _=>List (AV×Hp)) [] (fun x l' _=>List.rec (motive:=fun _=>List (AV×Hp)) [x] (fun y l'' _=>TP h (x::y::l'') x) l') l
def su (h:Hp) (r:R (AV×Hp)):R (AV×Hp):=R.rec (motive:=fun _=>R (AV×Hp)) (fun l=>.ok (tr h l)) (fun s=>.bad s) r
def ji (E:Env) (rec:Rec) (f:FuncId) (args:List AV) (h:Hp):R (AV×Hp):=
 FF.rec (motive:=fun _=>R (AV×Hp))
  (fun c nt res=>ifE (both (Nat.ble (pk args) nt) (Nat.ble nt 1048576)) (su h ((c.run rec none ⟨setArgs args 0 .leaf,nt,[]⟩ h).bind (aC E res))) (.bad "too many arguments"))
  (.bad "no function") (Pw E f)
def eval (E:Env) (n:Nat):Rec:=
 Nat.rec (motive:=fun _=>Rec) ⟨fun _ _ _ _=>.bad "fuel", fun _ _ _=>.bad "fuel"⟩
  (fun _ ih=>⟨fun r c a h=>Ua E ih r c a h,fun f args h=>ji E ih f args h⟩) n
theorem ou {n:Nat} (h:¬n=0):Nat.beq n 0=false:=by
 cases n with
 | zero=>exact absurd rfl h
 | succ n=>rfl
section
variable {α:Type}
theorem PT.ly (n:Nat):(PT.leaf:PT α).get n=none:=rfl
theorem PT.eK (l r:PT α) (v:Option α):(PT.node l v r).get 0=v:=rfl
theorem PT.cm (l r:PT α) (v:Option α) (k:Nat):(PT.node l v r).get (k+1)=if k % 2=0 then l.get (k / 2) else r.get (k / 2):=by
 show Bool.rec (motive:=fun _=>Option α) (r.get (Nat.div k 2)) (l.get (Nat.div k 2)) (Nat.beq (Nat.mod k 2) 0)=_;have e1:Nat.mod k 2=k % 2:=rfl;have e2:Nat.div k 2=k / 2:=rfl;rw[e1,e2];by_cases h:k % 2=0
 ·rw[zB0 h,h];rfl
 rw[zB1 h];have:Nat.beq (k % 2) 0=false:=ou h;rw[this]
theorem PT.mk_zero (a:Option α) (n:Nat):PT.mk a 0 n=.node .leaf a .leaf:=rfl
theorem PT.Hs (a:Option α) (f:Nat):PT.mk a f 0=.node .leaf a .leaf:=by cases f <;> rfl
theorem PT.Sx (a:Option α) (f k:Nat):PT.mk a (f+1) (k+1)=if k % 2=0 then .node (PT.mk a f (k / 2)) none .leaf else .node .leaf none (PT.mk a f (k / 2)):=by
 show Bool.rec (motive:=fun _=>PT α) (.node .leaf none (PT.mk a f (Nat.div k 2))) (.node (PT.mk a f (Nat.div k 2)) none .leaf) (Nat.beq (Nat.mod k 2) 0)=_;have e1:Nat.mod k 2=k % 2:=rfl;have e2:Nat.div k 2=k / 2:=rfl;rw[e1,e2];by_cases h:k % 2=0
 ·rw[zB0 h,h];rfl
 rw[zB1 h];have:Nat.beq (k % 2) 0=false:=ou h;rw[this]
theorem PT.Uh (a:Option α):∀ (f n m:Nat),n<2 ^ f→(PT.mk a f n).get m=if m=n then a else none:=by
 intro f;induction f with
 | zero=>
  intro n m h;have:n=0:=by simpa using h
  subst this;cases m with
  | zero=>simp[PT.mk_zero,PT.eK]
  | succ k=>simp[PT.mk_zero,PT.cm,PT.ly]
 | succ f ih=>
  intro n m h;cases n with
  | zero=>
   rw[PT.Hs];cases m with
   | zero=>simp[PT.eK]
   | succ k=>simp[PT.cm,PT.ly]
  | succ k=>
   have hk:k / 2<2 ^ f:=by rw[Nat.pow_succ] at h;omega
   rw[PT.Sx];cases m with
   | zero=>split <;> simp[PT.eK]
   | succ j=>
    by_cases hp:k % 2=0
    ·rw[zB0 hp,PT.cm];by_cases hj:j % 2=0
     ·rw[zB0 hj,ih _ _ hk];by_cases e:j=k
      ·subst e;simp
      rw[zB1 (by omega),zB1 (by omega)]
     rw[zB1 hj,PT.ly,zB1 (by omega)]
    rw[zB1 hp,PT.cm];by_cases hj:j % 2=0
    ·rw[zB0 hj,PT.ly,zB1 (by omega)]
    rw[zB1 hj,ih _ _ hk];by_cases e:j=k
    ·subst e;simp
    rw[zB1 (by omega),zB1 (by omega)]
theorem PT.PE (a:Option α) (n:Nat):PT.put a .leaf n=PT.mk a n n:=rfl
theorem PT.vZ (a:Option α) (l r:PT α) (v:Option α):PT.put a (.node l v r) 0=.node l a r:=rfl
theorem PT.wc (a:Option α) (l r:PT α) (v:Option α) (k:Nat):PT.put a (.node l v r) (k+1)=if k % 2=0 then .node (PT.put a l (k / 2)) v r else .node l v (PT.put a r (k / 2)):=by
 show Bool.rec (motive:=fun _=>PT α) (.node l v (PT.put a r (Nat.div k 2))) (.node (PT.put a l (Nat.div k 2)) v r) (Nat.beq (Nat.mod k 2) 0)=_;have e1:Nat.mod k 2=k % 2:=rfl;have e2:Nat.div k 2=k / 2:=rfl;rw[e1,e2];by_cases h:k % 2=0
 ·rw[zB0 h,h];rfl
 rw[zB1 h];have:Nat.beq (k % 2) 0=false:=ou h;rw[this]
theorem PT.pC (a:Option α) (t:PT α):∀ (n m:Nat),(PT.put a t n).get m=if m=n then a else t.get m:=by
 induction t with
 | leaf=>intro n m;rw[PT.PE,PT.Uh a n n m Nat.lt_two_pow_self,PT.ly]
 | node l v r ihl ihr=>
  intro n m;cases n with
  | zero=>
   rw[PT.vZ];cases m with
   | zero=>simp[PT.eK]
   | succ k=>simp[PT.cm]
  | succ k=>
   rw[PT.wc];cases m with
   | zero=>split <;> simp[PT.eK]
   | succ j=>
    by_cases hp:k % 2=0
    ·rw[zB0 hp,PT.cm,PT.cm];by_cases hj:j % 2=0
     ·rw[zB0 hj,zB0 hj,ihl];by_cases e:j=k
      ·subst e;simp
      rw[zB1 (by omega),zB1 (by omega)]
     rw[zB1 hj,zB1 hj,zB1 (by omega)]
    rw[zB1 hp,PT.cm,PT.cm];by_cases hj:j % 2=0
    ·rw[zB0 hj,zB0 hj,zB1 (by omega)]
    rw[zB1 hj,zB1 hj,ihr];by_cases e:j=k
    ·subst e;simp
    rw[zB1 (by omega),zB1 (by omega)]
theorem PT.tg (a:Option α) (t:PT α) (n m:Nat) (_:n<n+1):(PT.put a t n).get m=if m=n then a else t.get m:=PT.pC a t n m
theorem PT.mH (t:PT α) (n m:Nat) (a:α) (h:n<n+1):(t.set n a).get m=if m=n then some a else t.get m:=PT.tg _ _ _ _ h
theorem PT.da (t:PT α) (n m:Nat) (a:α):(t.set n a).get m=if m=n then some a else t.get m:=PT.pC _ _ _ _
end
theorem bN {β:Type} (b:Bool) (x y:β):ifE b x y=if b=true then x else y:=by cases b <;> rfl
theorem MK {α β:Type} (e:β) (f:α→β):aw none e f=e:=rfl
theorem wC {α β:Type} (a:α) (e:β) (f:α→β):aw (some a) e f=f a:=rfl
theorem cA (a b:Bool):both a b=(a&&b):=by cases a <;> cases b <;> rfl
theorem bh (l:List AC):bB l=l.length:=by
 induction l with
 | nil=>rfl
 | cons a l ih=>show Nat.add (bB l) 1=_;rw[ih];rfl
theorem uj (n:Nat):∀ l:List AC,Eb n l=l.drop n:=by
 induction n with
 | zero=>intro l;rfl
 | succ n ih=>
  intro l;cases l with
  | nil=>rfl
  | cons a l=>show Eb n l=_;rw[ih];rfl
theorem BW (n:Nat):∀ l:List AC,Kr n l=l.take n:=by
 induction n with
 | zero=>intro l;rfl
 | succ n ih=>
  intro l;cases l with
  | nil=>rfl
  | cons a l=>show a::Kr n l=_;rw[ih];rfl
theorem kg (l m:List AC):ng l m=l++m:=by
 induction l with
 | nil=>rfl
 | cons a l ih=>show a::ng l m=_;rw[ih];rfl
theorem ke (l:List AC) (off n:Nat):cut l off n=(l.drop off).take n:=by rw[cut,BW,uj]
theorem fb (l:List AC) (off:Nat) (c:List AC):eI l off c=l.take off++(c++l.drop (off+c.length)):=by
 rw[eI,BW,uj,kg,kg,bh];rfl
theorem BC (l:List UInt8):GY l=l.length:=by
 induction l with
 | nil=>rfl
 | cons a l ih=>show Nat.add (GY l) 1=_;rw[ih];rfl
theorem Jl (n:Nat):∀ l:List UInt8,Sb n l=l[n]?:=by
 induction n with
 | zero=>intro l;cases l <;> rfl
 | succ n ih=>intro l;cases l with|nil=>rfl|cons a l=>show Sb n l=_;rw[ih];rfl
theorem SH (n:Nat) (l:List AC):Ry n l=l[n]?:=by
 unfold Ry;rw[uj];have:l[n]?=(l.drop n)[0]?:=by simp
 rw[this];cases l.drop n <;> rfl
theorem Md {α β:Type} (f:α→R β):∀ (l:List α) (outs:List β),cD f l=.ok outs→∀ x∈l,∃ o,f x=.ok o∧∀ y∈o,y∈outs:=by
 intro l;induction l with
 | nil=>intro _ _ x hx;cases hx
 | cons a l ih=>
  intro outs h x hx;cases l with
  | nil=>
   have h':f a=.ok outs:=h;have:x=a:=by simpa using hx
   subst this;exact ⟨outs,h',fun _ hy=>hy⟩
  | cons b l=>
   have h':vM (f a) (cD f (b::l))=.ok outs:=h;cases ha:f a with
   | bad s=>rw[ha] at h';cases h'
   | ok oa=>
    cases hb:cD f (b::l) with
    | bad s=>rw[ha,hb] at h';cases h'
    | ok ob=>
     rw[ha,hb] at h';have he:oa++ob=outs:=by injection h'
     subst he;rcases List.mem_cons.1 hx with rfl|hx
     ·exact ⟨oa,ha,fun y hy=>List.mem_append_left _ hy⟩
     obtain ⟨o,ho,U0⟩:=ih ob hb x hx;exact ⟨o,ho,fun y hy=>List.mem_append_right _ (U0 y hy)⟩
theorem R.dI {α β:Type} {r:R α} {f:α→R β} {outs:List β} (h:r.bind f=.ok outs):∃ l,r=.ok l∧∀ x∈l,∃ o,f x=.ok o∧∀ y∈o,y∈outs:=by
 cases r with
 | bad s=>cases h
 | ok l=>exact ⟨l,rfl,Md f l outs h⟩
section
variable {P:Program} {H:Hp} {tm tm':PT AV}
theorem qi:∀ {l:List Operand},(∀ x∈l,ev tm x=ev tm' x)→evs l tm=evs l tm'
 | [],_=>rfl
 | x::l,h=>by
  show ev tm x::evs l tm=ev tm' x::evs l tm';rw[h x (List.mem_cons_self ..),qi fun y hy=>h y (List.mem_cons_of_mem _ hy)]
theorem ma {place:Nat→Option (Nat×Nat)}:∀ {l:List (Nat×Operand)} {ps:List (Nat×Nat×OpF)},cH place l=some ps→(∀ x∈l.map (·.2),ev tm x=ev tm' x)→∀ cells,eP tm ps cells=eP tm' ps cells
 | [],ps,h,_,cells=>by cases h;rfl
 | (i,x)::l,ps,h,hx,cells=>by
  unfold cH at h;split at h
  ·rename_i p r hp hr
   cases h
   have K0:(opF x).ev tm=(opF x).ev tm':=hx x (by simp);show ifE (both (Nat.beq (bB ((opF x).ev tm).cells) p.2) (both (Nat.ble (Nat.add p.1 p.2) (bB cells)) ((opF x).ev tm).bw)) (eP tm r (eI cells p.1 ((opF x).ev tm).cells)) none =
    ifE (both (Nat.beq (bB ((opF x).ev tm').cells) p.2) (both (Nat.ble (Nat.add p.1 p.2) (bB cells)) ((opF x).ev tm').bw)) (eP tm' r (eI cells p.1 ((opF x).ev tm').cells)) none
   rw[K0,ma hr fun y hy=>hx y (by simp only[List.map_cons];exact List.mem_cons_of_mem _ hy)]
  cases h
theorem Dj {o:Oper} (hs:∀ cs b,o.op≠.select cs b) (h:∀ x∈o.op.operands.toList,ev tm x=ev tm' x):ax P tm H o=ax P tm' H o:=by
 unfold ax;have h1:o.op.operands.toList.all (fun x=>(ev tm x).val?.isSome)=o.op.operands.toList.all (fun x=>(ev tm' x).val?.isSome):=by
  rw[Bool.eq_iff_iff,List.all_eq_true,List.all_eq_true];exact ⟨fun k x hx=>by rw[←h x hx];exact k x hx,fun k x hx=>by rw[h x hx];exact k x hx⟩
 have h2:execOp (fun x=>bj (ev tm x)) o=execOp (fun x=>bj (ev tm' x)) o:=
  execOp_congr o hs fun x hx=>by rw[h x (by simpa using hx)]
 rw[h1,h2]
theorem bE {α:Type} {o:Option α} {s:String} {f:α→SF} (h:∀ a,o=some a→(f a).run tm H=(f a).run tm' H):(ndF o s f).run tm H=(ndF o s f).run tm' H:=by
 cases o with
 | none=>rfl
 | some a=>exact h a rfl
theorem mV {b:Bool} {f g:SF} (h:f.run tm H=f.run tm' H) (hg:g.run tm H=g.run tm' H):(ifE b f g).run tm H=(ifE b f g).run tm' H:=by
 cases b with
 | false=>exact hg
 | true=>exact h
theorem mk_congr {f:PT AV→Hp→ad} (h:f tm H=f tm' H):(SF.mk f).run tm H=(SF.mk f).run tm' H:=h
theorem wb {o:Oper} {c:Call} {b:Builtin} (ho:o.op=.call c) (h:∀ x∈c.args.toList,ev tm x=ev tm' x) (hp:ax P tm H o=ax P tm' H o):
  (iF P o b c.args.toList c.argTypes.toList).run tm H=(iF P o b c.args.toList c.argTypes.toList).run tm' H:=by
 unfold iF;split
 ·rename_i s x t t2 h1 h2
  have hs:=h s (by rw[h1];simp);have hx:=h x (by rw[h1];simp);exact mV (mk_congr (by rw[hs,hx])) rfl
 ·rename_i s x t t2 h1 h2
  have hs:=h s (by rw[h1];simp);have hx:=h x (by rw[h1];simp);exact mV (mk_congr (by rw[hs,hx])) rfl
 ·rename_i x t h1 h2
  have hx:(opF x).ev tm=(opF x).ev tm':=h x (by rw[h1];simp);exact bE fun k _=>mk_congr (by rw[hx])
 ·exact mk_congr hp
 ·exact mk_congr hp
 rfl
theorem Hv (o:Oper) (h:∀ x∈o.op.operands.toList,ev tm x=ev tm' x):(an P o).run tm H=(an P o).run tm' H:=by
 have hp:(∀ cs b,o.op≠.select cs b)→ax P tm H o=ax P tm' H o:=fun hs=>Dj hs h;obtain ⟨dst,op,type,pos,after,guard⟩:=o;cases op with
 | move x=>
  have hx:(opF x).ev tm=(opF x).ev tm':=h x (by simp[Op.operands]);cases x with
  | tmp t=>exact congrArg (fun v=>ad.val v H) hx
  | _=>rfl
 | assign x=>
  have hx:(opF x).ev tm=(opF x).ev tm':=h x (by simp[Op.operands]);cases x with
  | tmp t=>exact congrArg (fun v=>ad.val v H) hx
  | _=>rfl
 | pick c x y=>
  have hc:(opF c).ev tm=(opF c).ev tm':=h c (by simp[Op.operands]);have hx:(opF x).ev tm=(opF x).ev tm':=h x (by simp[Op.operands]);have hy:(opF y).ev tm=(opF y).ev tm':=h y (by simp[Op.operands]);exact mk_congr (f:=fun tm h=>dM ((opF c).ev tm) (.bad "pick") fun b=>.val (ifE b ((opF x).ev tm) ((opF y).ev tm)) h) (by simp only[hc,hx,hy])
 | alloc e=>exact bE fun _ _=>rfl
 | box e x=>
  have hx:(opF x).ev tm=(opF x).ev tm':=h x (by simp[Op.operands]);exact mk_congr (f:=fun tm h=>aI ((opF x).ev tm).bw "box - a tuple" (gG h ((opF x).ev tm).cells e)) (by simp only[hx])
 | build t parts=>
  refine bE fun z _=>bE fun pl _=>bE fun ps Z6=>mk_congr (f:=fun tm h=>mr h (ofValue z).cells tm ps) ?_;unfold mr;rw[ma Z6 (tm:=tm) (tm':=tm') fun x hx=>h x (by simpa [Op.operands] using hx)]
 | buildSlice t len parts=>
  refine bE fun es _=>bE fun z _=>mV (bE fun ps Z6=>mk_congr (f:=fun tm h=>gV h (jn (ofValue z).cells len) tm es.1 es.2 len ps) ?_) rfl;unfold gV;rw[ma Z6 (tm:=tm) (tm':=tm') fun x hx=>h x (by simpa [Op.operands] using hx)]
 | load t x=>
  have hx:(opF x).ev tm=(opF x).ev tm':=h x (by simp[Op.operands]);exact bE fun p _=>mk_congr (by rw[hx])
 | store t x y=>
  have hx:(opF x).ev tm=(opF x).ev tm':=h x (by simp[Op.operands]);have hy:(opF y).ev tm=(opF y).ev tm':=h y (by simp[Op.operands]);exact bE fun p _=>mk_congr (by rw[hx,hy])
 | nilCheck x=>
  have hx:(opF x).ev tm=(opF x).ev tm':=h x (by simp[Op.operands]);exact mk_congr (f:=fun tm h=>fT h ((opF x).ev tm)) (by rw[hx])
 | binOp op t x y c=>
  have hx:(opF x).ev tm=(opF x).ev tm':=h x (by simp[Op.operands]);have hy:(opF y).ev tm=(opF y).ev tm':=h y (by simp[Op.operands]);exact mk_congr (f:=fun tm h=>bF h (aU P t) op (fz op) ((opF x).ev tm) ((opF y).ev tm) (ax P tm h _)) (by rw[hx,hy,hp (by intro cs b hh;cases hh)])
 | unOp op t x=>
  have hx:(opF x).ev tm=(opF x).ev tm':=h x (by simp[Op.operands]);exact mk_congr (f:=fun tm h=>GP h op ((opF x).ev tm) (ax P tm h _)) (by rw[hx,hp (by intro cs b hh;cases hh)])
 | convert s d x=>exact hp (by intro cs b hh;cases hh)
 | fieldAddr s x f=>
  have hx:(opF x).ev tm=(opF x).ev tm':=h x (by simp[Op.operands]);exact bE fun p _=>mk_congr (by rw[hx])
 | field t x f=>
  have hx:(opF x).ev tm=(opF x).ev tm':=h x (by simp[Op.operands]);exact bE fun p _=>bE fun q _=>mk_congr (by rw[hx])
 | indexAddr t x i=>
  have hx:(opF x).ev tm=(opF x).ev tm':=h x (by simp[Op.operands]);have hi:(opF i).ev tm=(opF i).ev tm':=h i (by simp[Op.operands]);exact bE fun p _=>mk_congr (by rw[hx,hi])
 | index t x i=>
  have hx:ev tm x=ev tm' x:=h x (by simp[Op.operands]);have hi:ev tm i=ev tm' i:=h i (by simp[Op.operands]);exact mk_congr (f:=fun tm h=>jX h (ql P t) (ev tm x) (ev tm i) (ax P tm h _)) (by rw[hx,hi,hp (by intro cs b hh;cases hh)])
 | slice t x lo hi mx=>
  cases mx with
  | some _=>rfl
  | none=>
   have hx:(opF x).ev tm=(opF x).ev tm':=h x (by simp[Op.operands]);have A_:lo.map (ev tm)=lo.map (ev tm'):=by cases lo with
    | none=>rfl
    | some y=>exact congrArg some (h y (by simp[Op.operands]))
   have V':hi.map (ev tm)=hi.map (ev tm'):=by cases hi with
    | none=>rfl
    | some y=>exact congrArg some (h y (by simp[Op.operands]))
   have F2:=hp (by intro cs b hh;cases hh);cases he:bd P t with
   | none=>
    have:an P ⟨dst,.slice t x lo hi none,type,pos,after,guard⟩=.mk fun tm h=>ax P tm h ⟨dst,.slice t x lo hi none,type,pos,after,guard⟩:=by
     simp[an,he]
    rw[this];exact F2
   | some p=>
    have:an P ⟨dst,.slice t x lo hi none,type,pos,after,guard⟩=.mk fun tm h=>cU h p.2 ((opF x).ev tm) (lo.map (ev tm)) (hi.map (ev tm)) (ax P tm h ⟨dst,.slice t x lo hi none,type,pos,after,guard⟩):=by
     simp[an,he]
    rw[this];exact mk_congr (f:=fun tm h=>cU h p.2 ((opF x).ev tm) (lo.map (ev tm)) (hi.map (ev tm)) (ax P tm h _)) (by rw[hx,A_,V',F2])
 | extract x i=>
  have hx:ev tm x=ev tm' x:=h x (by simp[Op.operands]);exact mk_congr (f:=fun tm h=>cy h (ev tm x) i) (by rw[hx])
 | makeFunc fn first caps=>
  cases fn with
  | func f=>exact mV (mk_congr (by rw[qi (tm:=tm) (tm':=tm') fun x hx=>h x (by simp only[Op.operands,Array.toList_append];exact List.mem_append_right _ hx)])) rfl
  | _=>rfl
 | makeMap t r=>
  cases r with
  | some _=>rfl
  | none=>rfl
 | makeSlice t l c=>
  have hl:ev tm l=ev tm' l:=h l (by simp[Op.operands]);have hc:ev tm c=ev tm' c:=h c (by simp[Op.operands]);exact mk_congr (f:=fun tm h=>cX P h t (ev tm l) (ev tm c)) (by rw[hl,hc])
 | lookup t x k ok=>
  have hx:ev tm x=ev tm' x:=h x (by simp[Op.operands]);have hk:ev tm k=ev tm' k:=h k (by simp[Op.operands]);exact bE fun p _=>bE fun z _=>mk_congr (by rw[hx,hk])
 | mapUpdate t x k y=>
  have hx:ev tm x=ev tm' x:=h x (by simp[Op.operands]);have hk:ev tm k=ev tm' k:=h k (by simp[Op.operands]);have hy:ev tm y=ev tm' y:=h y (by simp[Op.operands]);exact bE fun p _=>mk_congr (by rw[hx,hk,hy])
 | insert t x k y=>
  have hx:ev tm x=ev tm' x:=h x (by simp[Op.operands]);have hk:ev tm k=ev tm' k:=h k (by simp[Op.operands]);have hy:ev tm y=ev tm' y:=h y (by simp[Op.operands]);exact bE fun p _=>mk_congr (by rw[hx,hk,hy])
 | range t x=>
  have hx:ev tm x=ev tm' x:=h x (by simp[Op.operands]);exact bE fun p _=>mk_congr (by rw[hx])
 | next x b=>
  have hx:ev tm x=ev tm' x:=h x (by simp[Op.operands]);cases b with
  | true=>rfl
  | false=>exact mk_congr (f:=fun tm h=>qs h (ev tm x)) (by rw[hx])
 | entry x=>
  have hx:ev tm x=ev tm' x:=h x (by simp[Op.operands]);exact mk_congr (f:=fun tm h=>mX h (ev tm x)) (by rw[hx])
 | call c=>
  have A0:∀ x∈c.args.toList,ev tm x=ev tm' x:=fun x hx=>h x (by
   have Q4:x∈c.args:=by simpa using hx
   simp[Op.operands,Call.operands,Q4])
  show (rD P _ c).run tm H=(rD P _ c).run tm' H;unfold rD;split
  ·rename_i f hf
   have hff:(opF f).ev tm=(opF f).ev tm':=h f (by simp[Op.operands,Call.operands,hf]);exact mk_congr (f:=fun tm _=>kz P ((opF f).ev tm) (evs c.args.toList tm)) (by rw[hff,qi A0])
  ·exact wb rfl A0 (hp (by intro cs b hh;cases hh))
  rfl
 | _=>rfl
end
structure Place where
 b:Nat
 o:Nat
 n:Nat
 hi:Nat
abbrev Pl:=Nat→Nat→Option Place
def CRO (β:Pl):AO→Value→Prop
 | .p v,x=>x=v∧v.oneCell'=true
 | .str s,x=>x=.string ⟨s.toArray⟩
 | .nilP,x=>x=.pointer none
 | .nilS,x=>x=.slice none 0 0
 | .nilM,x=>x=.map none
 | .nilF,x=>x=.nilFunc
 | .ptr id g off lim,x=>∃ p,β id g=some p∧off+lim≤p.hi∧x=.pointer (some ⟨p.b,p.o+off,none⟩)
 | .sl id g off len sz,x=>∃ p cap o',β id g=some p∧off+len*sz≤p.hi∧len≤cap∧x=.slice (some o') len cap∧(cap=0∨(o'=⟨p.b,p.o+off,none⟩∧p.o+off+cap*sz≤p.n))
 | .mp id,x=>∃ p,β id 0=some p∧x=.map (some p.b)
 | .clo f caps,x=>∃ cs:List Value,x=.func (.func f) #[] cs.toArray∧cs.length=caps.length ∧
   ∀ (k:Nat) (c:Nat×Nat×Nat×Nat) (v:Value),caps[k]?=some c→cs[k]?=some v→∃ p,β c.1 c.2.1=some p∧c.2.2.1+c.2.2.2≤p.hi∧v=.pointer (some ⟨p.b,p.o+c.2.2.1,none⟩)
 | .yl id,x=>∃ p,β id 0=some p∧x=.func (.yield p.b) #[] #[]
 | .it id,x=>∃ p,β id 0=some p∧x=.pointer (some ⟨p.b,0,none⟩)
def CR (β:Pl):AC→Value→Prop
 | .b x,v=>v=.bool x
 | .i k n,v=>v=.int k n
 | .o x,v=>CRO β x v
def CRs (β:Pl):List AC→List Value→Prop
 | [],[]=>True
 | c::l,v::vs=>CR β c v∧CRs β l vs
 | _,_=>False
def TR (β:Pl):Bool×List AC→Value→Prop
 | (true,l),v=>∃ vs,CRs β l vs∧v=.agg vs.toArray
 | (false,[c]),v=>CR β c v
 | _,_=>False
def TRs (β:Pl):List (Bool×List AC)→List Value→Prop
 | [],[]=>True
 | c::l,v::vs=>TR β c v∧TRs β l vs
 | _,_=>False
def AR (β:Pl):AV→Value→Prop
 | .one c,v=>CR β c v
 | .agg l,v=>∃ vs,CRs β l vs∧v=.agg vs.toArray
 | .tup l,v=>∃ vs,TRs β l vs∧v=.tuple vs.toArray
 | .any,_=>True
def ARs (β:Pl):List AV→List Value→Prop
 | [],[]=>True
 | c::l,v::vs=>AR β c v∧ARs β l vs
 | _,_=>False
def ERs (β:Pl):List bI→List MapEntry→Prop
 | [],[]=>True
 | e::l,m::ms=>(AR β e.key m.key∧e.key.bw=true∧AR β e.val m.val∧e.val.bw=true∧m.born=e.born)∧ERs β l ms
 | _,_=>False
def TmR (β:Pl) (tm:PT AV) (nt:Nat) (tmps:Array Value):Prop:=
 tmps.size=nt∧nt≤1048576∧∀ t,AR β (aw (tm.get t) aF fun v=>v) (tmps.getD t undef)
def dt:aJ→Nat→Prop
 | .arr _ _ lo gen,g=>lo≤g∧g≤gen
 | .oth _,g=>g=0
 | .ro _,g=>g=0
def aJ.kZ:aJ→Bool
 | .ro _=>true
 | _=>false
def RV (o:aJ) (g:Nat):Prop:=dt o g∧o.kZ=false
def gp (β:Pl) (w:World) (cells:List AC) (e:TypeId) (p:Place):Prop:=
 ∃ c:Array Value,w.heap[p.b]?=some (.cells c e (0,0))∧c.size=p.n∧p.o+p.hi≤p.n∧p.hi≤cells.length ∧
  ∀ k x,k<p.hi→cells[k]?=some x→∃ v,c[p.o+k]?=some v∧CR β x v
def oh (β:Pl) (w:World) (cells:List AC) (p:Place):Prop:=
 ∃ (c:Array Value) (e:TypeId) (f:Nat×Nat),w.heap[p.b]?=some (.cells c e f)∧c.size=p.n∧p.o+p.hi≤p.n∧p.hi≤cells.length ∧
  ∀ k x,k<p.hi→cells[k]?=some x→∃ v,c[p.o+k]?=some v∧CR β x v
theorem gp.d {β:Pl} {w:World} {cells:List AC} {e:TypeId} {p:Place} (h:gp β w cells e p):oh β w cells p:=
 let ⟨c,h1,r⟩:=h;⟨c,e,(0,0),h1,r⟩
def DI (β:Pl) (w:World) (p:Place):LD→Prop
 | .map es clock=>∃ ms:List MapEntry,w.heap[p.b]?=some (.map ms.toArray clock)∧ERs β es ms
 | .iter m since seen stepped=>
  match m with
  | none=>w.heap[p.b]?=some (.mapIter none since seen.toArray stepped)
  | some i=>∃ q,β i 0=some q∧w.heap[p.b]?=some (.mapIter (some q.b) since seen.toArray stepped)
 | .loop st pe tm nt ps as bo d=>∃ q fn tmps,β d 0=some q∧TmR β tm nt tmps ∧
   w.heap[p.b]?=some (.loop { state:=st,pending:=pe,fn:=fn,tmps:=tmps,params:=ps.toArray,assign:=as,body:=bo,defers:=q.b })
 | .dfr b=>w.heap[p.b]?=some (.deferred (if b=true then some [] else none))
def fG (β:Pl) (w:World) (id:Nat):aJ→Prop
 | .arr cells e lo gen=>lo≤gen ∧
   (∀ g,lo≤g→g≤gen→∃ p,β id g=some p∧gp β w cells e p∧(g=gen→p.hi=cells.length)) ∧
   (∀ g g' p p',lo≤g→g≤g'→g'≤gen→β id g=some p→β id g'=some p'→p.hi≤p'.hi∧(p.b=p'.b→p.o=p'.o)) ∧
   (∀ g,gen<g→β id g=none)
 | .oth x=>∃ p,β id 0=some p∧DI β w p x
 | .ro cells=>∃ p,β id 0=some p∧oh β w cells p
structure Rel (m:Nat) (β:Pl) (H:Hp) (w:World):Prop where
 obj:∀ id o,H.get id=some o→fG β w id o
 sep:∀ id id' o o' g g' p p',H.get id=some o→H.get id'=some o'→dt o g→dt o' g'→β id g=some p→β id' g'=some p'→p.b=p'.b→id=id'∨(o.kZ=true∧o'.kZ=true)
 wf:∀ id,H.nx≤id→H.get id=none
 free:∀ id g,H.nx≤id→id<m→β id g=none
structure Ext (β:Pl) (H:Hp) (w:World) (β':Pl) (H':Hp) (w':World):Prop where
 sub:∀ id g p,β id g=some p→β' id g=some p
 loc:∀ id g p,β' id g=some p→β id g=some p∨(H.nx≤id∧id<H'.nx)∨∃ o,H.get id=some o
 size:w.heap.size≤w'.heap.size
 os:w'.os=w.os
 tape:w'.tape=w.tape
 output:w'.output=w.output
 frame:∀ b,b<w.heap.size→(∀ id o g p,H.get id=some o→RV o g→β id g=some p→p.b≠b)→w'.heap[b]?=w.heap[b]?
 prov:∀ id o' g p,H'.get id=some o'→dt o' g→β' id g=some p→w.heap.size≤p.b∨∃ o g0 p0,H.get id=some o∧dt o g0∧β id g0=some p0∧p0.b=p.b∧o.kZ=o'.kZ
 nx:H.nx≤H'.nx
 log:∃ l,H'.log=l++H.log∧∀ id,id<H.nx→id∉l→H'.get id=H.get id
 dom:∀ id o,H.get id=some o→∃ o',H'.get id=some o'
 old:∀ id o',H'.get id=some o'→(∃ o,H.get id=some o)∨(H.nx≤id∧id<H'.nx)
 far:∀ l,H'.log=l++H.log→∀ b,b<w.heap.size→(∀ id o g p,id∈l→H.get id=some o→RV o g→β id g=some p→p.b≠b)→w'.heap[b]?=w.heap[b]?
abbrev Sub (β β':Pl):Prop:=∀ id g p,β id g=some p→β' id g=some p
section mono
variable {β β':Pl} (hs:Sub β β')
include hs
theorem CRO.mono {x:AO} {v:Value} (h:CRO β x v):CRO β' x v:=by
 cases x with
 | p v=>exact h
 | str s=>exact h
 | nilP=>exact h
 | nilS=>exact h
 | nilM=>exact h
 | nilF=>exact h
 | ptr id g off lim=>obtain ⟨p,hp,r⟩:=h;exact ⟨p,hs _ _ _ hp,r⟩
 | sl id g off len sz=>obtain ⟨p,cap,o',hp,r⟩:=h;exact ⟨p,cap,o',hs _ _ _ hp,r⟩
 | mp id=>obtain ⟨p,hp,r⟩:=h;exact ⟨p,hs _ _ _ hp,r⟩
 | clo f caps=>
  obtain ⟨cs,h1,h2,h3⟩:=h;refine ⟨cs,h1,h2,fun k c v hc hv=>?_⟩;obtain ⟨p,hp,r⟩:=h3 k c v hc hv;exact ⟨p,hs _ _ _ hp,r⟩
 | yl id=>obtain ⟨p,hp,r⟩:=h;exact ⟨p,hs _ _ _ hp,r⟩
 | it id=>obtain ⟨p,hp,r⟩:=h;exact ⟨p,hs _ _ _ hp,r⟩
theorem CR.mono {x:AC} {v:Value} (h:CR β x v):CR β' x v:=by
 cases x with
 | b x=>exact h
 | i k n=>exact h
 | o x=>exact CRO.mono hs h
theorem CRs.mono:∀ {l:List AC} {vs:List Value},CRs β l vs→CRs β' l vs
 | [],[],_=>trivial
 | _::_,_::_,h=>⟨CR.mono hs h.1,CRs.mono h.2⟩
 | [],_::_,h=>h.elim
 | _::_,[],h=>h.elim
theorem TR.mono {x:Bool×List AC} {v:Value} (h:TR β x v):TR β' x v:=by
 obtain ⟨b,l⟩:=x;cases b with
 | true=>obtain ⟨vs,h1,h2⟩:=h;exact ⟨vs,CRs.mono hs h1,h2⟩
 | false=>
  match l,h with
  | [c],h=>exact CR.mono hs h
theorem TRs.mono:∀ {l:List (Bool×List AC)} {vs:List Value},TRs β l vs→TRs β' l vs
 | [],[],_=>trivial
 | _::_,_::_,h=>⟨TR.mono hs h.1,TRs.mono h.2⟩
 | [],_::_,h=>h.elim
 | _::_,[],h=>h.elim
theorem AR.mono {x:AV} {v:Value} (h:AR β x v):AR β' x v:=by
 cases x with
 | one c=>exact CR.mono hs h
 | agg l=>obtain ⟨vs,h1,h2⟩:=h;exact ⟨vs,CRs.mono hs h1,h2⟩
 | tup l=>obtain ⟨vs,h1,h2⟩:=h;exact ⟨vs,TRs.mono hs h1,h2⟩
 | any=>trivial
theorem ARs.mono:∀ {l:List AV} {vs:List Value},ARs β l vs→ARs β' l vs
 | [],[],_=>trivial
 | _::_,_::_,h=>⟨AR.mono hs h.1,ARs.mono h.2⟩
 | [],_::_,h=>h.elim
 | _::_,[],h=>h.elim
theorem ERs.mono:∀ {l:List bI} {ms:List MapEntry},ERs β l ms→ERs β' l ms
 | [],[],_=>trivial
 | _::_,_::_,h=>⟨⟨AR.mono hs h.1.1,h.1.2.1,AR.mono hs h.1.2.2.1,h.1.2.2.2⟩,ERs.mono h.2⟩
 | [],_::_,h=>h.elim
 | _::_,[],h=>h.elim
theorem TmR.mono {tm:PT AV} {nt:Nat} {tmps:Array Value} (h:TmR β tm nt tmps):TmR β' tm nt tmps:=⟨h.1,h.2.1,fun t=>AR.mono hs (h.2.2 t)⟩
theorem gp.mono {w w':World} {cells:List AC} {e:TypeId} {p:Place} (h:gp β w cells e p) (hw:w'.heap[p.b]?=w.heap[p.b]?):gp β' w' cells e p:=by
 obtain ⟨c,h1,h2,h3,h4,h5⟩:=h;refine ⟨c,hw.trans h1,h2,h3,h4,fun k x hk hx=>?_⟩;obtain ⟨v,hv,hr⟩:=h5 k x hk hx;exact ⟨v,hv,CR.mono hs hr⟩
theorem DI.mono {w w':World} {p:Place} {x:LD} (h:DI β w p x) (hw:w'.heap[p.b]?=w.heap[p.b]?):DI β' w' p x:=by
 cases x with
 | map es clock=>obtain ⟨ms,h1,h2⟩:=h;exact ⟨ms,hw.trans h1,ERs.mono hs h2⟩
 | iter m since seen stepped=>
  cases m with
  | none=>exact hw.trans h
  | some i=>obtain ⟨q,h1,h2⟩:=h;exact ⟨q,hs _ _ _ h1,hw.trans h2⟩
 | loop st pe tm nt ps as bo d=>
  obtain ⟨q,fn,tmps,h1,h2,h3⟩:=h;exact ⟨q,fn,tmps,hs _ _ _ h1,TmR.mono hs h2,hw.trans h3⟩
 | dfr b=>exact hw.trans h
theorem fG.mono {w w':World} {id:Nat} {o:aJ} (h:fG β w id o) (hn:∀ g,β' id g=β id g) (hw:∀ g p,dt o g→β id g=some p→w'.heap[p.b]?=w.heap[p.b]?):fG β' w' id o:=by
 cases o with
 | arr cells e lo gen=>
  obtain ⟨h0,h1,h2,h3⟩:=h;refine ⟨h0,fun g hl hg=>?_,fun g g' p p' a b c d e=>?_,fun g hg=>by rw[hn];exact h3 g hg⟩
  ·obtain ⟨p,hp,hr,hh⟩:=h1 g hl hg;exact ⟨p,hs _ _ _ hp,gp.mono hs hr (hw g p ⟨hl,hg⟩ hp),hh⟩
  rw[hn] at d e;exact h2 g g' p p' a b c d e
 | oth x=>
  obtain ⟨p,hp,hx⟩:=h;exact ⟨p,hs _ _ _ hp,DI.mono hs hx (hw 0 p rfl hp)⟩
 | ro cells=>
  obtain ⟨p,hp,c,e,f,h1,h2,h3,h4,h5⟩:=h;refine ⟨p,hs _ _ _ hp,c,e,f,(hw 0 p rfl hp).trans h1,h2,h3,h4,fun k x hk hx=>?_⟩;obtain ⟨v,hv,hr⟩:=h5 k x hk hx;exact ⟨v,hv,CR.mono hs hr⟩
end mono
theorem ERs.get {β:Pl}:∀ {l:List bI} {ms:List MapEntry},ERs β l ms→l.length=ms.length
 | [],[],_=>rfl
 | _::_,_::_,h=>by simp[ERs.get h.2]
 | [],_::_,h=>h.elim
 | _::_,[],h=>h.elim
theorem CRs.length {β:Pl}:∀ {l:List AC} {vs:List Value},CRs β l vs→vs.length=l.length
 | [],[],_=>rfl
 | _::_,_::_,h=>by simp[CRs.length h.2]
 | [],_::_,h=>h.elim
 | _::_,[],h=>h.elim
theorem ARs.length {β:Pl}:∀ {l:List AV} {vs:List Value},ARs β l vs→vs.length=l.length
 | [],[],_=>rfl
 | _::_,_::_,h=>by simp[ARs.length h.2]
 | [],_::_,h=>h.elim
 | _::_,[],h=>h.elim
theorem CRs.get {β:Pl}:∀ {l:List AC} {vs:List Value},CRs β l vs→∀ (k:Nat) (c:AC) (v:Value),l[k]?=some c→vs[k]?=some v→CR β c v
 | [],[],_,k,c,v,h,_=>by simp at h
 | _::_,_::_,h,0,c,v,hc,hv=>by simp at hc hv;subst hc hv;exact h.1
 | _::_,_::_,h,k+1,c,v,hc,hv=>CRs.get h.2 k c v (by simpa using hc) (by simpa using hv)
 | [],_::_,h,_,_,_,_,_=>h.elim
 | _::_,[],h,_,_,_,_,_=>h.elim
theorem CRs.dE {β:Pl}:∀ {l:List AC} {vs:List Value},vs.length=l.length→(∀ (k:Nat) (c:AC) (v:Value),l[k]?=some c→vs[k]?=some v→CR β c v)→CRs β l vs
 | [],[],_,_=>trivial
 | c::l,v::vs,hl,h=>⟨h 0 c v rfl rfl,CRs.dE (by simpa using hl) fun k c' v' hc hv=>h (k+1) c' v' (by simpa using hc) (by simpa using hv)⟩
 | [],_::_,hl,_=>by simp at hl
 | _::_,[],hl,_=>by simp at hl
theorem CRs.append {β:Pl} {l l':List AC} {vs vs':List Value} (h:CRs β l vs) (h':CRs β l' vs'):CRs β (l++l') (vs++vs'):=by
 induction l generalizing vs with
 | nil=>cases vs with|nil=>exact h'|cons=>exact h.elim
 | cons c l ih=>cases vs with|nil=>exact h.elim|cons v vs=>exact ⟨h.1,ih h.2⟩
theorem ARs.append {β:Pl} {l l':List AV} {vs vs':List Value} (h:ARs β l vs) (h':ARs β l' vs'):ARs β (l++l') (vs++vs'):=by
 induction l generalizing vs with
 | nil=>cases vs with|nil=>exact h'|cons=>exact h.elim
 | cons c l ih=>cases vs with|nil=>exact h.elim|cons v vs=>exact ⟨h.1,ih h.2⟩
theorem CRs.take {β:Pl} {l:List AC} {vs:List Value} (h:CRs β l vs) (n:Nat):CRs β (l.take n) (vs.take n):=
 CRs.dE (by simp[h.length]) fun k c v hc hv=>by
  rw[List.getElem?_take] at hc hv;split at hc
  ·rename_i hk;rw[zB0 hk] at hv;exact h.get k c v hc hv
  cases hc
theorem CRs.drop {β:Pl} {l:List AC} {vs:List Value} (h:CRs β l vs) (n:Nat):CRs β (l.drop n) (vs.drop n):=
 CRs.dE (by simp[h.length]) fun k c v hc hv=>by
  rw[List.getElem?_drop] at hc hv;exact h.get _ c v hc hv
theorem CR.kR {β:Pl} {c:AC} {v:Value} (h:CR β c v):v.oneCell'=true:=by
 cases c with
 | b x=>cases h;rfl
 | i k n=>cases h;rfl
 | o x=>
  cases x with
  | p u=>obtain ⟨h1,h2⟩:=h;subst h1;exact h2
  | str s=>cases h;rfl
  | nilP=>cases h;rfl
  | nilS=>cases h;rfl
  | nilM=>cases h;rfl
  | nilF=>cases h;rfl
  | ptr id g off lim=>obtain ⟨p,_,_,rfl⟩:=h;rfl
  | sl id g off len sz=>obtain ⟨p,cap,o',_,_,_,rfl,_⟩:=h;rfl
  | mp id=>obtain ⟨p,_,rfl⟩:=h;rfl
  | clo f caps=>obtain ⟨cs,rfl,_⟩:=h;rfl
  | yl id=>obtain ⟨p,_,rfl⟩:=h;rfl
  | it id=>obtain ⟨p,_,rfl⟩:=h;rfl
theorem CRs.kR {β:Pl}:∀ {l:List AC} {vs:List Value},CRs β l vs→∀ v∈vs,v.oneCell'=true
 | [],[],_,v,hv=>by cases hv
 | _::_,_::_,h,v,hv=>by
  rcases List.mem_cons.1 hv with rfl|hv
  ·exact h.1.kR
  exact CRs.kR h.2 v hv
 | [],_::_,h,_,_=>h.elim
 | _::_,[],h,_,_=>h.elim
theorem AR.cells {β:Pl} {x:AV} {v:Value} (h:AR β x v) (hn:x.bw=true):CRs β x.cells v.cells.toList:=by
 cases x with
 | one c=>
  have h1:=CR.kR h;have:v.cells=#[v]:=by cases v <;> first|rfl|(simp[Value.oneCell'] at h1)
  rw[this];exact ⟨h,trivial⟩
 | agg l=>obtain ⟨vs,h1,rfl⟩:=h;exact h1
 | tup l=>cases hn
 | any=>cases hn
theorem Ext.refl (β:Pl) (H:Hp) (w:World):Ext β H w β H w:=
 ⟨fun _ _ _ h=>h,fun _ _ _ h=>.inl h,zA1 _,rfl,rfl,rfl,fun _ _ _=>rfl,fun id o g p h1 h2 h3=>.inr ⟨o,g,p,h1,h2,h3,rfl,rfl⟩,zA1 _,⟨[],rfl,fun _ _ _=>rfl⟩,fun _ o h=>⟨o,h⟩,fun _ o h=>.inl ⟨o,h⟩,fun _ _ _ _ _=>rfl⟩
theorem Ext.trans {β β1 β2:Pl} {H H1 H2:Hp} {w w1 w2:World} (h:Ext β H w β1 H1 w1) (k:Ext β1 H1 w1 β2 H2 w2):Ext β H w β2 H2 w2 where
 sub:=fun id g p hp=>k.sub _ _ _ (h.sub _ _ _ hp)
 loc:=fun id g p hp=>by
  rcases k.loc id g p hp with hp|hp|⟨o,ho⟩
  ·rcases h.loc id g p hp with hp|hp|hp
   ·exact .inl hp
   ·exact .inr (.inl ⟨hp.1,zA0 hp.2 k.nx⟩)
   exact .inr (.inr hp)
  ·exact .inr (.inl ⟨zA2 h.nx hp.1,hp.2⟩)
  rcases h.old id o ho with hq|hq
  ·exact .inr (.inr hq)
  exact .inr (.inl ⟨hq.1,zA0 hq.2 k.nx⟩)
 size:=zA2 h.size k.size
 os:=k.os.trans h.os
 tape:=k.tape.trans h.tape
 output:=k.output.trans h.output
 frame:=fun b hb hn=>by
  rw[k.frame b (zA0 hb h.size) ?_,h.frame b hb hn];intro id o g p ho hg hp i';rcases h.prov id o g p ho hg.1 hp with hq|⟨o0,g0,p0,a1,a2,a3,a4,a5⟩
  ·omega
  exact hn id o0 g0 p0 a1 ⟨a2,a5.trans hg.2⟩ a3 (a4.trans i')
 prov:=fun id o' g p ho hg hp=>by
  rcases k.prov id o' g p ho hg hp with hq|⟨o0,g0,p0,a1,a2,a3,a4,a5⟩
  ·exact .inl (zA2 h.size hq)
  rcases h.prov id o0 g0 p0 a1 a2 a3 with hq|⟨o1,g1,p1,b1,b2,b3,b4,b5⟩
  ·exact .inl (by omega)
  exact .inr ⟨o1,g1,p1,b1,b2,b3,b4.trans a4,b5.trans a5⟩
 nx:=zA2 h.nx k.nx
 log:=by
  obtain ⟨l,hl,hg⟩:=h.log;obtain ⟨l2,l7,m8⟩:=k.log;refine ⟨l2++l,by rw[l7,hl,List.append_assoc],fun id hid hm=>?_⟩;rw[m8 id (zA0 hid h.nx) (fun hx=>hm (List.mem_append_left _ hx)),hg id hid (fun hx=>hm (List.mem_append_right _ hx))]
 dom:=fun id o ho=>by
  obtain ⟨o1,h1⟩:=h.dom id o ho;exact k.dom id o1 h1
 old:=fun id o' ho=>by
  rcases k.old id o' ho with ⟨o1,h1⟩|hq
  ·rcases h.old id o1 h1 with hq|hq
   ·exact .inl hq
   exact .inr ⟨hq.1,zA0 hq.2 k.nx⟩
  exact .inr ⟨zA2 h.nx hq.1,hq.2⟩
 far:=fun l hl b hb hn=>by
  obtain ⟨l1,e1,_⟩:=h.log;obtain ⟨l2,e2,_⟩:=k.log;have e:l=l2++l1:=by
   rw[e2,e1,←List.append_assoc] at hl;exact (List.append_cancel_right hl).symm
  subst e;rw[k.far l2 e2 b (zA0 hb h.size) ?_,h.far l1 e1 b hb fun id o g p hid=>hn id o g p (List.mem_append_right _ hid)];intro id o g p hid ho hg hp i';rcases h.prov id o g p ho hg.1 hp with hq|⟨o0,g0,p0,a1,a2,a3,a4,a5⟩
  ·omega
  exact hn id o0 g0 p0 (List.mem_append_left _ hid) a1 ⟨a2,a5.trans hg.2⟩ a3 (a4.trans i')
theorem db {α:Type} {a:Array α} {i:Nat} {x:α} (h:a[i]?=some x):i<a.size:=(Array.getElem?_eq_some_iff.1 h).1
theorem DI.lt {β:Pl} {w:World} {p:Place} {x:LD} (h:DI β w p x):p.b<w.heap.size:=by
 cases x with
 | map es clock=>obtain ⟨ms,h1,_⟩:=h;exact db h1
 | iter m since seen stepped=>
  cases m with
  | none=>exact db h
  | some i=>obtain ⟨q,_,h1⟩:=h;exact db h1
 | loop st pe tm nt ps as bo d=>obtain ⟨q,fn,tmps,_,_,h3⟩:=h;exact db h3
 | dfr b=>exact db h
theorem fG.lt {β:Pl} {w:World} {id:Nat} {o:aJ} (h:fG β w id o) {g:Nat} {p:Place} (hg:dt o g) (hp:β id g=some p):p.b<w.heap.size:=by
 cases o with
 | arr cells e lo gen=>
  obtain ⟨_,h1,_,_⟩:=h;obtain ⟨q,hq,⟨c,hc,_⟩,_⟩:=h1 g hg.1 hg.2;rw[hp] at hq;cases hq;exact db hc
 | oth x=>
  obtain ⟨q,hq,hx⟩:=h;have:g=0:=hg;subst this;rw[hp] at hq;cases hq;exact hx.lt
 | ro cells=>
  obtain ⟨q,hq,c,e,f,hc,_⟩:=h;have:g=0:=hg;subst this;rw[hp] at hq;cases hq;exact db hc
theorem SR (H:Hp) (o:aJ) (h:H.nx<H.nx+1) (i:Nat):(H.new o).get i=if i=H.nx then some o else H.get i:=PT.mH _ _ _ _ h
theorem SD (H:Hp) (id:Nat) (o:aJ) (h:id<id+1) (i:Nat):(H.mod id o).get i=if i=id then some o else H.get i:=PT.mH _ _ _ _ h
def plus (β:Pl) (id g:Nat) (p:Place):Pl:=fun i k=>if i=id∧k=g then some p else β i k
theorem aP (β:Pl) (id g:Nat) (p:Place):plus β id g p id g=some p:=by simp[plus]
theorem bH (β:Pl) (id g:Nat) (p:Place) {i k:Nat} (h:¬(i=id∧k=g)):plus β id g p i k=β i k:=by simp[plus,h]
theorem iH {β:Pl} {id g:Nat} {p:Place} (h:β id g=none):Sub β (plus β id g p):=by
 intro i k q hq;by_cases e:i=id∧k=g
 ·obtain ⟨rfl,rfl⟩:=e;rw[h] at hq;cases hq
 rw[bH _ _ _ _ e];exact hq
section
variable {m:Nat} {β:Pl} {H:Hp} {w:World} (hR:Rel m β H w)
include hR
theorem Rel.Qg {id:Nat} {o:aJ} (ho:H.get id=some o):id<H.nx:=by
 rcases Nat.lt_or_ge id H.nx with h|h
 ·exact h
 rw[hR.wf id h] at ho;cases ho
theorem kM (_hm:m≤m) (W0:H.nx≤m) {id:Nat} {o:aJ} (ho:H.get id=some o) (o':aJ) {β':Pl} {w':World} (U0:Sub β β') (Z2:∀ i,i≠id→∀ g,β' i g=β i g)
  (G1:w.heap.size≤w'.heap.size) (hos:w'.os=w.os) (X4:w'.tape=w.tape) (V2:w'.output=w.output)
  (S6:∀ b,b<w.heap.size→(∀ g p,dt o g→β id g=some p→p.b≠b)→w'.heap[b]?=w.heap[b]?)
  (l9:fG β' w' id o')
  (E9:∀ g p,dt o' g→β' id g=some p→w.heap.size≤p.b∨∃ g0 p0,dt o g0∧β id g0=some p0∧p0.b=p.b) (w_:o.kZ=false:=by rfl) (hro':o'.kZ=false:=by rfl):
  Rel m β' (H.mod id o') w'∧Ext β H w β' (H.mod id o') w':=by
 have hid:=hR.Qg ho;have hid40:id<id+1:=by omega
 have T0:=SD H id o' hid40;refine ⟨⟨?_,?_,?_,?_⟩,?_⟩
 ·intro i x hx;rw[T0] at hx;by_cases e:i=id
  ·subst e;rw[zB0 rfl] at hx;cases hx;exact l9
  rw[zB1 e] at hx;have hi:=hR.obj i x hx;refine fG.mono U0 hi (Z2 i e) fun g p hg hp=>?_;exact S6 p.b (hi.lt hg hp) fun g0 p0 U4 R6 hb=>(hR.sep _ _ _ _ _ _ _ _ hx ho hg U4 hp R6 hb.symm).elim e fun hh=>by rw[w_] at hh;cases hh.2
 ·intro i j x y g g' p p' hx hy hg P2 hp F2 hb;rw[T0] at hx hy;by_cases e:i=id
  ·by_cases f:j=id
   ·exact .inl (by rw[e,f])
   subst e;rw[zB0 rfl] at hx;rw[zB1 f] at hy;cases hx;rw[Z2 j f] at F2;have D0:=(hR.obj j y hy).lt P2 F2;rcases E9 g p hg hp with hq|⟨g0,p0,a1,a2,a3⟩
   ·omega
   exact (hR.sep _ _ _ _ _ _ _ _ ho hy a1 P2 a2 F2 (a3.trans hb)).imp (fun h=>h) fun hh=>by rw[w_] at hh;cases hh.1
  by_cases f:j=id
  ·subst f;rw[zB1 e] at hx;rw[zB0 rfl] at hy;cases hy;rw[Z2 i e] at hp;have D0:=(hR.obj i x hx).lt hg hp;rcases E9 g' p' P2 F2 with hq|⟨g0,p0,a1,a2,a3⟩
   ·omega
   exact (hR.sep _ _ _ _ _ _ _ _ hx ho hg a1 hp a2 (hb.trans a3.symm)).imp (fun h=>h) fun hh=>by rw[w_] at hh;cases hh.2
  rw[zB1 e] at hx;rw[zB1 f] at hy;rw[Z2 i e] at hp;rw[Z2 j f] at F2;exact hR.sep _ _ _ _ _ _ _ _ hx hy hg P2 hp F2 hb
 ·intro i hi;have M8:H.nx≤i:=hi;rw[T0,zB1 (by omega)];exact hR.wf i M8
 ·intro i g hi him;have M8:H.nx≤i:=hi;rw[Z2 i (by omega)];exact hR.free i g M8 him
 refine ⟨U0,?_,G1,hos,X4,V2,?_,?_,zA1 _,⟨[id],rfl,?_⟩,?_,?_,?_⟩
 ·intro i g p hp;by_cases e:i=id
  ·subst e;exact .inr (.inr ⟨o,ho⟩)
  rw[Z2 i e] at hp;exact .inl hp
 ·exact fun b hb hn=>S6 b hb fun g p hg hp=>hn id o g p ho ⟨hg,w_⟩ hp
 ·intro i x g p hx hg hp;rw[T0] at hx;by_cases e:i=id
  ·subst e;rw[zB0 rfl] at hx;cases hx;rcases E9 g p hg hp with hq|⟨g0,p0,a1,a2,a3⟩
   ·exact .inl hq
   exact .inr ⟨o,g0,p0,ho,a1,a2,a3,by rw[w_,hro']⟩
  rw[zB1 e] at hx;rw[Z2 i e] at hp;exact .inr ⟨x,g,p,hx,hg,hp,rfl,rfl⟩
 ·intro i hi hl;rw[T0,zB1 (by simpa using hl)]
 ·intro i x hx;rw[T0];by_cases e:i=id
  ·rw[zB0 e];exact ⟨_,rfl⟩
  rw[zB1 e];exact ⟨x,hx⟩
 ·intro i x hx;rw[T0] at hx;by_cases e:i=id
  ·subst e;exact .inl ⟨o,ho⟩
  rw[zB1 e] at hx;exact .inl ⟨x,hx⟩
 intro l hl b hb hn;have e:l=[id]:=by
  have a6:[id]++H.log=l++H.log:=hl;exact (List.append_cancel_right a6).symm
 subst e;exact S6 b hb fun g p hg hp=>hn id o g p (List.mem_singleton.2 rfl) ho ⟨hg,w_⟩ hp
theorem kL (_hm:m≤m) (W0:H.nx<m) (o':aJ) (p:Place) {w':World} (hb:w.heap.size≤p.b)
  (G1:w.heap.size≤w'.heap.size) (hos:w'.os=w.os) (X4:w'.tape=w.tape) (V2:w'.output=w.output)
  (S6:∀ b,b<w.heap.size→w'.heap[b]?=w.heap[b]?) (hgen:∀ g,dt o' g→g=0)
  (l9:fG (plus β H.nx 0 p) w' H.nx o'):
  Rel m (plus β H.nx 0 p) (H.new o') w'∧Ext β H w (plus β H.nx 0 p) (H.new o') w':=by
 have T0:=SR H o' (by omega);have J9:β H.nx 0=none:=hR.free H.nx 0 (zA1 _) W0;have U0:Sub β (plus β H.nx 0 p):=iH J9;have Z2:∀ i,i≠H.nx→∀ g,plus β H.nx 0 p i g=β i g:=fun i hi g=>bH _ _ _ _ (fun h=>hi h.1);have J0:∀ g q,dt o' g→plus β H.nx 0 p H.nx g=some q→q=p:=by
  intro g q hg hq;have:=hgen g hg;subst this;rw[aP] at hq;exact (Option.some.inj hq).symm
 refine ⟨⟨?_,?_,?_,?_⟩,?_⟩
 ·intro i x hx;rw[T0] at hx;by_cases e:i=H.nx
  ·subst e;rw[zB0 rfl] at hx;cases hx;exact l9
  rw[zB1 e] at hx;have hi:=hR.obj i x hx;exact fG.mono U0 hi (Z2 i e) fun g p hg hp=>S6 p.b (hi.lt hg hp)
 ·intro i j x y g g' q q' hx hy hg P2 hq J3 D5;rw[T0] at hx hy;by_cases e:i=H.nx
  ·by_cases f:j=H.nx
   ·exact .inl (by rw[e,f])
   subst e;rw[zB0 rfl] at hx;rw[zB1 f] at hy;cases hx;rw[Z2 j f] at J3;have D0:=(hR.obj j y hy).lt P2 J3;rw[J0 g q hg hq] at D5;omega
  by_cases f:j=H.nx
  ·subst f;rw[zB1 e] at hx;rw[zB0 rfl] at hy;cases hy;rw[Z2 i e] at hq;have D0:=(hR.obj i x hx).lt hg hq;rw[J0 g' q' P2 J3] at D5;omega
  rw[zB1 e] at hx;rw[zB1 f] at hy;rw[Z2 i e] at hq;rw[Z2 j f] at J3;exact hR.sep _ _ _ _ _ _ _ _ hx hy hg P2 hq J3 D5
 ·intro i hi;have M8:H.nx+1≤i:=hi;rw[T0,zB1 (by omega)];exact hR.wf i (by omega)
 ·intro i g hi him;have M8:H.nx+1≤i:=hi;rw[Z2 i (by omega)];exact hR.free i g (by omega) him
 refine ⟨U0,?_,G1,hos,X4,V2,fun b D5 _=>S6 b D5,?_,Nat.le_succ _,⟨[],rfl,?_⟩,?_,?_,fun _ _ b D5 _=>S6 b D5⟩
 ·intro i g q hq;by_cases e:i=H.nx
  ·subst e;exact .inr (.inl ⟨zA1 _,zA6 _⟩)
  rw[Z2 i e] at hq;exact .inl hq
 ·intro i x g q hx hg hq;rw[T0] at hx;by_cases e:i=H.nx
  ·subst e;rw[zB0 rfl] at hx;cases hx;rw[J0 g q hg hq];exact .inl hb
  rw[zB1 e] at hx;rw[Z2 i e] at hq;exact .inr ⟨x,g,q,hx,hg,hq,rfl,rfl⟩
 ·intro i hi _;rw[T0,zB1 (by omega)]
 ·intro i x hx;rw[T0,zB1 (by have:=hR.Qg hx;omega)];exact ⟨x,hx⟩
 intro i x hx;rw[T0] at hx;by_cases e:i=H.nx
 ·subst e;exact .inr ⟨zA1 _,zA6 _⟩
 rw[zB1 e] at hx;exact .inl ⟨x,hx⟩
end
theorem Rel.drew {m:Nat} {β:Pl} {H:Hp} {w:World} (hR:Rel m β H w) (n:Nat):Rel m β H { w with drawn:=n } where
 obj:=fun id o ho=>fG.mono (fun _ _ _ h=>h) (hR.obj id o ho) (fun _=>rfl) fun _ _ _ _=>rfl
 sep:=hR.sep
 wf:=hR.wf
 free:=hR.free
theorem sM {m:Nat} {β:Pl} {H:Hp} {w:World} (hR:Rel m β H w) (hm:m≤m) (W0:H.nx<m) (cells:List AC) (vs:Array Value) (e:TypeId) (hc:CRs β cells vs.toList) (w0:World)
  (h0:w0.heap=w.heap) (hos:w0.os=w.os) (X4:w0.tape=w.tape) (V2:w0.output=w.output) (extra:Array Value):
  Rel m (plus β H.nx 0 ⟨w.heap.size,0,vs.size+extra.size,cells.length⟩) (H.new (.arr cells e 0 0)) { w0 with heap:=w0.heap.push (.cells (vs++extra) e) } ∧
  Ext β H w (plus β H.nx 0 ⟨w.heap.size,0,vs.size+extra.size,cells.length⟩) (H.new (.arr cells e 0 0)) { w0 with heap:=w0.heap.push (.cells (vs++extra) e) }:=by
 have hlen:vs.size=cells.length:=by simpa using hc.length
 refine kL hR hm W0 _ _ (zA1 _) (by rw[h0];simp) hos X4 V2 ?_ ?_ ?_
 ·intro b hb;show (w0.heap.push _)[b]?=_;rw[Array.getElem?_push,zB1 (by rw[h0];omega),h0]
 ·intro g hg;have:=hg.2;omega
 refine ⟨zA1 _,?_,?_,?_⟩
 ·intro g _ hg;have U4:g=0:=by omega
  subst U4;refine ⟨_,aP _ _ _ _,⟨vs++extra,?_,by simp,by simp;omega,zA1 _,?_⟩,fun _=>rfl⟩
  ·show (w0.heap.push _)[w.heap.size]?=_;rw[←h0,Array.getElem?_push_size]
  intro k x hk hx;have O2:k<cells.length:=hk;have hkv:k<vs.size:=by omega
  refine ⟨vs[k],?_,?_⟩
  ·show (vs++extra)[0+k]?=_;rw[Nat.zero_add,Array.getElem?_append_left hkv,Array.getElem?_eq_getElem hkv]
  refine CR.mono (iH (hR.free H.nx 0 (zA1 _) W0)) (hc.get k x vs[k] hx ?_);simp[hkv]
 ·intro g g' p p' _ h1 h2 hp F2;have e1:g=0:=by omega
  have e2:g'=0:=by omega
  subst e1 e2;rw[hp] at F2;cases F2;exact ⟨zA1 _,fun _=>rfl⟩
 intro g hg;rw[bH _ _ _ _ (by omega)];exact hR.free H.nx g (zA1 _) W0
end Go.Eng
end
