/- A part of the proof: EngDef, EngRun, EngTree, EngCong, EngRel, EngSteps. No conditions. -/
import Derived.RangeFuncLeaves
import Derived.OrdersIn
import Derived.WalkKit
set_option maxRecDepth 100000
set_option maxHeartbeats 64000000
set_option linter.unusedVariables false
set_option linter.unusedSimpArgs false
noncomputable section
namespace Go
universe u
theorem zA0 {n m k:Nat} (h:n<m) (g:m≤k):n<k:=Nat.lt_of_lt_of_le h g
theorem zA1 (n:Nat):n≤n:=Nat.le_refl n
theorem zA2 {n m k:Nat} (h:n≤m) (g:m≤k):n≤k:=Nat.le_trans h g
theorem zA3 {n m:Nat} (h:Nat.beq n m=true):n=m:=Nat.eq_of_beq_eq_true h
theorem zA4 {n m:Nat} (h:Nat.ble n m=true):n≤m:=Nat.le_of_ble_eq_true h
theorem zA5 {n m:Nat} (h:n≤m):Nat.ble n m=true:=Nat.ble_eq_true_of_le h
theorem zA6 (n:Nat):n<Nat.succ n:=Nat.lt_succ_self n
theorem zA7 {n m:Nat} (h:n≤m):n≤Nat.succ m:=Nat.le_succ_of_le h
theorem zA8:¬false=true:=Bool.false_ne_true
theorem zB0 {c:Prop} {h:Decidable c} (p:c) {α:Sort u} {t e:α}:ite c t e=t:=if_pos p
theorem zB1 {c:Prop} {h:Decidable c} (p:¬c) {α:Sort u} {t e:α}:ite c t e=e:=if_neg p
theorem zB2:¬False:=not_false
theorem zB3 {a b:Prop} (x:a) (y:b):a∧b:=And.intro x y
theorem zB4 {α:Type u} {l:List α} {i:Nat} (h:i<l.length):l[i]?=some l[i]:=List.getElem?_eq_getElem h
theorem zB5 {α:Type u} [BEq α] [LawfulBEq α] {a b:α} (h:a≠b):(a==b)=false:=beq_false_of_ne h
theorem zC0 (i:Nat) (h:(i:Int)+1≤9223372036854775807):IntKind.i64.wrap ((i:Int)+1)=((i+1:Nat):Int):=by rw[IntKind.wrap_i64];omega
theorem zC1 {α:Type u} {i:Nat} {l:List α} (h:i<l.length):l.drop i=l[i]::l.drop (i+1):=List.drop_eq_getElem_cons h
theorem zC2 {α:Type u} {i:Nat} {l:List α} (h:i<l.length):l.take (i+1)=l.take i++[l[i]]:=List.take_succ_eq_append_getElem h
end Go
namespace Go.Eng
open Go
def ay {α β:Type} (o:Option α) (e:β) (f:α→β):β:=Option.rec (motive:=fun _=>β) e f o
def ifE {β:Type} (b:Bool) (x y:β):β:=Bool.rec (motive:=fun _=>β) y x b
def both (a b:Bool):Bool:=Bool.rec (motive:=fun _=>Bool) false b a
inductive PT (α:Type) where
 | leaf:PT α
 | node:PT α→Option α→PT α→PT α
def PT.get {α:Type} (t:PT α):Nat→Option α:=
 PT.rec (motive:=fun _=>Nat→Option α) (fun _=>none)
  (fun _ v _ gl gr n=>Nat.rec (motive:=fun _=>Option α) v
   (fun k _=>Bool.rec (motive:=fun _=>Option α) (gr (Nat.div k 2)) (gl (Nat.div k 2)) (Nat.beq (Nat.mod k 2) 0)) n) t
def PT.mk {α:Type} (a:Option α) (f:Nat):Nat→PT α:=
 Nat.rec (motive:=fun _=>Nat→PT α) (fun _=>.node .leaf a .leaf)
  (fun _ ih n=>Nat.rec (motive:=fun _=>PT α) (.node .leaf a .leaf)
   (fun k _=>Bool.rec (motive:=fun _=>PT α) (.node .leaf none (ih (Nat.div k 2))) (.node (ih (Nat.div k 2)) none .leaf) (Nat.beq (Nat.mod k 2) 0)) n) f
def PT.put {α:Type} (a:Option α) (t:PT α):Nat→PT α:=
 PT.rec (motive:=fun _=>Nat→PT α) (fun n=>PT.mk a n n)
  (fun l v r sl sr n=>Nat.rec (motive:=fun _=>PT α) (.node l a r)
   (fun k _=>Bool.rec (motive:=fun _=>PT α) (.node l v (sr (Nat.div k 2))) (.node (sl (Nat.div k 2)) v r) (Nat.beq (Nat.mod k 2) 0)) n) t
def PT.set {α:Type} (t:PT α) (n:Nat) (a:α):PT α:=PT.put (some a) t n
def PT.del {α:Type} (t:PT α) (n:Nat):PT α:=PT.put none t n
inductive AO where
 | p (v:Value)
 | str (s:List UInt8)
 | nilP
 | nilS
 | nilM
 | nilF
 | ptr (id gen off lim:Nat)
 | sl (id gen off len sz:Nat)
 | mp (id:Nat)
 | clo (f:FuncId) (caps:List (Nat×Nat×Nat×Nat))
 | yl (id:Nat)
 | it (id:Nat)
inductive AC where
 | b (x:Bool)
 | i (k:IntKind) (n:Int)
 | o (x:AO)
inductive AV where
 | one (c:AC)
 | agg (l:List AC)
 | tup (l:List (Bool×List AC))
 | any
def avE {β:Type} (v:AV) (f:AC→β) (g:List AC→β) (h:List (Bool×List AC)→β):β:=AV.rec (motive:=fun _=>β) f g h (h []) v
def acE {β:Type} (c:AC) (f:Bool→β) (g:IntKind→Int→β) (h:AO→β):β:=AC.rec (motive:=fun _=>β) f g h c
def dz {β:Type} (v:AV) (e:β) (f:Bool→β):β:=avE v (fun c=>acE c f (fun _ _=>e) (fun _=>e)) (fun _=>e) (fun _=>e)
def eF {β:Type} (v:AV) (e:β) (f:IntKind→Int→β):β:=avE v (fun c=>acE c (fun _=>e) f (fun _=>e)) (fun _=>e) (fun _=>e)
def NA {β:Type} (v:AV) (e:β) (f:AO→β):β:=avE v (fun c=>acE c (fun _=>e) (fun _ _=>e) f) (fun _=>e) (fun _=>e)
def su {β:Type} (v:AV) (e:β) (f:Nat→Nat→Nat→Nat→β):β:=
 NA v e fun x=>AO.rec (motive:=fun _=>β) (fun _=>e) (fun _=>e) e e e e f (fun _ _ _ _ _=>e) (fun _=>e) (fun _ _=>e) (fun _=>e) (fun _=>e) x
def slE {β:Type} (v:AV) (e:β) (f:Nat→Nat→Nat→Nat→Nat→β):β:=
 NA v e fun x=>AO.rec (motive:=fun _=>β) (fun _=>e) (fun _=>e) e e e e (fun _ _ _ _=>e) f (fun _=>e) (fun _ _=>e) (fun _=>e) (fun _=>e) x
structure bF where
 key:AV
 val:AV
 born:Nat
inductive Nt where
 | map (es:List bF) (clock:Nat)
 | iter (m:Option Nat) (since:Nat) (seen:List Nat) (stepped:Nat)
 | loop (state:LoopState) (pending:Option Code) (tm:PT AV) (nt:Nat) (params:List Tmp) (assign body:Code) (defers:Nat)
 | dfr (open_:Bool)
inductive aK where
 | arr (cells:List AC) (elem:TypeId) (lo gen:Nat)
 | oth (x:Nt)
 | ro (cells:List AC)
structure Hp where
 t:PT aK
 nx:Nat
 log:List Nat
def Hp.get (h:Hp) (i:Nat):Option aK:=h.t.get i
def Hp.new (h:Hp) (o:aK):Hp:=⟨h.t.set h.nx o,Nat.add h.nx 1,h.log⟩
def Hp.mod (h:Hp) (i:Nat) (o:aK):Hp:=⟨h.t.set i o,h.nx,i::h.log⟩
def mE {β:Type} (o:Option aK) (e:β) (f:List AC→TypeId→Nat→Nat→β):β:=
 Option.rec (motive:=fun _=>β) e (fun x=>aK.rec (motive:=fun _=>β) f (fun _=>e) (fun _=>e) x) o
inductive R (α:Type) where
 | ok (l:List α)
 | bad (why:String)
def wy {α:Type} (x y:R α):R α:=
 R.rec (motive:=fun _=>R α) (fun a=>R.rec (motive:=fun _=>R α) (fun b=>.ok (a++b)) (fun s=>.bad s) y) (fun s=>.bad s) x
def cj {α β:Type} (f:α→R β) (l:List α):R β:=
 List.rec (motive:=fun _=>R β) (.bad "no way") (fun x l' ih=>List.rec (motive:=fun _=>R β) (f x) (fun _ _ _=>wy (f x) ih) l') l
def R.bind {α β:Type} (r:R α) (f:α→R β):R β:=R.rec (motive:=fun _=>R β) (fun l=>cj f l) (fun s=>.bad s) r
def aF:AV:=.tup []
def AV.cells (v:AV):List AC:=avE v (fun c=>[c]) (fun l=>l) (fun _=>[])
def AV.bz (v:AV):Bool:=avE v (fun _=>true) (fun _=>true) (fun _=>false)
def cOf:Value→AC
 | .bool b=>.b b
 | .int k n=>.i k n
 | .string s=>.o (.str s.data.toList)
 | .pointer none=>.o .nilP
 | .slice none 0 0=>.o .nilS
 | .map none=>.o .nilM
 | .nilFunc=>.o .nilF
 | v=>.o (.p v)
def ofValue:Value→AV
 | .agg cs=>.agg (cs.toList.map cOf)
 | .tuple vs=>.tup (vs.toList.map fun v=>match v with|.agg cs=>(true,cs.toList.map cOf)|v=>(false,[cOf v]))
 | v=>.one (cOf v)
def okV:Value→Bool
 | .agg cs=>cs.toList.all Value.oneCell'
 | .tuple vs=>vs.toList.isEmpty
 | _=>true
def AC.val?:AC→Option Value
 | .b x=>some (.bool x)
 | .i k n=>some (.int k n)
 | .o (.p v)=>some v
 | .o (.str s)=>some (.string ⟨s.toArray⟩)
 | .o .nilP=>some (.pointer none)
 | .o .nilS=>some (.slice none 0 0)
 | .o .nilM=>some (.map none)
 | .o .nilF=>some .nilFunc
 | _=>none
def aX:List AC→Option (List Value)
 | []=>some []
 | c::l=>
  match c.val?,aX l with
  | some v,some vs=>some (v::vs)
  | _,_=>none
def AV.val?:AV→Option Value
 | .one c=>c.val?
 | .agg l=>match aX l with|some vs=>some (.agg vs.toArray)|none=>none
 | .tup []=>some (.tuple #[])
 | _=>none
inductive OpF where
 | slot (t:Tmp)
 | cst (v:AV)
def opF:Operand→OpF
 | .tmp t=>.slot t
 | .const v=>.cst (bif okV v then ofValue v else .any)
 | .global _=>.cst .any
 | .func f=>.cst (.one (.o (.clo f [])))
def OpF.ev (x:OpF) (tm:PT AV):AV:=OpF.rec (motive:=fun _=>AV) (fun t=>ay (tm.get t) aF fun v=>v) (fun v=>v) x
def ev (tm:PT AV) (x:Operand):AV:=(opF x).ev tm
def aw {α:Type} (P:Program):Sem α→Option α
 | .pure a=>some a
 | .program k=>aw P (k P)
 | .mark _ k=>aw P k
 | _=>none
def mW (P:Program) (t:TypeId):Option Bool:=
 match P.underlying t with
 | some (.struct _)=>some true
 | some (.array _ _)=>some true
 | some _=>some false
 | none=>none
def aS (P:Program) (t:TypeId):Option Nat:=match P.info? t with|some i=>some i.size|none=>none
def cB (P:Program) (t:TypeId):Option Nat:=match P.info? t with|some i=>some i.bytes|none=>none
def aB (P:Program) (t:TypeId):Option Value:=
 match P.info? t with
 | some i=>
  match i.zero with
  | some z=>match z with
   | .tuple _=>none
   | z=>bif okV z then some z else none
  | none=>none
 | none=>none
def sm (P:Program) (t:TypeId):Option TypeId:=match P.underlying t with|some (.slice e)=>some e|_=>none
def aI (P:Program) (s:TypeId) (f:Nat):Option (Nat×TypeId×Nat):=
 match P.underlying s with
 | some (.struct fs)=>
  match fs[f]? with
  | some fd=>
   match aS P fd.type with
   | some n=>some (fd.offset,fd.type,n)
   | none=>none
  | none=>none
 | _=>none
def ic (P:Program) (t:TypeId):Option (TypeId×TypeId):=match P.underlying t with|some (.map k e)=>some (k,e)|_=>none
def loadT (P:Program) (t:TypeId):Option (Bool×Nat):=
 match mW P t,aS P t with
 | some a,some n=>some (a,n)
 | _,_=>none
def bm (P:Program) (t:TypeId):Option (TypeId×Nat):=
 match sm P t with
 | some e=>match aS P e with|some n=>some (e,n)|none=>none
 | none=>none
def bw (l:List AC):Nat:=List.rec (motive:=fun _=>Nat) 0 (fun _ _ ih=>Nat.add ih 1) l
def Gf (n:Nat):List AC→List AC:=
 Nat.rec (motive:=fun _=>List AC→List AC) (fun l=>l) (fun _ ih l=>List.rec (motive:=fun _=>List AC) [] (fun _ l' _=>ih l') l) n
def Mg (n:Nat):List AC→List AC:=
 Nat.rec (motive:=fun _=>List AC→List AC) (fun _=>[]) (fun _ ih l=>List.rec (motive:=fun _=>List AC) [] (fun x l' _=>x::ih l') l) n
def pd (l m:List AC):List AC:=List.rec (motive:=fun _=>List AC) m (fun x _ ih=>x::ih) l
def cut (l:List AC) (off n:Nat):List AC:=Mg n (Gf off l)
def eQ (l:List AC) (off:Nat) (c:List AC):List AC:=pd (Mg off l) (pd c (Gf (Nat.add off (bw c)) l))
inductive ax where
 | normal
 | exit (id:Nat)
 | ret
inductive ad where
 | val (v:AV) (h:Hp)
 | ox (l:List (AV×Hp))
 | enter (f:FuncId) (args:List AV)
 | round (id:Nat) (args:List AV)
 | bad (why:String)
def nd {α:Type} (o:Option α) (why:String) (f:α→ad):ad:=Option.rec (motive:=fun _=>ad) (.bad why) f o
def aH (b:Bool) (why:String) (n:ad):ad:=Bool.rec (motive:=fun _=>ad) (.bad why) n b
def rdO (o:Option aK) (g off lim n:Nat):Option (List AC):=
 Option.rec (motive:=fun _=>Option (List AC)) none (fun x=>aK.rec (motive:=fun _=>Option (List AC))
  (fun cells _ lo gen=>ifE (both (Nat.ble lo g) (both (Nat.ble g gen) (both (Nat.ble n lim) (Nat.ble (Nat.add off n) (bw cells))))) (some (cut cells off n)) none) (fun _=>none)
  (fun cells=>ifE (both (Nat.beq g 0) (both (Nat.ble n lim) (Nat.ble (Nat.add off n) (bw cells)))) (some (cut cells off n)) none) x) o
def eT (h:Hp) (id g off lim n:Nat):Option (List AC):=rdO (h.get id) g off lim n
def bR (h:Hp) (a:Bool) (n:Nat) (v:AV):ad:=
 su v (.bad "load - no pointer") fun id g off lim=>
  nd (eT h id g off lim n) "load - cells" fun c=>ifE a (.val (.agg c) h) (List.rec (motive:=fun _=>ad) (.bad "load - no cell") (fun x _ _=>.val (.one x) h) c)
def fQ (h:Hp) (n:Nat) (x v:AV):ad:=
 su v (.bad "store - no pointer") fun id g off lim=>
  mE (h.get id) (.bad "store - no row") fun cells e lo gen=>
   aH (both (Nat.beq g gen) (both (Nat.beq (bw x.cells) n) (both (Nat.ble n lim) (both (Nat.ble (Nat.add off n) (bw cells)) (both (Nat.ble lo gen) x.bz))))) "store - stale or of another size"
    (.val aF (h.mod id (.arr (eQ cells off x.cells) e gen gen)))
def ib (h:Hp) (cells:List AC) (e:TypeId):ad:=
 .val (.one (.o (.ptr h.nx 0 0 (bw cells)))) (h.new (.arr cells e 0 0))
def nq (z:List AC) (n:Nat):List AC:=Nat.rec (motive:=fun _=>List AC) [] (fun _ ih=>pd z ih) n
def wq:Int→Option Nat
 | .ofNat n=>some n
 | .negSucc _=>none
def BI (v:Option AV) (d:Nat):Option Nat:=ay v (some d) fun v=>eF v none fun _ n=>wq n
def aP (P:Program) (t:TypeId):Nat:=
 match P.underlying t with
 | some (.pointer _)=>0
 | some (.slice _)=>1
 | some (.map _ _)=>2
 | some (.func _ _ _)=>3
 | _=>4
def uR:AO→Nat
 | .nilP=>0
 | .nilS=>1
 | .nilM=>2
 | .nilF=>3
 | _=>5
def uK:AO→Nat
 | .ptr ..=>0
 | .sl ..=>1
 | .mp _=>2
 | .clo ..=>3
 | _=>5
def Nk (k:Nat):AV→AV→Option Bool
 | .one (.o a),.one (.o b)=>bif Nat.blt k 4&&((Nat.beq (uK a) k&&Nat.beq (uR b) k)||(Nat.beq (uR a) k&&Nat.beq (uK b) k)) then some false else none
 | _,_=>none
def IV:IntKind→Nat
 | .i8=>0|.i16=>1|.i32=>2|.i64=>3|.u8=>4|.u16=>5|.u32=>6|.u64=>7
def sameKind (a b:IntKind):Bool:=Nat.beq (IV a) (IV b)
def iE {β:Type} (a:Int) (f g:Nat→β):β:=Int.rec (motive:=fun _=>β) f g a
def iLe (a b:Int):Bool:=iE a (fun m=>iE b (fun n=>Nat.ble m n) (fun _=>false)) (fun m=>iE b (fun _=>true) (fun n=>Nat.ble n m))
def iEq (a b:Int):Bool:=iE a (fun m=>iE b (fun n=>Nat.beq m n) (fun _=>false)) (fun m=>iE b (fun _=>false) (fun n=>Nat.beq m n))
def pR (k:IntKind) (n:Int):Int:=
 ifE (Nat.beq (IV k) 3) (iE n (fun m=>ifE (Nat.ble 9223372036854775808 m) (k.wrap n) n) (fun m=>ifE (Nat.ble 9223372036854775808 m) (k.wrap n) n)) (k.wrap n)
inductive BF where
 | i (f:IntKind→Int→Int→Int)
 | b (f:Int→Int→Bool)
 | no
def dV (op:BinOp):BF:=
 match op with
 | .add=>.i fun k a b=>pR k (Int.add a b)
 | .sub=>.i fun k a b=>pR k (Int.sub a b)
 | .mul=>.i fun k a b=>pR k (Int.mul a b)
 | .eql=>.b iEq
 | .neq=>.b fun a b=>!iEq a b
 | .lss=>.b fun a b=>!iLe b a
 | .leq=>.b iLe
 | .gtr=>.b fun a b=>!iLe a b
 | .geq=>.b fun a b=>iLe b a
 | _=>.no
def bEq (a b:UInt8):Bool:=Nat.beq a.toNat b.toNat
def lEq (x:List UInt8):List UInt8→Bool:=
 List.rec (motive:=fun _=>List UInt8→Bool) (fun y=>List.rec (motive:=fun _=>Bool) true (fun _ _ _=>false) y)
  (fun a _ ih y=>List.rec (motive:=fun _=>Bool) false (fun b y' _=>both (bEq a b) (ih y')) y) x
def aW (x:List UInt8):List UInt8→Bool:=
 List.rec (motive:=fun _=>List UInt8→Bool) (fun y=>List.rec (motive:=fun _=>Bool) false (fun _ _ _=>true) y)
  (fun a _ ih y=>List.rec (motive:=fun _=>Bool) false (fun b y' _=>ifE (Nat.blt a.toNat b.toNat) true (both (bEq a b) (ih y'))) y) x
def Yu (op:BinOp):Option (List UInt8→List UInt8→Bool):=
 match op with
 | .eql=>some lEq
 | .neq=>some fun a b=>!lEq a b
 | .lss=>some aW
 | .leq=>some fun a b=>aW a b||lEq a b
 | .gtr=>some fun a b=>!(aW a b||lEq a b)
 | .geq=>some fun a b=>!aW a b
 | _=>none
def ij {β:Type} (v:AV) (e:β) (f:List UInt8→β):β:=
 NA v e fun x=>AO.rec (motive:=fun _=>β) (fun _=>e) f e e e e (fun _ _ _ _=>e) (fun _ _ _ _ _=>e) (fun _=>e) (fun _ _=>e) (fun _=>e) (fun _=>e) x
def bA (P:Program) (kt:TypeId):Nat:=
 match P.underlying kt with
 | some .string=>0
 | some (.int _)=>1
 | some .bool=>3
 | some _=>2
 | none=>3
def jF (P:Program) (kt:TypeId) (a b:AV):Option Bool:=
 Nat.rec (motive:=fun _=>Option Bool) (ij a none fun x=>ij b none fun y=>some (lEq x y))
  (fun k _=>Nat.rec (motive:=fun _=>Option Bool) (eF a none fun k x=>eF b none fun k' y=>ifE (sameKind k k') (some (iEq x y)) none)
   (fun k _=>Nat.rec (motive:=fun _=>Option Bool) (ay a.val? none fun x=>ay b.val? none fun y=>aw P (Op.equal kt x y)) (fun _ _=>none) k) k) (bA P kt)
def jO (P:Program) (kt:TypeId) (k:AV) (l:List bF):Option (Option bF):=
 List.rec (motive:=fun _=>Option (Option bF)) (some none) (fun e _ ih=>ay (jF P kt k e.key) none fun b=>ifE b (some (some e)) ih) l
def iy (P:Program) (empty:Bool) (kt:TypeId) (k:AV):Option Unit:=
 Nat.rec (motive:=fun _=>Option Unit) (ij k none fun _=>some ())
  (fun n _=>Nat.rec (motive:=fun _=>Option Unit) (eF k none fun _ _=>some ())
   (fun n _=>Nat.rec (motive:=fun _=>Option Unit) (ay k.val? none fun v=>aw P (Instr.checkKey empty 10000 kt v)) (fun _ _=>none) n) n) (bA P kt)
def sameKey (P:Program) (kt:TypeId) (a b:AV):Bool:=
 Nat.rec (motive:=fun _=>Bool) (ij a false fun x=>ij b false fun y=>lEq x y)
  (fun n _=>Nat.rec (motive:=fun _=>Bool) (eF a false fun k x=>eF b false fun k' y=>both (sameKind k k') (iEq x y))
   (fun _ _=>ay a.val? false fun x=>ay b.val? false fun y=>Instr.sameBits 10000 x y) n) (bA P kt)
def my (P:Program) (kt:TypeId) (k x:AV) (l:List bF):Option (Bool×List bF):=
 List.rec (motive:=fun _=>Option (Bool×List bF)) (some (false,[]))
  (fun e es ih=>ay (jF P kt k e.key) none fun b=>ifE b (ifE (sameKey P kt e.key k) (some (true,⟨k,x,e.born⟩::es)) none) (ay ih none fun r=>some (r.1,e::r.2))) l
def Oj:AV→Bool×List AC
 | .one a=>(false,[a])
 | .agg l=>(true,l)
 | .tup _=>(false,[])
 | .any=>(false,[])
def Rp (k v:AV):AV:=.tup [Oj k,Oj v]
def nG (k v:AV):AV:=.tup [(false,[.b true]),Oj k,Oj v]
def bC (h:Hp) (ok:Bool) (v:AV) (b:Bool):ad:=
 match ok with
 | false=>.val v h
 | true=>aH v.bz "lookup - tuple" (.val (.tup [Oj v,(false,[.b b])]) h)
def bk (P:Program) (h:Hp) (kt:TypeId) (z:AV) (m k:AV) (ok:Bool):ad:=
 match m with
 | .one (.o .nilM)=>nd (iy P true kt k) "lookup - key" fun _=>bC h ok z false
 | .one (.o (.mp id))=>
  match h.get id with
  | some (.oth (.map es _))=>nd (iy P es.isEmpty kt k) "lookup - key" fun _=>
   match jO P kt k es with
   | some (some e)=>bC h ok e.val true
   | some none=>bC h ok z false
   | none=>.bad "lookup - keys"
  | _=>.bad "lookup - no map"
 | _=>.bad "lookup - not a map"
def aT (P:Program) (h:Hp) (kt:TypeId) (m k x:AV):ad:=
 match m with
 | .one (.o (.mp id))=>
  match h.get id with
  | some (.oth (.map es clock))=>nd (iy P false kt k) "mapUpdate - key" fun _=>aH (both k.bz x.bz) "mapUpdate - tuple" <| nd (my P kt k x es) "mapUpdate - keys" fun r=>
   ifE r.1 (.val aF (h.mod id (.oth (.map r.2 clock)))) (.val aF (h.mod id (.oth (.map (es++[⟨k,x,clock⟩]) (Nat.add clock 1)))))
  | _=>.bad "mapUpdate - no map"
 | _=>.bad "mapUpdate - nil or not a map"
def xg:AV:=.tup [(false,[.b false])]
def gF (h:Hp):AV→ad
 | .one (.o (.it r))=>
  match h.get r with
  | some (.oth (.iter none _ _ _))=>.val xg h
  | some (.oth (.iter (some m) since seen last))=>
   match h.get m with
   | some (.oth (.map es clock))=>
    aH (!(!seen.isEmpty&&!es.isEmpty&&es.all (fun e=>Nat.ble last e.born))) "next - all gone" <|
     match es.filter (fun e=>!seen.contains e.born) with
     | []=>.val xg h
     | e::l=>
      aH ((e::l).all fun e=>Nat.blt e.born since) "next - new entries"
       (.ox ((e::l).map fun e=>(nG e.key e.val,h.mod r (.oth (.iter (some m) since (seen++[e.born]) clock)))))
   | _=>.bad "next - no map"
  | _=>.bad "next - no iterator"
 | _=>.bad "next - not an iterator"
def gJ (h:Hp):AV→ad
 | .one (.o (.it r))=>
  match h.get r with
  | some (.oth (.iter (some m) _ seen stepped))=>
   match h.get m with
   | some (.oth (.map es clock))=>
    match seen.getLast? with
    | some st=>
     aH (Nat.beq clock stepped) "entry - clock" <|
      match es.find? (fun e=>Nat.beq e.born st) with
      | some e=>.val (Rp e.key e.val) h
      | none=>.bad "entry - gone"
    | none=>.bad "entry - no step"
   | _=>.bad "entry - no map"
  | _=>.bad "entry - no iterator"
 | _=>.bad "entry - not an iterator"
def jf (h:Hp) (sz:Nat):AV→Option (Nat×List AC)
 | .one (.o (.sl id g off len sz'))=>
  match Nat.beq sz' sz,eT h id g off (Nat.mul len sz) (Nat.mul len sz) with
  | true,some c=>some (len,c)
  | _,_=>none
 | .one (.o .nilS)=>some (0,[])
 | _=>none
def dn (h:Hp) (e sz by_:Nat) (n:Nat) (c:List AC) (s:AV):ad:=
 match s with
 | .one (.o .nilS)=>
  ifE (Nat.beq n 0) (.val s h)
   (aH (both (Nat.ble n 140737488355328) (Nat.ble (Nat.mul n by_) 140737488355328)) "append - too much"
    (.val (.one (.o (.sl h.nx 0 0 n sz))) (h.new (.arr c e 0 0))))
 | .one (.o (.sl id g off len sz'))=>
  mE (h.get id) (.bad "append - no row") fun cells e' lo gen=>
   aH (both (Nat.beq sz' sz) (both (Nat.beq e' e) (both (Nat.ble lo g) (both (Nat.ble g gen) (both (Nat.ble (Nat.add off (Nat.mul len sz)) (bw cells))
     (both (Nat.ble (Nat.add len n) 140737488355328) (Nat.ble (Nat.mul (Nat.add len n) by_) 140737488355328))))))) "append - stale or too much"
    (ifE (Nat.beq n 0) (.val s h)
     (ifE (both (Nat.beq g gen) (both (Nat.beq off 0) (Nat.beq (Nat.mul len sz) (bw cells))))
      (.val (.one (.o (.sl id (Nat.add gen 1) 0 (Nat.add len n) sz))) (h.mod id (.arr (pd cells c) e lo (Nat.add gen 1))))
      (.val (.one (.o (.sl id (Nat.add gen 1) 0 (Nat.add len n) sz))) (h.mod id (.arr (pd (cut cells off (Nat.mul len sz)) c) e (Nat.add gen 1) (Nat.add gen 1))))))
 | _=>.bad "append - no slice"
def aV (P:Program) (h:Hp) (t:TypeId) (s x:AV):ad:=
 nd (bm P t) "append - type" fun es=>nd (cB P es.1) "append - bytes" fun by_=>nd (aB P es.1) "append - zero" fun z=>
  aH (both (!Nat.beq es.2 0) (Nat.beq (bw (ofValue z).cells) es.2)) "append - size 0" <|
   nd (jf h es.2 x) "append - what is appended" fun nc=>dn h es.1 es.2 by_ nc.1 nc.2 s
def BU (P:Program) (h:Hp) (t:TypeId) (d s:AV):ad:=
 nd (bm P t) "copy - type" fun es=>
  match d,s with
  | .one (.o (.sl id g off len sz1)),.one (.o (.sl id2 g2 off2 len2 sz2))=>
   aH (both (Nat.beq sz1 es.2) (Nat.beq sz2 es.2)) "copy - sizes" <|
    nd (eT h id2 g2 off2 (Nat.mul len2 es.2) (Nat.mul (ifE (Nat.ble len2 len) len2 len) es.2)) "copy - source" fun c=>
     mE (h.get id) (.bad "copy - no row") fun cells e' lo gen=>
      aH (both (Nat.beq g gen) (both (Nat.ble (Nat.add off (Nat.mul (ifE (Nat.ble len2 len) len2 len) es.2)) (bw cells)) (Nat.ble lo gen))) "copy - stale"
       (.val (.one (.i .i64 (.ofNat (ifE (Nat.ble len2 len) len2 len)))) (h.mod id (.arr (eQ cells off c) e' gen gen)))
  | .one (.o (.sl ..)),.one (.o .nilS)=>.val (.one (.i .i64 (.ofNat 0))) h
  | .one (.o .nilS),.one (.o (.sl ..))=>.val (.one (.i .i64 (.ofNat 0))) h
  | .one (.o .nilS),.one (.o .nilS)=>.val (.one (.i .i64 (.ofNat 0))) h
  | _,_=>.bad "copy - not slices"
def ia:List AV→Option (List (Nat×Nat×Nat×Nat))
 | []=>some []
 | .one (.o (.ptr id g off lim))::l=>match ia l with|some r=>some ((id,g,off,lim)::r)|none=>none
 | _::_=>none
def dX:List (Nat×Nat×Nat×Nat)→List AV
 | []=>[]
 | (id,g,off,lim)::l=>.one (.o (.ptr id g off lim))::dX l
def al (P:Program) (f:FuncId):Bool:=
 match P.funcs[f]? with
 | some fn=>fn.body.isSome
 | none=>false
def lG (P:Program) (f:AV) (args:List AV):ad:=
 NA f (.bad "call - no function value") fun x=>
  AO.rec (motive:=fun _=>ad) (fun _=>.bad "call") (fun _=>.bad "call") (.bad "call - nil") (.bad "call - nil") (.bad "call - nil") (.bad "call - nil") (fun _ _ _ _=>.bad "call") (fun _ _ _ _ _=>.bad "call") (fun _=>.bad "call")
   (fun g caps=>aH (al P g) "call - no body" (.enter g (args++dX caps))) (fun id=>.round id args) (fun _=>.bad "call") x
def aY (x:AV):Value:=match x.val? with|some v=>v|none=>undef
def an (P:Program) (tm:PT AV) (h:Hp) (o:Oper):ad:=
 aH (o.op.operands.toList.all (fun x=>(ev tm x).val?.isSome)) "plain - an address" <|
  match aw P (execOp (fun x=>aY (ev tm x)) o) with
  | some (.value v)=>aH (okV v) "plain - value" (.val (ofValue v) h)
  | _=>.bad "plain - no value"
def cC (place:Nat→Option (Nat×Nat)):List (Nat×Operand)→Option (List (Nat×Nat×OpF))
 | []=>some []
 | (i,x)::l=>
  match place i,cC place l with
  | some p,some r=>some ((p.1,p.2,opF x)::r)
  | _,_=>none
def eZ (tm:PT AV) (parts:List (Nat×Nat×OpF)):List AC→Option (List AC):=
 List.rec (motive:=fun _=>List AC→Option (List AC)) (fun cells=>some cells)
  (fun x _ ih cells=>
   ifE (both (Nat.beq (bw (x.2.2.ev tm).cells) x.2.1) (both (Nat.ble (Nat.add x.1 x.2.1) (bw cells)) (x.2.2.ev tm).bz)) (ih (eQ cells x.1 (x.2.2.ev tm).cells)) none) parts
def ca (P:Program) (t:TypeId):Option (Nat→Option (Nat×Nat)):=
 match P.underlying t with
 | some (.struct fs)=>
  match fs.toList.mapM (fun f=>(P.info? f.type).map fun i=>(f.offset,i.size)) with
  | some places=>some fun i=>places.toArray[i]?
  | none=>none
 | some (.array _ el)=>
  match P.info? el with
  | some ie=>some fun i=>some (i*ie.size,ie.size)
  | none=>none
 | _=>none
def oo (h:Hp) (z:List AC) (tm:PT AV) (parts:List (Nat×Nat×OpF)):ad:=nd (eZ tm parts z) "build - fill" fun c=>.val (.agg c) h
def iF (h:Hp) (z:List AC) (tm:PT AV) (e sz len:Nat) (parts:List (Nat×Nat×OpF)):ad:=
 nd (eZ tm parts z) "buildSlice - fill" fun c=>.val (.one (.o (.sl h.nx 0 0 len sz))) (h.new (.arr c e 0 0))
def cN (h:Hp) (sz':Nat) (x:AV) (lo hi:Option AV) (alt:ad):ad:=
 slE x alt fun id g off len sz=>
  nd (BI lo 0) "slice - low" fun l=>nd (BI hi len) "slice - high" fun r=>
   aH (both (Nat.beq sz sz') (both (Nat.ble l r) (Nat.ble r len))) "slice - out" (.val (.one (.o (.sl id g (Nat.add off (Nat.mul l sz)) (Nat.sub r l) sz))) h)
def cd (h:Hp) (x:AV) (i:Nat):ad:=
 avE x (fun _=>.bad "extract - no tuple") (fun _=>.bad "extract - no tuple") fun l=>
  Nat.rec (motive:=fun _=>List (Bool×List AC)→ad)
   (fun l=>List.rec (motive:=fun _=>ad) (.bad "extract") (fun x _ _=>
    ifE x.1 (.val (.agg x.2) h) (List.rec (motive:=fun _=>ad) (.bad "extract") (fun c m _=>List.rec (motive:=fun _=>ad) (.val (.one c) h) (fun _ _ _=>.bad "extract") m) x.2)) l)
   (fun _ ih l=>List.rec (motive:=fun _=>ad) (.bad "extract") (fun _ l' _=>ih l') l) i l
def gU (P:Program) (h:Hp) (t:TypeId) (l c:AV):ad:=
 nd (bm P t) "makeSlice - type" fun es=>nd (cB P es.1) "makeSlice - bytes" fun by_=>nd (aB P es.1) "makeSlice - zero" fun z=>
  eF l (.bad "makeSlice - sizes unknown") fun _ n=>eF c (.bad "makeSlice - sizes unknown") fun _ m=>nd (wq n) "makeSlice - negative" fun n=>nd (wq m) "makeSlice - negative" fun m=>
   aH (both (Nat.ble n m) (both (Nat.ble m 1073741824) (both (Nat.ble (Nat.mul m by_) 140737488355328) (Nat.beq (bw (ofValue z).cells) es.2)))) "makeSlice - sizes"
    (.val (.one (.o (.sl h.nx 0 0 n es.2))) (h.new (.arr (nq (ofValue z).cells m) es.1 0 0)))
def iH (h:Hp) (x:AV):ad:=
 match x with
 | .one (.o .nilM)=>.val (.one (.o (.it h.nx))) (h.new (.oth (.iter none 0 [] 0)))
 | .one (.o (.mp m))=>
  match h.get m with
  | some (.oth (.map _ clock))=>.val (.one (.o (.it h.nx))) (h.new (.oth (.iter (some m) clock [] clock)))
  | _=>.bad "range - no map"
 | _=>.bad "range - of what"
def eu (P:Program) (t:TypeId):Option Nat:=
 match P.underlying t with
 | some .string=>some 0
 | some (.slice _)=>some 1
 | some (.map _ _)=>some 2
 | _=>none
def IT (l:List UInt8):Nat:=List.rec (motive:=fun _=>Nat) 0 (fun _ _ ih=>Nat.add ih 1) l
def Cm (n:Nat):AV:=.one (.i .i64 (.ofNat n))
def dQ (h:Hp) (x:AV):ad:=
 match x with
 | .one (.o .nilM)=>.val (Cm 0) h
 | .one (.o (.mp id))=>
  match h.get id with
  | some (.oth (.map es _))=>.val (Cm es.length) h
  | _=>.bad "len - no map"
 | _=>.bad "len - not a map"
def Ta (x:AV):Bool:=
 NA x false fun x=>AO.rec (motive:=fun _=>Bool) (fun _=>false) (fun _=>false) false true false false (fun _ _ _ _=>false) (fun _ _ _ _ _=>false) (fun _=>false) (fun _ _=>false) (fun _=>false) (fun _=>false) x
def cG (h:Hp) (k:Nat) (x:AV):ad:=
 Nat.rec (motive:=fun _=>ad) (ij x (.bad "len - not a string") fun s=>.val (Cm (IT s)) h)
  (fun k' _=>Nat.rec (motive:=fun _=>ad) (slE x (aH (Ta x) "len - not a slice" (.val (Cm 0) h)) fun _ _ _ len _=>.val (Cm len) h) (fun _ _=>dQ h x) k') k
def nR (h:Hp) (kd:Nat) (op:BinOp) (x y:AV) (alt:ad):ad:=
 match Nk kd x y with
 | some b=>
  match op with
  | .eql=>.val (.one (.b b)) h
  | .neq=>.val (.one (.b (!b))) h
  | _=>.bad "binOp - addresses"
 | none=>alt
def kD (h:Hp) (f:BF) (k:IntKind) (a:Int) (k':IntKind) (b:Int) (alt:ad):ad:=
 ifE (sameKind k k') (BF.rec (motive:=fun _=>ad) (fun f=>.val (.one (.i k (f k a b))) h) (fun f=>.val (.one (.b (f a b))) h) alt f) alt
def kF (h:Hp) (kd:Nat) (op:BinOp) (x y:AV) (alt:ad):ad:=
 ij x (nR h kd op x y alt) fun a=>ij y alt fun b=>ay (Yu op) alt fun f=>.val (.one (.b (f a b))) h
def bp (h:Hp) (kd:Nat) (op:BinOp) (f:BF) (x y:AV) (alt:ad):ad:=
 avE x (fun c=>acE c (fun _=>alt) (fun k a=>eF y alt fun k' b=>kD h f k a k' b alt) (fun _=>kF h kd op x y alt)) (fun _=>alt) (fun _=>alt)
def dA (h:Hp) (fo n:Nat) (x:AV):ad:=
 su x (.bad "fieldAddr - no pointer") fun id g off lim=>
  aH (both (Nat.ble 1 n) (Nat.ble (Nat.add fo n) lim)) "fieldAddr - lim" (.val (.one (.o (.ptr id g (Nat.add off fo) (Nat.sub lim fo)))) h)
def ct (h:Hp) (sz':Nat) (x i:AV):ad:=
 slE x (.bad "indexAddr - no slice") fun id g off len sz=>eF i (.bad "indexAddr - index") fun _ n=>nd (wq n) "indexAddr - negative" fun n=>
  aH (both (Nat.beq sz sz') (Nat.blt n len)) "indexAddr - out" (.val (.one (.o (.ptr id g (Nat.add off (Nat.mul n sz)) sz))) h)
def VQ (n:Nat):List UInt8→Option UInt8:=
 Nat.rec (motive:=fun _=>List UInt8→Option UInt8) (fun l=>List.rec (motive:=fun _=>Option UInt8) none (fun x _ _=>some x) l)
  (fun _ ih l=>List.rec (motive:=fun _=>Option UInt8) none (fun _ l' _=>ih l') l) n
def iI (h:Hp) (isStr:Bool) (x i:AV) (alt:ad):ad:=
 ifE isStr (ij x alt fun s=>eF i alt fun _ n=>nd (wq n) "index - negative" fun n=>nd (VQ n s) "index - out" fun b=>.val (.one (.i .u8 (.ofNat b.toNat))) h) alt
def Jg (h:Hp) (op:UnOp) (x:AV) (alt:ad):ad:=
 match op with
 | .not=>dz x alt fun b=>.val (.one (.b (!b))) h
 | _=>alt
def VY (n:Nat) (l:List AC):Option AC:=List.rec (motive:=fun _=>Option AC) none (fun x _ _=>some x) (Gf n l)
def qL (h:Hp) (fo n:Nat) (a:Bool) (x:AV):ad:=
 avE x (fun _=>.bad "field - no struct") (fun l=>ifE a (aH (Nat.ble (Nat.add fo n) (bw l)) "field - part" (.val (.agg (cut l fo n)) h)) (nd (VY fo l) "field - part" fun c=>.val (.one c) h)) (fun _=>.bad "field - no struct")
inductive SF where
 | mk (f:PT AV→Hp→ad)
def SF.run (s:SF):PT AV→Hp→ad:=SF.rec (motive:=fun _=>PT AV→Hp→ad) (fun f=>f) s
def evs (l:List Operand) (tm:PT AV):List AV:=List.rec (motive:=fun _=>List AV) [] (fun x _ ih=>(opF x).ev tm::ih) l
def kW (why:String):SF:=.mk fun _ _=>.bad why
def ndF {α:Type} (o:Option α) (why:String) (f:α→SF):SF:=Option.rec (motive:=fun _=>SF) (kW why) f o
def jd (P:Program) (o:Oper) (b:Builtin) (args:List Operand) (ts:List TypeId):SF:=
 match b,args,ts with
 | .append,[s,x],[t,t2]=>ifE (Nat.beq t t2) (.mk fun tm h=>aV P h t (ev tm s) (ev tm x)) (kW "append - types")
 | .copy,[d,s],[t,t2]=>ifE (Nat.beq t t2) (.mk fun tm h=>BU P h t (ev tm d) (ev tm s)) (kW "copy - types")
 | .len,[x],[t]=>ndF (eu P t) "len - type" fun k=>.mk fun tm h=>cG h k ((opF x).ev tm)
 | .min,_,_=>.mk fun tm h=>an P tm h o
 | .max,_,_=>.mk fun tm h=>an P tm h o
 | _,_,_=>kW "builtin"
def tg (P:Program) (o:Oper) (c:Call):SF:=
 match c.callee with
 | .value f=>.mk fun tm _=>lG P ((opF f).ev tm) (evs c.args.toList tm)
 | .builtin b=>jd P o b c.args.toList c.argTypes.toList
 | .invoke ..=>kW "invoke"
def mz (P:Program) (t:TypeId):Bool:=match P.underlying t with|some .string=>true|_=>false
def Pv (x:OpF):SF:=OpF.rec (motive:=fun _=>SF) (fun t=>.mk fun tm h=>.val (ay (tm.get t) aF fun v=>v) h) (fun v=>.mk fun _ h=>.val v h) x
def Wy (c a b:OpF):SF:=.mk fun tm h=>dz (c.ev tm) (.bad "pick") fun x=>.val (ifE x (a.ev tm) (b.ev tm)) h
def fX (h:Hp) (v:AV):ad:=
 NA v (.bad "nilCheck") fun x=>
  AO.rec (motive:=fun _=>ad) (fun _=>.bad "nilCheck") (fun _=>.bad "nilCheck") (.bad "nilCheck") (.bad "nilCheck") (.bad "nilCheck") (.bad "nilCheck") (fun _ _ _ _=>.val v h) (fun _ _ _ _ _=>.bad "nilCheck") (fun _=>.bad "nilCheck")
   (fun _ _=>.val v h) (fun _=>.bad "nilCheck") (fun _=>.bad "nilCheck") x
def ao (P:Program) (o:Oper):SF:=
 match o.op with
 | .move x=>Pv (opF x)
 | .assign x=>Pv (opF x)
 | .pick c a b=>Wy (opF c) (opF a) (opF b)
 | .alloc e=>ndF (aB P e) "alloc - zero" fun z=>.mk fun _ h=>ib h (ofValue z).cells e
 | .box e x=>.mk fun tm h=>aH ((opF x).ev tm).bz "box - a tuple" (ib h ((opF x).ev tm).cells e)
 | .build t parts=>ndF (aB P t) "build - zero" fun z=>ndF (ca P t) "build - type" fun pl=>ndF (cC pl parts.toList) "build - parts" fun ps=>.mk fun tm h=>oo h (ofValue z).cells tm ps
 | .buildSlice t len parts=>ndF (bm P t) "buildSlice - type" fun es=>ndF (aB P es.1) "buildSlice - zero" fun z=>
  ifE (both (Nat.ble (Nat.mul len es.2) 16777216) (Nat.beq (bw (ofValue z).cells) es.2))
   (ndF (cC (fun i=>some (i*es.2,es.2)) parts.toList) "buildSlice - parts" fun ps=>.mk fun tm h=>iF h (nq (ofValue z).cells len) tm es.1 es.2 len ps) (kW "buildSlice - too much")
 | .load t a=>ndF (loadT P t) "load - type" fun p=>.mk fun tm h=>bR h p.1 p.2 ((opF a).ev tm)
 | .store t a x=>ndF (aS P t) "store - type" fun n=>.mk fun tm h=>fQ h n ((opF x).ev tm) ((opF a).ev tm)
 | .nilCheck x=>.mk fun tm h=>fX h ((opF x).ev tm)
 | .binOp op t x y _=>.mk fun tm h=>bp h (aP P t) op (dV op) ((opF x).ev tm) ((opF y).ev tm) (an P tm h o)
 | .fieldAddr s x f=>ndF (aI P s f) "fieldAddr - type" fun p=>.mk fun tm h=>dA h p.1 p.2.2 ((opF x).ev tm)
 | .field t x f=>ndF (aI P t f) "field - type" fun p=>ndF (mW P p.2.1) "field - type" fun a=>.mk fun tm h=>qL h p.1 p.2.2 a ((opF x).ev tm)
 | .indexAddr t x i=>ndF (bm P t) "indexAddr - type" fun p=>.mk fun tm h=>ct h p.2 ((opF x).ev tm) ((opF i).ev tm)
 | .slice t x lo hi mx=>
  match mx with
  | none=>
   match bm P t with
   | some p=>.mk fun tm h=>cN h p.2 ((opF x).ev tm) (lo.map (ev tm)) (hi.map (ev tm)) (an P tm h o)
   | none=>.mk fun tm h=>an P tm h o
  | some _=>kW "slice - three"
 | .extract x i=>.mk fun tm h=>cd h ((opF x).ev tm) i
 | .makeFunc fn first caps=>
  match fn with
  | .func f=>ifE first.isEmpty (.mk fun tm h=>nd (ia (evs caps.toList tm)) "makeFunc - captured" fun cs=>.val (.one (.o (.clo f cs))) h) (kW "makeFunc - bound")
  | _=>kW "makeFunc - kind"
 | .makeMap _ r=>
  match r with
  | none=>.mk fun _ h=>.val (.one (.o (.mp h.nx))) (h.new (.oth (.map [] 0)))
  | some _=>kW "makeMap - hint"
 | .makeSlice t l c=>.mk fun tm h=>gU P h t (ev tm l) (ev tm c)
 | .lookup t m k ok=>ndF (ic P t) "lookup - type" fun p=>ndF (aB P p.2) "lookup - zero" fun z=>.mk fun tm h=>bk P h p.1 (ofValue z) (ev tm m) (ev tm k) ok
 | .mapUpdate t m k x=>ndF (ic P t) "mapUpdate - type" fun p=>.mk fun tm h=>aT P h p.1 (ev tm m) (ev tm k) (ev tm x)
 | .insert t m k x=>ndF (ic P t) "insert - type" fun p=>.mk fun tm h=>aT P h p.1 (ev tm m) (ev tm k) (ev tm x)
 | .range t x=>ndF (ic P t) "range - type" fun _=>.mk fun tm h=>iH h (ev tm x)
 | .next x b=>
  match b with
  | true=>kW "next - string"
  | false=>.mk fun tm h=>gF h (ev tm x)
 | .entry x=>.mk fun tm h=>gJ h (ev tm x)
 | .call c=>tg P o c
 | .unOp op _ x=>.mk fun tm h=>Jg h op ((opF x).ev tm) (an P tm h o)
 | .convert ..=>.mk fun tm h=>an P tm h o
 | .index t x i=>.mk fun tm h=>iI h (mz P t) (ev tm x) (ev tm i) (an P tm h o)
 | _=>kW "operation"
def SH (P:Program) (tm:PT AV) (h:Hp) (o:Oper):ad:=(ao P o).run tm h
structure ab where
 tm:PT AV
 nt:Nat
 dfr:List Nat
def ab.put (a:ab) (d:Tmp) (v:AV):ab:=⟨a.tm.set d v,a.nt,a.dfr⟩
structure Rec where
 code:Option Nat→Code→ab→Hp→R (ax×ab×Hp)
 call:FuncId→List AV→Hp→R (AV×Hp)
def gOf (ops:List Oper):Option (Nat×Bool)→Option (Option Tmp×Bool)
 | none=>none
 | some (j,w)=>
  match ops[j]? with
  | none=>some (none,w)
  | some o=>some (o.dst,w)
def bu (tm:PT AV) (g:Option (Option Tmp×Bool)) (yes no:R (ab×Hp)):R (ab×Hp):=
 ay g yes fun p=>ay p.1 no fun t=>ay (tm.get t) no fun v=>
  AV.rec (motive:=fun _=>R (ab×Hp)) (fun c=>acE c (fun b=>ifE b (ifE p.2 yes no) (ifE p.2 no yes)) (fun _ _=>no) (fun _=>.bad "guard")) (fun _=>no) (fun _=>no) (.bad "guard") v
structure OF where
 g:Option (Option Tmp×Bool)
 dst:Option Tmp
 f:SF
 o:Oper
def fF (P:Program) (ops:List Oper) (l:List Oper):List OF:=
 List.rec (motive:=fun _=>List OF) [] (fun o _ ih=>⟨gOf ops o.guard,o.dst,ao P o,o⟩::ih) l
def pA (P:Program) (ops:Array Oper):List OF:=fF P ops.toList ops.toList
def setArgs (l:List AV):Nat→PT AV→PT AV:=
 List.rec (motive:=fun _=>Nat→PT AV→PT AV) (fun _ t=>t) (fun v _ ih k t=>ih (Nat.add k 1) (t.set k v)) l
def eM:List Tmp→List AV→PT AV→PT AV
 | p::ps,v::vs,t=>eM ps vs (t.set p v)
 | _,_,t=>t
def oA {α:Type} (l:List α):Nat:=l.length
def jr (id:Nat) (x:ax×ab×Hp):R (AV×Hp):=
 match x.2.1.dfr,x.2.2.get id with
 | [],some (.oth (.loop _ _ tm nt ps as bo d))=>
  match x.1 with
  | .normal=>.ok [(.one (.b true),x.2.2.mod id (.oth (.loop .ready none tm nt ps as bo d)))]
  | .ret=>.ok [(.one (.b false),x.2.2.mod id (.oth (.loop .done (some .ret) tm nt ps as bo d)))]
  | .exit k=>.ok [(.one (.b false),x.2.2.mod id (.oth (.loop .done (some (.exit k)) tm nt ps as bo d)))]
 | _,_=>.bad "round - its end"
def eh (rec:Rec) (id:Nat) (body:Code) (x:ax×ab×Hp):R (AV×Hp):=
 match x.1,x.2.2.get id with
 | .normal,some (.oth (.loop .ready pe tm nt ps as bo d))=>
  (rec.code (some id) body x.2.1 (x.2.2.mod id (.oth (.loop .busy pe tm nt ps as bo d)))).bind (jr id)
 | _,_=>.bad "round - assignments"
def fL (rec:Rec) (id:Nat) (args:List AV) (h:Hp):R (AV×Hp):=
 match h.get id with
 | some (.oth (.loop .ready _ tm nt params assign body _))=>
  ifE (both (Nat.beq (oA args) (oA params)) (params.all fun p=>Nat.blt p nt))
   ((rec.code (some id) assign ⟨eM params args tm,nt,[]⟩ h).bind (eh rec id body)) (.bad "round - arguments")
 | _=>.bad "round - no loop that is ready"
structure Env where
 P:Program
 fE:FuncId→List AV→Option AV
def mZ (E:Env) (rec:Rec) (f:FuncId) (args:List AV) (h:Hp):R (AV×Hp):=
 ay (E.fE f args) (rec.call f args h) fun v=>.ok [(v,h)]
def jh (E:Env) (rec:Rec) (h:Hp) (n:ad):R (AV×Hp):=
 ad.rec (motive:=fun _=>R (AV×Hp)) (fun v h'=>.ok [(v,h')]) (fun l=>.ok l) (fun f args=>mZ E rec f args h) (fun id args=>fL rec id args h) (fun s=>.bad s) n
def Tl (E:Env) (rec:Rec) (tm:PT AV) (h:Hp) (f:SF):R (AV×Hp):=jh E rec h (f.run tm h)
def fC (a:ab) (dst:Option Tmp) (v:AV) (h:Hp) (k:ab→Hp→R (ab×Hp)):R (ab×Hp):=
 ay dst (k a h) fun d=>ifE (Nat.blt d a.nt) (k (a.put d v) h) (.bad "slot")
def mo (E:Env) (rec:Rec) (a:ab) (dst:Option Tmp) (h:Hp) (k:ab→Hp→R (ab×Hp)) (n:ad):R (ab×Hp):=
 ad.rec (motive:=fun _=>R (ab×Hp)) (fun v h'=>fC a dst v h' k) (fun l=>cj (fun x=>fC a dst x.1 x.2 k) l) (fun f args=>(mZ E rec f args h).bind fun x=>fC a dst x.1 x.2 k)
  (fun id args=>(fL rec id args h).bind fun x=>fC a dst x.1 x.2 k) (fun s=>.bad s) n
def dR (E:Env) (rec:Rec) (l:List OF):ab→Hp→R (ab×Hp):=
 List.rec (motive:=fun _=>ab→Hp→R (ab×Hp)) (fun a h=>.ok [(a,h)])
  (fun o _ ih a h=>bu a.tm o.g (mo E rec a o.dst h ih (o.f.run a.tm h)) (fC a o.dst aF h ih)) l
def fg (e:Edge):Bool:=match e.ground with|.textOnly _=>false|.gcOnly _=>false|_=>true
def jx (acc:List Nat) (j:Nat):List Edge→Nat
 | []=>0
 | e::es=>bif fg e&&Nat.blt e.on j then Nat.lor (Nat.lor (Nat.shiftLeft 1 e.on) (acc.getD e.on 0)) (jx acc j es) else jx acc j es
def dw:List Nat→Nat→List Oper→List Nat
 | acc,_,[]=>acc
 | acc,j,o::os=>dw (acc++[jx acc j o.after.toList]) (Nat.add j 1) os
def XN:Operand→Option Nat
 | .tmp t=>some t
 | _=>none
def AT (ops:Array Oper):Option (Nat×Bool)→List Nat
 | none=>[]
 | some (j,_)=>
  match ops[j]? with
  | none=>[]
  | some oj=>
   match oj.dst with
   | some d=>[d]
   | none=>[]
def slotsOf (ops:Array Oper) (o:Oper):List Nat:=o.op.operands.toList.filterMap XN++AT ops o.guard
def Ik (l:List Nat) (i:Nat):Bool:=
 match l with
 | []=>false
 | x::l=>bif Nat.beq x i then true else Ik l i
def yf (ops:Array Oper) (x y:Oper):Bool:=
 (match x.dst with|some d=>Ik (slotsOf ops y) d||(match y.dst with|some d'=>Nat.beq d d'|none=>false)|none=>false) ||
 (match y.dst with|some d=>Ik (slotsOf ops x) d|none=>false)
def nh (ops:Array Oper) (m:Nat) (y:Oper):Nat→List Oper→Bool
 | _,[]=>true
 | i,x::xs=>(Nat.testBit m i||!yf ops x y)&&nh ops m y (Nat.add i 1) xs
def nQ (ops:Array Oper) (before:List Oper):List Oper→List Nat→Bool
 | [],_=>true
 | o::os,m::ms=>nh ops m o 0 before&&nQ ops (before++[o]) os ms
 | _::_,[]=>false
def kJ:Nat→List Oper→Bool
 | _,[]=>true
 | j,o::os=>(o.after.toList.all fun e=>Nat.blt e.on j||!fg e)&&kJ (Nat.add j 1) os
def dF (ops:Array Oper):Bool:=nQ ops [] ops.toList (dw [] 0 ops.toList)&&kJ 0 ops.toList
structure Did where
 idx:Nat
 V2:PT aK
 c0:Nat
 c1:Nat
 wr:List Nat
def AO.ids:AO→List Nat
 | .ptr id ..=>[id]
 | .sl id ..=>[id]
 | .mp id=>[id]
 | .clo _ cs=>cs.map fun c=>c.1
 | .yl id=>[id]
 | .it id=>[id]
 | _=>[]
def AC.ids:AC→List Nat
 | .o x=>x.ids
 | _=>[]
def AV.ids:AV→List Nat
 | .one c=>c.ids
 | .agg l=>l.flatMap AC.ids
 | .tup l=>l.flatMap fun x=>x.2.flatMap AC.ids
 | .any=>[]
def eX (o:Oper):Bool:=
 match o.op with
 | .call c=>match c.callee with|.value _=>true|_=>false
 | _=>false
def NZ (o:Oper):Bool:=
 match o.op with
 | .load ..=>true
 | .store ..=>true
 | .lookup ..=>true
 | .mapUpdate ..=>true
 | .insert ..=>true
 | .range ..=>true
 | .next ..=>true
 | .entry ..=>true
 | .call _=>true
 | _=>false
def bc (o:Oper):Nat:=bif eX o then 2 else bif NZ o then 1 else 0
def cr (a:Nat):Nat→List Nat
 | 0=>[]
 | n+1=>a::cr (Nat.add a 1) n
def bO (u:Did) (i:Nat):Bool:=Ik u.wr i||(Nat.ble u.c0 i&&Nat.blt i u.c1)
def jX (t:PT aK):List Nat→PT aK
 | []=>t
 | i::l=>jX (t.del i) l
def bU (t src:PT aK):List Nat→PT aK
 | []=>t
 | i::l=>bU (PT.put (src.get i) t i) src l
def de (u:Did):List Nat:=u.wr++cr u.c0 (Nat.sub u.c1 u.c0)
def ea (t:PT aK):List Nat→List Nat
 | []=>[]
 | i::l=>match t.get i with
  | some (.oth (.iter (some m) _ _ _))=>i::m::ea t l
  | _=>i::ea t l
def aJ (t:PT aK) (nx:Nat) (tm:PT AV) (o:Oper) (us:List Did):PT aK:=
 match bc o with
 | 0=>.leaf
 | 1=>bU .leaf t ((ea t (o.op.operands.toList.flatMap fun x=>(ev tm x).ids)).filter fun i=>Nat.blt i nx&&!us.any (bO · i))
 | _=>jX t (us.flatMap de)
def aD (m:Nat) (did:List Did):List Did:=
 List.rec (motive:=fun _=>List Did) [] (fun u _ ih=>ifE (Nat.testBit m u.idx) ih (u::ih)) did
def vT (V2:PT aK) (wr:List Nat):Bool:=List.rec (motive:=fun _=>Bool) true (fun i _ ih=>ay (V2.get i) ih fun _=>false) wr
def dZ (us:List Did) (wr:List Nat):Bool:=List.rec (motive:=fun _=>Bool) true (fun u _ ih=>both (vT u.V2 wr) ih) us
def cL (sub:PT aK) (n:Nat) (l:List Nat):List Nat:=
 List.rec (motive:=fun _=>List Nat) [] (fun i _ ih=>ifE (Nat.blt i n) (ay (sub.get i) ih fun _=>i::ih) ih) l
def cA (k:Nat) (h:Hp) (h':Hp) (us:List Did) (wr:List Nat):PT aK:=
 Nat.rec (motive:=fun _=>PT aK) (bU h.t h'.t (cr h.nx (Nat.sub h'.nx h.nx)))
  (fun k' _=>Nat.rec (motive:=fun _=>PT aK) (bU h.t h'.t (wr++cr h.nx (Nat.sub h'.nx h.nx))) (fun _ _=>bU h'.t h.t (us.flatMap de)) k') k
def note (k j:Nat) (sub:PT aK) (h h':Hp) (did:List Did) (wr:List Nat):List Did:=
 ifE (both (Nat.beq k 0) (Nat.beq h.nx h'.nx)) did (⟨j,sub,h.nx,h'.nx,wr⟩::did)
def Ur (k j:Nat) (a:ab) (dst:Option Tmp) (h:Hp) (sub:PT aK) (us did:List Did) (K:List Did→ab→Hp→R (ab×Hp)) (x:AV×Hp) (wr:List Nat):R (ab×Hp):=
 ifE (dZ us wr)
  (fC a dst x.1 ⟨cA k h x.2 us wr,x.2.nx,wr++h.log⟩ (K (note k j sub h x.2 did wr)))
  (.bad "draw - two operations that may change places touch one object")
def xe (k j:Nat) (a:ab) (dst:Option Tmp) (h:Hp) (sub:PT aK) (us did:List Did) (K:List Did→ab→Hp→R (ab×Hp)) (x:R (AV×Hp)):R (ab×Hp):=
 R.rec (motive:=fun _=>R (ab×Hp))
  (fun l=>List.rec (motive:=fun _=>R (ab×Hp)) (.bad "draw - no way")
   (fun x l' _=>List.rec (motive:=fun _=>R (ab×Hp)) (Ur k j a dst h sub us did K x (cL sub h.nx x.2.log))
    (fun _ _ _=>.bad "draw - several ways") l') l)
  (fun s=>.bad s) x
def cJ (E:Env) (rec:Rec) (l:List OF):Nat→List Nat→List Did→ab→Hp→R (ab×Hp):=
 List.rec (motive:=fun _=>Nat→List Nat→List Did→ab→Hp→R (ab×Hp)) (fun _ _ _ a h=>.ok [(a,h)])
  (fun o _ ih j ms did a h=>
   List.rec (motive:=fun _=>R (ab×Hp)) (.bad "draw - masks")
    (fun m ms' _=>
     bu a.tm o.g
      (xe (bc o.o) j a o.dst h (aJ h.t h.nx a.tm o.o (aD m did)) (aD m did) did (ih (Nat.add j 1) ms')
       (Tl E rec a.tm ⟨aJ h.t h.nx a.tm o.o (aD m did),h.nx,[]⟩ o.f))
      (fC a o.dst aF h (ih (Nat.add j 1) ms' did))) ms) l
inductive CF where
 | mk (f:Rec→Option Nat→ab→Hp→R (ax×ab×Hp))
def CF.run (c:CF):Rec→Option Nat→ab→Hp→R (ax×ab×Hp):=CF.rec (motive:=fun _=>Rec→Option Nat→ab→Hp→R (ax×ab×Hp)) (fun f=>f) c
def exE {β:Type} (e:ax) (n:β) (x:Nat→β) (r:β):β:=ax.rec (motive:=fun _=>β) n x r e
def oU (f:CF) (rec:Rec) (r:Option Nat) (x:ax×ab×Hp):R (ax×ab×Hp):=exE x.1 (f.run rec r x.2.1 x.2.2) (fun _=>.ok [x]) (.ok [x])
def mQ (id:Nat) (x:ax×ab×Hp):R (ax×ab×Hp):=exE x.1 (.ok [x]) (fun k=>ifE (Nat.beq k id) (.ok [(.normal,x.2)]) (.ok [x])) (.ok [x])
def uD (rec:Rec) (r:Option Nat) (c:Code) (x:ax×ab×Hp):R (ax×ab×Hp):=exE x.1 (rec.code r (.loop c) x.2.1 x.2.2) (fun _=>.ok [x]) (.ok [x])
def eJ (x:ab×Hp):R (ax×ab×Hp):=.ok [(.normal,x)]
def lX (r:Option Nat) (a:ab) (h:Hp):Option (Nat×Hp×ab):=
 match r with
 | none=>some (h.nx,h.new (.oth (.dfr true)),⟨a.tm,a.nt,h.nx::a.dfr⟩)
 | some l=>
  match h.get l with
  | some (.oth (.loop _ _ _ _ _ _ _ d))=>some (d,h,a)
  | _=>none
def eo (l:Nat) (a1:ab) (x:AV×Hp):R (ax×ab×Hp):=
 match x.2.get l with
 | some (.oth (.loop st pe tm nt ps as bo d))=>
  match st with
  | .busy=>.bad "rangeFunc - busy"
  | _=>
   match pe with
   | none=>.ok [(.normal,a1,x.2.mod l (.oth (.loop .exhausted pe tm nt ps as bo d)))]
   | some .ret=>.ok [(.ret,a1,x.2.mod l (.oth (.loop .exhausted pe tm nt ps as bo d)))]
   | some (.exit k)=>.ok [(.exit k,a1,x.2.mod l (.oth (.loop .exhausted pe tm nt ps as bo d)))]
   | some _=>.bad "rangeFunc - jump"
 | _=>.bad "rangeFunc - no record"
def gI (E:Env) (rec:Rec) (r:Option Nat) (f:OpF) (params:List Tmp) (assign body:Code) (a:ab) (h:Hp):R (ax×ab×Hp):=
 match lX r a h with
 | none=>.bad "rangeFunc - no loop around"
 | some (d,h1,a1)=>
  match f.ev a.tm with
  | .one (.o (.clo g caps))=>
   ifE (al E.P g) ((rec.call g (.one (.o (.yl h1.nx))::dX caps) (h1.new (.oth (.loop .ready none a.tm a.nt params assign body d)))).bind (eo h1.nx a1)) (.bad "rangeFunc - no body")
  | _=>.bad "rangeFunc - no function"
def codeF (E:Env) (c:Code):CF:=
 Code.rec (motive:=fun _=>CF)
  (.mk fun _ _ a h=>.ok [(.normal,a,h)])
  (fun _ ops draw=>Bool.rec (motive:=fun _=>CF) (.mk fun rec _ a h=>(dR E rec (pA E.P ops) a h).bind eJ)
    (ifE (dF ops) (.mk fun rec _ a h=>(cJ E rec (pA E.P ops) 0 (dw [] 0 ops.toList) [] a h).bind eJ) (.mk fun _ _ _ _=>.bad "draw - slots")) draw)
  (fun _ _ fx fy=>.mk fun rec r a h=>(fx.run rec r a h).bind (oU fy rec r))
  (fun c _ _ fx fy=>.mk fun rec r a h=>dz ((opF c).ev a.tm) (.bad "cond") fun b=>ifE b (fx.run rec r a h) (fy.run rec r a h))
  (fun id _ fx=>.mk fun rec r a h=>(fx.run rec r a h).bind (mQ id))
  (fun c fx=>.mk fun rec r a h=>(fx.run rec r a h).bind (uD rec r c))
  (fun f params assign body _ _=>.mk fun rec r a h=>gI E rec r (opF f) params.toList assign body a h)
  (fun id=>.mk fun _ _ a h=>.ok [(.exit id,a,h)])
  (fun _ fx=>fx)
  (fun _=>.mk fun _ _ a h=>.ok [(.normal,a,h)])
  (fun _=>.mk fun _ _ _ _=>.bad "goto")
  (.mk fun _ _ a h=>.ok [(.ret,a,h)])
  (fun _=>.mk fun _ _ _ _=>.bad "refuse") c
def XW (E:Env) (rec:Rec) (r:Option Nat) (c:Code) (a:ab) (h:Hp):R (ax×ab×Hp):=(codeF E c).run rec r a h
def closeAll (h:Hp):List Nat→Option Hp
 | []=>some h
 | d::ds=>match h.get d with
  | some (.oth (.dfr true))=>closeAll (h.mod d (.oth (.dfr false))) ds
  | _=>none
def fB (v:AV):Option (Bool×List AC):=avE v (fun c=>some (false,[c])) (fun l=>some (true,l)) (fun _=>none)
def jy (P:Program) (x:ResultVar):PT AV→Hp→Option (Bool×List AC):=
 match x with
 | .tmp t=>fun tm _=>ay (tm.get t) none fB
 | .cell a t=>
  match loadT P t with
  | some p=>fun tm h=>ay (tm.get a) none fun v=>ad.rec (motive:=fun _=>Option (Bool×List AC)) (fun v _=>fB v) (fun _=>none) (fun _ _=>none) (fun _ _=>none) (fun _=>none) (bR h p.1 p.2 v)
  | none=>fun _ _=>none
def bh (P:Program) (l:List ResultVar) (tm:PT AV) (h:Hp):Option (List (Bool×List AC)):=
 List.rec (motive:=fun _=>Option (List (Bool×List AC))) (some []) (fun r _ ih=>ay (jy P r tm h) none fun x=>ay ih none fun l=>some (x::l)) l
def cT:List (Bool×List AC)→AV
 | [(true,l)]=>.agg l
 | [(false,[c])]=>.one c
 | l=>.tup l
inductive FF where
 | mk (c:CF) (nt:Nat) (res:List ResultVar)
 | no
def NQ (E:Env) (f:FuncId):FF:=
 match E.P.funcs[f]? with
 | some fn=>
  match fn.body with
  | some c=>.mk (codeF E c) fn.ntmps fn.results.toList
  | none=>.no
 | none=>.no
def aC (E:Env) (res:List ResultVar) (x:ax×ab×Hp):R (AV×Hp):=
 exE x.1
  (ay (closeAll x.2.2 x.2.1.dfr) (.bad "marks") fun h2=>ay (bh E.P res x.2.1.tm h2) (.bad "results") fun l=>.ok [(cT l,h2)])
  (fun _=>.bad "exit")
  (ay (closeAll x.2.2 x.2.1.dfr) (.bad "marks") fun h2=>ay (bh E.P res x.2.1.tm h2) (.bad "results") fun l=>.ok [(cT l,h2)])
def kL:List (AV×Hp)→Nat
 | []=>0
 | x::l=>Nat.max x.2.nx (kL l)
def Zb (o:aK):aK:=aK.casesOn (motive:=fun _=>aK) o (fun c e _ gen=>.arr c e gen gen) (fun x=>.oth x) (fun c=>.ro c)
def iC (n id:Nat) (o:Option aK):Option aK:=if id<n then o else o.map Zb
def sY (n:Nat) (t src:PT aK):List Nat→PT aK
 | []=>t
 | i::l=>sY n (PT.put (iC n i (src.get i)) t i) src l
open Classical in
def rr (n:Nat) (l:List (AV×Hp)) (t:PT aK) (id:Nat):Bool:=decide (∀ x∈l,iC n id (x.2.t.get id)=iC n id (t.get id))
def wx (h h':Hp):List Nat:=h'.log.take (h'.log.length - h.log.length)
def yd (h:Hp) (l:List (AV×Hp)) (t:PT aK):Hp:=
 ⟨sY h.nx .leaf t ((cr 0 (kL l)).filter (rr h.nx l t)),kL l,l.flatMap (fun x=>wx h x.2)++h.log⟩
open Classical in
def RO (h:Hp) (l:List (AV×Hp)) (x:AV×Hp):List (AV×Hp):=
 if ∀ z∈l,z.1=x.1∧∀ id,id<h.nx→z.2.t.get id=x.2.t.get id then [(x.1,yd h l x.2.t)] else l
def mr (h:Hp) (l:List (AV×Hp)):List (AV×Hp):=
 List.rec (motive:=fun _=>List (AV×Hp)) [] (fun x l' _=>List.rec (motive:=fun _=>List (AV×Hp)) [x] (fun y l'' _=>RO h (x::y::l'') x) l') l
def oB (h:Hp) (r:R (AV×Hp)):R (AV×Hp):=R.rec (motive:=fun _=>R (AV×Hp)) (fun l=>.ok (mr h l)) (fun s=>.bad s) r
def hH (E:Env) (rec:Rec) (f:FuncId) (args:List AV) (h:Hp):R (AV×Hp):=
 FF.rec (motive:=fun _=>R (AV×Hp))
  (fun c nt res=>ifE (both (Nat.ble (oA args) nt) (Nat.ble nt 1048576)) (oB h ((c.run rec none ⟨setArgs args 0 .leaf,nt,[]⟩ h).bind (aC E res))) (.bad "too many arguments"))
  (.bad "no function") (NQ E f)
def eval (E:Env) (n:Nat):Rec:=
 Nat.rec (motive:=fun _=>Rec) ⟨fun _ _ _ _=>.bad "fuel", fun _ _ _=>.bad "fuel"⟩
  (fun _ ih=>⟨fun r c a h=>XW E ih r c a h,fun f args h=>hH E ih f args h⟩) n
theorem oW {n:Nat} (h:¬n=0):Nat.beq n 0=false:=by
 cases n with
 | zero=>exact absurd rfl h
 | succ n=>rfl
section
variable {α:Type}
theorem PT.mS (n:Nat):(PT.leaf:PT α).get n=none:=rfl
theorem PT.eY (l r:PT α) (v:Option α):(PT.node l v r).get 0=v:=rfl
theorem PT.cq (l r:PT α) (v:Option α) (k:Nat):(PT.node l v r).get (k+1)=if k % 2=0 then l.get (k / 2) else r.get (k / 2):=by
 show Bool.rec (motive:=fun _=>Option α) (r.get (Nat.div k 2)) (l.get (Nat.div k 2)) (Nat.beq (Nat.mod k 2) 0)=_;have e1:Nat.mod k 2=k % 2:=rfl;have e2:Nat.div k 2=k / 2:=rfl;rw[e1,e2];by_cases h:k % 2=0
 ·rw[zB0 h,h];rfl
 rw[zB1 h];have:Nat.beq (k % 2) 0=false:=oW h;rw[this]
theorem PT.mk_zero (a:Option α) (n:Nat):PT.mk a 0 n=.node .leaf a .leaf:=rfl
theorem PT.JD (a:Option α) (f:Nat):PT.mk a f 0=.node .leaf a .leaf:=by cases f <;> rfl
theorem PT.UX (a:Option α) (f k:Nat):PT.mk a (f+1) (k+1)=if k % 2=0 then .node (PT.mk a f (k / 2)) none .leaf else .node .leaf none (PT.mk a f (k / 2)):=by
 show Bool.rec (motive:=fun _=>PT α) (.node .leaf none (PT.mk a f (Nat.div k 2))) (.node (PT.mk a f (Nat.div k 2)) none .leaf) (Nat.beq (Nat.mod k 2) 0)=_;have e1:Nat.mod k 2=k % 2:=rfl;have e2:Nat.div k 2=k / 2:=rfl;rw[e1,e2];by_cases h:k % 2=0
 ·rw[zB0 h,h];rfl
 rw[zB1 h];have:Nat.beq (k % 2) 0=false:=oW h;rw[this]
theorem PT.Xs (a:Option α):∀ (f n m:Nat),n<2 ^ f→(PT.mk a f n).get m=if m=n then a else none:=by
 intro f;induction f with
 | zero=>
  intro n m h;have:n=0:=by simpa using h
  subst this;cases m with
  | zero=>simp[PT.mk_zero,PT.eY]
  | succ k=>simp[PT.mk_zero,PT.cq,PT.mS]
 | succ f ih=>
  intro n m h;cases n with
  | zero=>
   rw[PT.JD];cases m with
   | zero=>simp[PT.eY]
   | succ k=>simp[PT.cq,PT.mS]
  | succ k=>
   have hk:k / 2<2 ^ f:=by rw[Nat.pow_succ] at h;omega
   rw[PT.UX];cases m with
   | zero=>split <;> simp[PT.eY]
   | succ j=>
    by_cases hp:k % 2=0
    ·rw[zB0 hp,PT.cq];by_cases hj:j % 2=0
     ·rw[zB0 hj,ih _ _ hk];by_cases e:j=k
      ·subst e;simp
      rw[zB1 (by omega),zB1 (by omega)]
     rw[zB1 hj,PT.mS,zB1 (by omega)]
    rw[zB1 hp,PT.cq];by_cases hj:j % 2=0
    ·rw[zB0 hj,PT.mS,zB1 (by omega)]
    rw[zB1 hj,ih _ _ hk];by_cases e:j=k
    ·subst e;simp
    rw[zB1 (by omega),zB1 (by omega)]
theorem PT.Sn (a:Option α) (n:Nat):PT.put a .leaf n=PT.mk a n n:=rfl
theorem PT.xx (a:Option α) (l r:PT α) (v:Option α):PT.put a (.node l v r) 0=.node l a r:=rfl
theorem PT.xo (a:Option α) (l r:PT α) (v:Option α) (k:Nat):PT.put a (.node l v r) (k+1)=if k % 2=0 then .node (PT.put a l (k / 2)) v r else .node l v (PT.put a r (k / 2)):=by
 show Bool.rec (motive:=fun _=>PT α) (.node l v (PT.put a r (Nat.div k 2))) (.node (PT.put a l (Nat.div k 2)) v r) (Nat.beq (Nat.mod k 2) 0)=_;have e1:Nat.mod k 2=k % 2:=rfl;have e2:Nat.div k 2=k / 2:=rfl;rw[e1,e2];by_cases h:k % 2=0
 ·rw[zB0 h,h];rfl
 rw[zB1 h];have:Nat.beq (k % 2) 0=false:=oW h;rw[this]
theorem PT.qs (a:Option α) (t:PT α):∀ (n m:Nat),(PT.put a t n).get m=if m=n then a else t.get m:=by
 induction t with
 | leaf=>intro n m;rw[PT.Sn,PT.Xs a n n m Nat.lt_two_pow_self,PT.mS]
 | node l v r ihl ihr=>
  intro n m;cases n with
  | zero=>
   rw[PT.xx];cases m with
   | zero=>simp[PT.eY]
   | succ k=>simp[PT.cq]
  | succ k=>
   rw[PT.xo];cases m with
   | zero=>split <;> simp[PT.eY]
   | succ j=>
    by_cases hp:k % 2=0
    ·rw[zB0 hp,PT.cq,PT.cq];by_cases hj:j % 2=0
     ·rw[zB0 hj,zB0 hj,ihl];by_cases e:j=k
      ·subst e;simp
      rw[zB1 (by omega),zB1 (by omega)]
     rw[zB1 hj,zB1 hj,zB1 (by omega)]
    rw[zB1 hp,PT.cq,PT.cq];by_cases hj:j % 2=0
    ·rw[zB0 hj,zB0 hj,zB1 (by omega)]
    rw[zB1 hj,zB1 hj,ihr];by_cases e:j=k
    ·subst e;simp
    rw[zB1 (by omega),zB1 (by omega)]
theorem PT.uh (a:Option α) (t:PT α) (n m:Nat) (_:n<n+1):(PT.put a t n).get m=if m=n then a else t.get m:=PT.qs a t n m
theorem PT.ov (t:PT α) (n m:Nat) (a:α) (h:n<n+1):(t.set n a).get m=if m=n then some a else t.get m:=PT.uh _ _ _ _ h
theorem PT.cS (t:PT α) (n m:Nat) (a:α):(t.set n a).get m=if m=n then some a else t.get m:=PT.qs _ _ _ _
end
theorem bM {β:Type} (b:Bool) (x y:β):ifE b x y=if b=true then x else y:=by cases b <;> rfl
theorem Nx {α β:Type} (e:β) (f:α→β):ay none e f=e:=rfl
theorem xO {α β:Type} (a:α) (e:β) (f:α→β):ay (some a) e f=f a:=rfl
theorem ck (a b:Bool):both a b=(a&&b):=by cases a <;> cases b <;> rfl
theorem bj (l:List AC):bw l=l.length:=by
 induction l with
 | nil=>rfl
 | cons a l ih=>show Nat.add (bw l) 1=_;rw[ih];rfl
theorem xf (n:Nat):∀ l:List AC,Gf n l=l.drop n:=by
 induction n with
 | zero=>intro l;rfl
 | succ n ih=>
  intro l;cases l with
  | nil=>rfl
  | cons a l=>show Gf n l=_;rw[ih];rfl
theorem HO (n:Nat):∀ l:List AC,Mg n l=l.take n:=by
 induction n with
 | zero=>intro l;rfl
 | succ n ih=>
  intro l;cases l with
  | nil=>rfl
  | cons a l=>show a::Mg n l=_;rw[ih];rfl
theorem jM (l m:List AC):pd l m=l++m:=by
 induction l with
 | nil=>rfl
 | cons a l ih=>show a::pd l m=_;rw[ih];rfl
theorem lP (l:List AC) (off n:Nat):cut l off n=(l.drop off).take n:=by rw[cut,HO,xf]
theorem fz (l:List AC) (off:Nat) (c:List AC):eQ l off c=l.take off++(c++l.drop (off+c.length)):=by
 rw[eQ,HO,xf,jM,jM,bj];rfl
theorem BR (l:List UInt8):IT l=l.length:=by
 induction l with
 | nil=>rfl
 | cons a l ih=>show Nat.add (IT l) 1=_;rw[ih];rfl
theorem Mw (n:Nat):∀ l:List UInt8,VQ n l=l[n]?:=by
 induction n with
 | zero=>intro l;cases l <;> rfl
 | succ n ih=>intro l;cases l with|nil=>rfl|cons a l=>show VQ n l=_;rw[ih];rfl
theorem UW (n:Nat) (l:List AC):VY n l=l[n]?:=by
 unfold VY;rw[xf];have:l[n]?=(l.drop n)[0]?:=by simp
 rw[this];cases l.drop n <;> rfl
theorem Ou {α β:Type} (f:α→R β):∀ (l:List α) (outs:List β),cj f l=.ok outs→∀ x∈l,∃ o,f x=.ok o∧∀ y∈o,y∈outs:=by
 intro l;induction l with
 | nil=>intro _ _ x hx;cases hx
 | cons a l ih=>
  intro outs h x hx;cases l with
  | nil=>
   have h':f a=.ok outs:=h;have:x=a:=by simpa using hx
   subst this;exact ⟨outs,h',fun _ hy=>hy⟩
  | cons b l=>
   have h':wy (f a) (cj f (b::l))=.ok outs:=h;cases ha:f a with
   | bad s=>rw[ha] at h';cases h'
   | ok oa=>
    cases hb:cj f (b::l) with
    | bad s=>rw[ha,hb] at h';cases h'
    | ok ob=>
     rw[ha,hb] at h';have he:oa++ob=outs:=by injection h'
     subst he;rcases List.mem_cons.1 hx with rfl|hx
     ·exact ⟨oa,ha,fun y hy=>List.mem_append_left _ hy⟩
     obtain ⟨o,ho,U0⟩:=ih ob hb x hx;exact ⟨o,ho,fun y hy=>List.mem_append_right _ (U0 y hy)⟩
theorem R.dJ {α β:Type} {r:R α} {f:α→R β} {outs:List β} (h:r.bind f=.ok outs):∃ l,r=.ok l∧∀ x∈l,∃ o,f x=.ok o∧∀ y∈o,y∈outs:=by
 cases r with
 | bad s=>cases h
 | ok l=>exact ⟨l,rfl,Ou f l outs h⟩
section
variable {P:Program} {H:Hp} {tm tm':PT AV}
theorem sU:∀ {l:List Operand},(∀ x∈l,ev tm x=ev tm' x)→evs l tm=evs l tm'
 | [],_=>rfl
 | x::l,h=>by
  show ev tm x::evs l tm=ev tm' x::evs l tm';rw[h x (List.mem_cons_self ..),sU fun y hy=>h y (List.mem_cons_of_mem _ hy)]
theorem mO {place:Nat→Option (Nat×Nat)}:∀ {l:List (Nat×Operand)} {ps:List (Nat×Nat×OpF)},cC place l=some ps→(∀ x∈l.map (·.2),ev tm x=ev tm' x)→∀ cells,eZ tm ps cells=eZ tm' ps cells
 | [],ps,h,_,cells=>by cases h;rfl
 | (i,x)::l,ps,h,hx,cells=>by
  unfold cC at h;split at h
  ·rename_i p r hp hr
   cases h
   have V0:(opF x).ev tm=(opF x).ev tm':=hx x (by simp);show ifE (both (Nat.beq (bw ((opF x).ev tm).cells) p.2) (both (Nat.ble (Nat.add p.1 p.2) (bw cells)) ((opF x).ev tm).bz)) (eZ tm r (eQ cells p.1 ((opF x).ev tm).cells)) none =
    ifE (both (Nat.beq (bw ((opF x).ev tm').cells) p.2) (both (Nat.ble (Nat.add p.1 p.2) (bw cells)) ((opF x).ev tm').bz)) (eZ tm' r (eQ cells p.1 ((opF x).ev tm').cells)) none
   rw[V0,mO hr fun y hy=>hx y (by simp only[List.map_cons];exact List.mem_cons_of_mem _ hy)]
  cases h
theorem Fs {o:Oper} (hs:∀ cs b,o.op≠.select cs b) (h:∀ x∈o.op.operands.toList,ev tm x=ev tm' x):an P tm H o=an P tm' H o:=by
 unfold an;have h1:o.op.operands.toList.all (fun x=>(ev tm x).val?.isSome)=o.op.operands.toList.all (fun x=>(ev tm' x).val?.isSome):=by
  rw[Bool.eq_iff_iff,List.all_eq_true,List.all_eq_true];exact ⟨fun k x hx=>by rw[←h x hx];exact k x hx,fun k x hx=>by rw[h x hx];exact k x hx⟩
 have h2:execOp (fun x=>aY (ev tm x)) o=execOp (fun x=>aY (ev tm' x)) o:=
  execOp_congr o hs fun x hx=>by rw[h x (by simpa using hx)]
 rw[h1,h2]
theorem bE {α:Type} {o:Option α} {s:String} {f:α→SF} (h:∀ a,o=some a→(f a).run tm H=(f a).run tm' H):(ndF o s f).run tm H=(ndF o s f).run tm' H:=by
 cases o with
 | none=>rfl
 | some a=>exact h a rfl
theorem om {b:Bool} {f g:SF} (h:f.run tm H=f.run tm' H) (hg:g.run tm H=g.run tm' H):(ifE b f g).run tm H=(ifE b f g).run tm' H:=by
 cases b with
 | false=>exact hg
 | true=>exact h
theorem mk_congr {f:PT AV→Hp→ad} (h:f tm H=f tm' H):(SF.mk f).run tm H=(SF.mk f).run tm' H:=h
theorem xn {o:Oper} {c:Call} {b:Builtin} (ho:o.op=.call c) (h:∀ x∈c.args.toList,ev tm x=ev tm' x) (hp:an P tm H o=an P tm' H o):
  (jd P o b c.args.toList c.argTypes.toList).run tm H=(jd P o b c.args.toList c.argTypes.toList).run tm' H:=by
 unfold jd;split
 ·rename_i s x t t2 h1 h2
  have hs:=h s (by rw[h1];simp);have hx:=h x (by rw[h1];simp);exact om (mk_congr (by rw[hs,hx])) rfl
 ·rename_i s x t t2 h1 h2
  have hs:=h s (by rw[h1];simp);have hx:=h x (by rw[h1];simp);exact om (mk_congr (by rw[hs,hx])) rfl
 ·rename_i x t h1 h2
  have hx:(opF x).ev tm=(opF x).ev tm':=h x (by rw[h1];simp);exact bE fun k _=>mk_congr (by rw[hx])
 ·exact mk_congr hp
 ·exact mk_congr hp
 rfl
theorem IA (o:Oper) (h:∀ x∈o.op.operands.toList,ev tm x=ev tm' x):(ao P o).run tm H=(ao P o).run tm' H:=by
 have hp:(∀ cs b,o.op≠.select cs b)→an P tm H o=an P tm' H o:=fun hs=>Fs hs h;obtain ⟨dst,op,type,pos,after,guard⟩:=o;cases op with
 | move x=>
  have hx:(opF x).ev tm=(opF x).ev tm':=h x (by simp[Op.operands]);cases x with
  | tmp t=>exact congrArg (fun v=>ad.val v H) hx
  | _=>rfl
 | assign x=>
  have hx:(opF x).ev tm=(opF x).ev tm':=h x (by simp[Op.operands]);cases x with
  | tmp t=>exact congrArg (fun v=>ad.val v H) hx
  | _=>rfl
 | pick c x y=>
  have hc:(opF c).ev tm=(opF c).ev tm':=h c (by simp[Op.operands]);have hx:(opF x).ev tm=(opF x).ev tm':=h x (by simp[Op.operands]);have hy:(opF y).ev tm=(opF y).ev tm':=h y (by simp[Op.operands]);exact mk_congr (f:=fun tm h=>dz ((opF c).ev tm) (.bad "pick") fun b=>.val (ifE b ((opF x).ev tm) ((opF y).ev tm)) h) (by simp only[hc,hx,hy])
 | alloc e=>exact bE fun _ _=>rfl
 | box e x=>
  have hx:(opF x).ev tm=(opF x).ev tm':=h x (by simp[Op.operands]);exact mk_congr (f:=fun tm h=>aH ((opF x).ev tm).bz "box - a tuple" (ib h ((opF x).ev tm).cells e)) (by simp only[hx])
 | build t parts=>
  refine bE fun z _=>bE fun pl _=>bE fun ps S6=>mk_congr (f:=fun tm h=>oo h (ofValue z).cells tm ps) ?_;unfold oo;rw[mO S6 (tm:=tm) (tm':=tm') fun x hx=>h x (by simpa [Op.operands] using hx)]
 | buildSlice t len parts=>
  refine bE fun es _=>bE fun z _=>om (bE fun ps S6=>mk_congr (f:=fun tm h=>iF h (nq (ofValue z).cells len) tm es.1 es.2 len ps) ?_) rfl;unfold iF;rw[mO S6 (tm:=tm) (tm':=tm') fun x hx=>h x (by simpa [Op.operands] using hx)]
 | load t x=>
  have hx:(opF x).ev tm=(opF x).ev tm':=h x (by simp[Op.operands]);exact bE fun p _=>mk_congr (by rw[hx])
 | store t x y=>
  have hx:(opF x).ev tm=(opF x).ev tm':=h x (by simp[Op.operands]);have hy:(opF y).ev tm=(opF y).ev tm':=h y (by simp[Op.operands]);exact bE fun p _=>mk_congr (by rw[hx,hy])
 | nilCheck x=>
  have hx:(opF x).ev tm=(opF x).ev tm':=h x (by simp[Op.operands]);exact mk_congr (f:=fun tm h=>fX h ((opF x).ev tm)) (by rw[hx])
 | binOp op t x y c=>
  have hx:(opF x).ev tm=(opF x).ev tm':=h x (by simp[Op.operands]);have hy:(opF y).ev tm=(opF y).ev tm':=h y (by simp[Op.operands]);exact mk_congr (f:=fun tm h=>bp h (aP P t) op (dV op) ((opF x).ev tm) ((opF y).ev tm) (an P tm h _)) (by rw[hx,hy,hp (by intro cs b hh;cases hh)])
 | unOp op t x=>
  have hx:(opF x).ev tm=(opF x).ev tm':=h x (by simp[Op.operands]);exact mk_congr (f:=fun tm h=>Jg h op ((opF x).ev tm) (an P tm h _)) (by rw[hx,hp (by intro cs b hh;cases hh)])
 | convert s d x=>exact hp (by intro cs b hh;cases hh)
 | fieldAddr s x f=>
  have hx:(opF x).ev tm=(opF x).ev tm':=h x (by simp[Op.operands]);exact bE fun p _=>mk_congr (by rw[hx])
 | field t x f=>
  have hx:(opF x).ev tm=(opF x).ev tm':=h x (by simp[Op.operands]);exact bE fun p _=>bE fun q _=>mk_congr (by rw[hx])
 | indexAddr t x i=>
  have hx:(opF x).ev tm=(opF x).ev tm':=h x (by simp[Op.operands]);have hi:(opF i).ev tm=(opF i).ev tm':=h i (by simp[Op.operands]);exact bE fun p _=>mk_congr (by rw[hx,hi])
 | index t x i=>
  have hx:ev tm x=ev tm' x:=h x (by simp[Op.operands]);have hi:ev tm i=ev tm' i:=h i (by simp[Op.operands]);exact mk_congr (f:=fun tm h=>iI h (mz P t) (ev tm x) (ev tm i) (an P tm h _)) (by rw[hx,hi,hp (by intro cs b hh;cases hh)])
 | slice t x lo hi mx=>
  cases mx with
  | some _=>rfl
  | none=>
   have hx:(opF x).ev tm=(opF x).ev tm':=h x (by simp[Op.operands]);have B2:lo.map (ev tm)=lo.map (ev tm'):=by cases lo with
    | none=>rfl
    | some y=>exact congrArg some (h y (by simp[Op.operands]))
   have I_:hi.map (ev tm)=hi.map (ev tm'):=by cases hi with
    | none=>rfl
    | some y=>exact congrArg some (h y (by simp[Op.operands]))
   have F3:=hp (by intro cs b hh;cases hh);cases he:bm P t with
   | none=>
    have:ao P ⟨dst,.slice t x lo hi none,type,pos,after,guard⟩=.mk fun tm h=>an P tm h ⟨dst,.slice t x lo hi none,type,pos,after,guard⟩:=by
     simp[ao,he]
    rw[this];exact F3
   | some p=>
    have:ao P ⟨dst,.slice t x lo hi none,type,pos,after,guard⟩=.mk fun tm h=>cN h p.2 ((opF x).ev tm) (lo.map (ev tm)) (hi.map (ev tm)) (an P tm h ⟨dst,.slice t x lo hi none,type,pos,after,guard⟩):=by
     simp[ao,he]
    rw[this];exact mk_congr (f:=fun tm h=>cN h p.2 ((opF x).ev tm) (lo.map (ev tm)) (hi.map (ev tm)) (an P tm h _)) (by rw[hx,B2,I_,F3])
 | extract x i=>
  have hx:ev tm x=ev tm' x:=h x (by simp[Op.operands]);exact mk_congr (f:=fun tm h=>cd h (ev tm x) i) (by rw[hx])
 | makeFunc fn first caps=>
  cases fn with
  | func f=>exact om (mk_congr (by rw[sU (tm:=tm) (tm':=tm') fun x hx=>h x (by simp only[Op.operands,Array.toList_append];exact List.mem_append_right _ hx)])) rfl
  | _=>rfl
 | makeMap t r=>
  cases r with
  | some _=>rfl
  | none=>rfl
 | makeSlice t l c=>
  have hl:ev tm l=ev tm' l:=h l (by simp[Op.operands]);have hc:ev tm c=ev tm' c:=h c (by simp[Op.operands]);exact mk_congr (f:=fun tm h=>gU P h t (ev tm l) (ev tm c)) (by rw[hl,hc])
 | lookup t x k ok=>
  have hx:ev tm x=ev tm' x:=h x (by simp[Op.operands]);have hk:ev tm k=ev tm' k:=h k (by simp[Op.operands]);exact bE fun p _=>bE fun z _=>mk_congr (by rw[hx,hk])
 | mapUpdate t x k y=>
  have hx:ev tm x=ev tm' x:=h x (by simp[Op.operands]);have hk:ev tm k=ev tm' k:=h k (by simp[Op.operands]);have hy:ev tm y=ev tm' y:=h y (by simp[Op.operands]);exact bE fun p _=>mk_congr (by rw[hx,hk,hy])
 | insert t x k y=>
  have hx:ev tm x=ev tm' x:=h x (by simp[Op.operands]);have hk:ev tm k=ev tm' k:=h k (by simp[Op.operands]);have hy:ev tm y=ev tm' y:=h y (by simp[Op.operands]);exact bE fun p _=>mk_congr (by rw[hx,hk,hy])
 | range t x=>
  have hx:ev tm x=ev tm' x:=h x (by simp[Op.operands]);exact bE fun p _=>mk_congr (by rw[hx])
 | next x b=>
  have hx:ev tm x=ev tm' x:=h x (by simp[Op.operands]);cases b with
  | true=>rfl
  | false=>exact mk_congr (f:=fun tm h=>gF h (ev tm x)) (by rw[hx])
 | entry x=>
  have hx:ev tm x=ev tm' x:=h x (by simp[Op.operands]);exact mk_congr (f:=fun tm h=>gJ h (ev tm x)) (by rw[hx])
 | call c=>
  have A0:∀ x∈c.args.toList,ev tm x=ev tm' x:=fun x hx=>h x (by
   have V4:x∈c.args:=by simpa using hx
   simp[Op.operands,Call.operands,V4])
  show (tg P _ c).run tm H=(tg P _ c).run tm' H;unfold tg;split
  ·rename_i f hf
   have hff:(opF f).ev tm=(opF f).ev tm':=h f (by simp[Op.operands,Call.operands,hf]);exact mk_congr (f:=fun tm _=>lG P ((opF f).ev tm) (evs c.args.toList tm)) (by rw[hff,sU A0])
  ·exact xn rfl A0 (hp (by intro cs b hh;cases hh))
  rfl
 | _=>rfl
end
structure Place where
 b:Nat
 o:Nat
 n:Nat
 hi:Nat
abbrev Pl:=Nat→Nat→Option Place
def CRO (β:Pl):AO→Value→Prop
 | .p v,x=>x=v∧v.oneCell'=true
 | .str s,x=>x=.string ⟨s.toArray⟩
 | .nilP,x=>x=.pointer none
 | .nilS,x=>x=.slice none 0 0
 | .nilM,x=>x=.map none
 | .nilF,x=>x=.nilFunc
 | .ptr id g off lim,x=>∃ p,β id g=some p∧off+lim≤p.hi∧x=.pointer (some ⟨p.b,p.o+off,none⟩)
 | .sl id g off len sz,x=>∃ p cap o',β id g=some p∧off+len*sz≤p.hi∧len≤cap∧x=.slice (some o') len cap∧(cap=0∨(o'=⟨p.b,p.o+off,none⟩∧p.o+off+cap*sz≤p.n))
 | .mp id,x=>∃ p,β id 0=some p∧x=.map (some p.b)
 | .clo f caps,x=>∃ cs:List Value,x=.func (.func f) #[] cs.toArray∧cs.length=caps.length ∧
   ∀ (k:Nat) (c:Nat×Nat×Nat×Nat) (v:Value),caps[k]?=some c→cs[k]?=some v→∃ p,β c.1 c.2.1=some p∧c.2.2.1+c.2.2.2≤p.hi∧v=.pointer (some ⟨p.b,p.o+c.2.2.1,none⟩)
 | .yl id,x=>∃ p,β id 0=some p∧x=.func (.yield p.b) #[] #[]
 | .it id,x=>∃ p,β id 0=some p∧x=.pointer (some ⟨p.b,0,none⟩)
def CR (β:Pl):AC→Value→Prop
 | .b x,v=>v=.bool x
 | .i k n,v=>v=.int k n
 | .o x,v=>CRO β x v
def CRs (β:Pl):List AC→List Value→Prop
 | [],[]=>True
 | c::l,v::vs=>CR β c v∧CRs β l vs
 | _,_=>False
def TR (β:Pl):Bool×List AC→Value→Prop
 | (true,l),v=>∃ vs,CRs β l vs∧v=.agg vs.toArray
 | (false,[c]),v=>CR β c v
 | _,_=>False
def TRs (β:Pl):List (Bool×List AC)→List Value→Prop
 | [],[]=>True
 | c::l,v::vs=>TR β c v∧TRs β l vs
 | _,_=>False
def AR (β:Pl):AV→Value→Prop
 | .one c,v=>CR β c v
 | .agg l,v=>∃ vs,CRs β l vs∧v=.agg vs.toArray
 | .tup l,v=>∃ vs,TRs β l vs∧v=.tuple vs.toArray
 | .any,_=>True
def ARs (β:Pl):List AV→List Value→Prop
 | [],[]=>True
 | c::l,v::vs=>AR β c v∧ARs β l vs
 | _,_=>False
def ERs (β:Pl):List bF→List MapEntry→Prop
 | [],[]=>True
 | e::l,m::ms=>(AR β e.key m.key∧e.key.bz=true∧AR β e.val m.val∧e.val.bz=true∧m.born=e.born)∧ERs β l ms
 | _,_=>False
def TmR (β:Pl) (tm:PT AV) (nt:Nat) (tmps:Array Value):Prop:=
 tmps.size=nt∧nt≤1048576∧∀ t,AR β (ay (tm.get t) aF fun v=>v) (tmps.getD t undef)
def dB:aK→Nat→Prop
 | .arr _ _ lo gen,g=>lo≤g∧g≤gen
 | .oth _,g=>g=0
 | .ro _,g=>g=0
def aK.mu:aK→Bool
 | .ro _=>true
 | _=>false
def VO (o:aK) (g:Nat):Prop:=dB o g∧o.mu=false
def gY (β:Pl) (w:World) (cells:List AC) (e:TypeId) (p:Place):Prop:=
 ∃ c:Array Value,w.heap[p.b]?=some (.cells c e (0,0))∧c.size=p.n∧p.o+p.hi≤p.n∧p.hi≤cells.length ∧
  ∀ k x,k<p.hi→cells[k]?=some x→∃ v,c[p.o+k]?=some v∧CR β x v
def py (β:Pl) (w:World) (cells:List AC) (p:Place):Prop:=
 ∃ (c:Array Value) (e:TypeId) (f:Nat×Nat),w.heap[p.b]?=some (.cells c e f)∧c.size=p.n∧p.o+p.hi≤p.n∧p.hi≤cells.length ∧
  ∀ k x,k<p.hi→cells[k]?=some x→∃ v,c[p.o+k]?=some v∧CR β x v
theorem gY.d {β:Pl} {w:World} {cells:List AC} {e:TypeId} {p:Place} (h:gY β w cells e p):py β w cells p:=
 let ⟨c,h1,r⟩:=h;⟨c,e,(0,0),h1,r⟩
def Ed (β:Pl) (w:World) (p:Place):Nt→Prop
 | .map es clock=>∃ ms:List MapEntry,w.heap[p.b]?=some (.map ms.toArray clock)∧ERs β es ms
 | .iter m since seen stepped=>
  match m with
  | none=>w.heap[p.b]?=some (.mapIter none since seen.toArray stepped)
  | some i=>∃ q,β i 0=some q∧w.heap[p.b]?=some (.mapIter (some q.b) since seen.toArray stepped)
 | .loop st pe tm nt ps as bo d=>∃ q fn tmps,β d 0=some q∧TmR β tm nt tmps ∧
   w.heap[p.b]?=some (.loop { state:=st,pending:=pe,fn:=fn,tmps:=tmps,params:=ps.toArray,assign:=as,body:=bo,defers:=q.b })
 | .dfr b=>w.heap[p.b]?=some (.deferred (if b=true then some [] else none))
def fS (β:Pl) (w:World) (id:Nat):aK→Prop
 | .arr cells e lo gen=>lo≤gen ∧
   (∀ g,lo≤g→g≤gen→∃ p,β id g=some p∧gY β w cells e p∧(g=gen→p.hi=cells.length)) ∧
   (∀ g g' p p',lo≤g→g≤g'→g'≤gen→β id g=some p→β id g'=some p'→p.hi≤p'.hi∧(p.b=p'.b→p.o=p'.o)) ∧
   (∀ g,gen<g→β id g=none)
 | .oth x=>∃ p,β id 0=some p∧Ed β w p x
 | .ro cells=>∃ p,β id 0=some p∧py β w cells p
structure Rel (m:Nat) (β:Pl) (H:Hp) (w:World):Prop where
 obj:∀ id o,H.get id=some o→fS β w id o
 sep:∀ id id' o o' g g' p p',H.get id=some o→H.get id'=some o'→dB o g→dB o' g'→β id g=some p→β id' g'=some p'→p.b=p'.b→id=id'∨(o.mu=true∧o'.mu=true)
 wf:∀ id,H.nx≤id→H.get id=none
 free:∀ id g,H.nx≤id→id<m→β id g=none
structure Ext (β:Pl) (H:Hp) (w:World) (β':Pl) (H':Hp) (w':World):Prop where
 sub:∀ id g p,β id g=some p→β' id g=some p
 loc:∀ id g p,β' id g=some p→β id g=some p∨(H.nx≤id∧id<H'.nx)∨∃ o,H.get id=some o
 size:w.heap.size≤w'.heap.size
 os:w'.os=w.os
 tape:w'.tape=w.tape
 output:w'.output=w.output
 frame:∀ b,b<w.heap.size→(∀ id o g p,H.get id=some o→VO o g→β id g=some p→p.b≠b)→w'.heap[b]?=w.heap[b]?
 prov:∀ id o' g p,H'.get id=some o'→dB o' g→β' id g=some p→w.heap.size≤p.b∨∃ o g0 p0,H.get id=some o∧dB o g0∧β id g0=some p0∧p0.b=p.b∧o.mu=o'.mu
 nx:H.nx≤H'.nx
 log:∃ l,H'.log=l++H.log∧∀ id,id<H.nx→id∉l→H'.get id=H.get id
 dom:∀ id o,H.get id=some o→∃ o',H'.get id=some o'
 old:∀ id o',H'.get id=some o'→(∃ o,H.get id=some o)∨(H.nx≤id∧id<H'.nx)
 far:∀ l,H'.log=l++H.log→∀ b,b<w.heap.size→(∀ id o g p,id∈l→H.get id=some o→VO o g→β id g=some p→p.b≠b)→w'.heap[b]?=w.heap[b]?
abbrev Sub (β β':Pl):Prop:=∀ id g p,β id g=some p→β' id g=some p
section mono
variable {β β':Pl} (hs:Sub β β')
include hs
theorem CRO.mono {x:AO} {v:Value} (h:CRO β x v):CRO β' x v:=by
 cases x with
 | p v=>exact h
 | str s=>exact h
 | nilP=>exact h
 | nilS=>exact h
 | nilM=>exact h
 | nilF=>exact h
 | ptr id g off lim=>obtain ⟨p,hp,r⟩:=h;exact ⟨p,hs _ _ _ hp,r⟩
 | sl id g off len sz=>obtain ⟨p,cap,o',hp,r⟩:=h;exact ⟨p,cap,o',hs _ _ _ hp,r⟩
 | mp id=>obtain ⟨p,hp,r⟩:=h;exact ⟨p,hs _ _ _ hp,r⟩
 | clo f caps=>
  obtain ⟨cs,h1,h2,h3⟩:=h;refine ⟨cs,h1,h2,fun k c v hc hv=>?_⟩;obtain ⟨p,hp,r⟩:=h3 k c v hc hv;exact ⟨p,hs _ _ _ hp,r⟩
 | yl id=>obtain ⟨p,hp,r⟩:=h;exact ⟨p,hs _ _ _ hp,r⟩
 | it id=>obtain ⟨p,hp,r⟩:=h;exact ⟨p,hs _ _ _ hp,r⟩
theorem CR.mono {x:AC} {v:Value} (h:CR β x v):CR β' x v:=by
 cases x with
 | b x=>exact h
 | i k n=>exact h
 | o x=>exact CRO.mono hs h
theorem CRs.mono:∀ {l:List AC} {vs:List Value},CRs β l vs→CRs β' l vs
 | [],[],_=>trivial
 | _::_,_::_,h=>⟨CR.mono hs h.1,CRs.mono h.2⟩
 | [],_::_,h=>h.elim
 | _::_,[],h=>h.elim
theorem TR.mono {x:Bool×List AC} {v:Value} (h:TR β x v):TR β' x v:=by
 obtain ⟨b,l⟩:=x;cases b with
 | true=>obtain ⟨vs,h1,h2⟩:=h;exact ⟨vs,CRs.mono hs h1,h2⟩
 | false=>
  match l,h with
  | [c],h=>exact CR.mono hs h
theorem TRs.mono:∀ {l:List (Bool×List AC)} {vs:List Value},TRs β l vs→TRs β' l vs
 | [],[],_=>trivial
 | _::_,_::_,h=>⟨TR.mono hs h.1,TRs.mono h.2⟩
 | [],_::_,h=>h.elim
 | _::_,[],h=>h.elim
theorem AR.mono {x:AV} {v:Value} (h:AR β x v):AR β' x v:=by
 cases x with
 | one c=>exact CR.mono hs h
 | agg l=>obtain ⟨vs,h1,h2⟩:=h;exact ⟨vs,CRs.mono hs h1,h2⟩
 | tup l=>obtain ⟨vs,h1,h2⟩:=h;exact ⟨vs,TRs.mono hs h1,h2⟩
 | any=>trivial
theorem ARs.mono:∀ {l:List AV} {vs:List Value},ARs β l vs→ARs β' l vs
 | [],[],_=>trivial
 | _::_,_::_,h=>⟨AR.mono hs h.1,ARs.mono h.2⟩
 | [],_::_,h=>h.elim
 | _::_,[],h=>h.elim
theorem ERs.mono:∀ {l:List bF} {ms:List MapEntry},ERs β l ms→ERs β' l ms
 | [],[],_=>trivial
 | _::_,_::_,h=>⟨⟨AR.mono hs h.1.1,h.1.2.1,AR.mono hs h.1.2.2.1,h.1.2.2.2⟩,ERs.mono h.2⟩
 | [],_::_,h=>h.elim
 | _::_,[],h=>h.elim
theorem TmR.mono {tm:PT AV} {nt:Nat} {tmps:Array Value} (h:TmR β tm nt tmps):TmR β' tm nt tmps:=⟨h.1,h.2.1,fun t=>AR.mono hs (h.2.2 t)⟩
theorem gY.mono {w w':World} {cells:List AC} {e:TypeId} {p:Place} (h:gY β w cells e p) (hw:w'.heap[p.b]?=w.heap[p.b]?):gY β' w' cells e p:=by
 obtain ⟨c,h1,h2,h3,h4,h5⟩:=h;refine ⟨c,hw.trans h1,h2,h3,h4,fun k x hk hx=>?_⟩;obtain ⟨v,hv,hr⟩:=h5 k x hk hx;exact ⟨v,hv,CR.mono hs hr⟩
theorem Ed.mono {w w':World} {p:Place} {x:Nt} (h:Ed β w p x) (hw:w'.heap[p.b]?=w.heap[p.b]?):Ed β' w' p x:=by
 cases x with
 | map es clock=>obtain ⟨ms,h1,h2⟩:=h;exact ⟨ms,hw.trans h1,ERs.mono hs h2⟩
 | iter m since seen stepped=>
  cases m with
  | none=>exact hw.trans h
  | some i=>obtain ⟨q,h1,h2⟩:=h;exact ⟨q,hs _ _ _ h1,hw.trans h2⟩
 | loop st pe tm nt ps as bo d=>
  obtain ⟨q,fn,tmps,h1,h2,h3⟩:=h;exact ⟨q,fn,tmps,hs _ _ _ h1,TmR.mono hs h2,hw.trans h3⟩
 | dfr b=>exact hw.trans h
theorem fS.mono {w w':World} {id:Nat} {o:aK} (h:fS β w id o) (hn:∀ g,β' id g=β id g) (hw:∀ g p,dB o g→β id g=some p→w'.heap[p.b]?=w.heap[p.b]?):fS β' w' id o:=by
 cases o with
 | arr cells e lo gen=>
  obtain ⟨h0,h1,h2,h3⟩:=h;refine ⟨h0,fun g hl hg=>?_,fun g g' p p' a b c d e=>?_,fun g hg=>by rw[hn];exact h3 g hg⟩
  ·obtain ⟨p,hp,hr,hh⟩:=h1 g hl hg;exact ⟨p,hs _ _ _ hp,gY.mono hs hr (hw g p ⟨hl,hg⟩ hp),hh⟩
  rw[hn] at d e;exact h2 g g' p p' a b c d e
 | oth x=>
  obtain ⟨p,hp,hx⟩:=h;exact ⟨p,hs _ _ _ hp,Ed.mono hs hx (hw 0 p rfl hp)⟩
 | ro cells=>
  obtain ⟨p,hp,c,e,f,h1,h2,h3,h4,h5⟩:=h;refine ⟨p,hs _ _ _ hp,c,e,f,(hw 0 p rfl hp).trans h1,h2,h3,h4,fun k x hk hx=>?_⟩;obtain ⟨v,hv,hr⟩:=h5 k x hk hx;exact ⟨v,hv,CR.mono hs hr⟩
end mono
theorem ERs.get {β:Pl}:∀ {l:List bF} {ms:List MapEntry},ERs β l ms→l.length=ms.length
 | [],[],_=>rfl
 | _::_,_::_,h=>by simp[ERs.get h.2]
 | [],_::_,h=>h.elim
 | _::_,[],h=>h.elim
theorem CRs.length {β:Pl}:∀ {l:List AC} {vs:List Value},CRs β l vs→vs.length=l.length
 | [],[],_=>rfl
 | _::_,_::_,h=>by simp[CRs.length h.2]
 | [],_::_,h=>h.elim
 | _::_,[],h=>h.elim
theorem ARs.length {β:Pl}:∀ {l:List AV} {vs:List Value},ARs β l vs→vs.length=l.length
 | [],[],_=>rfl
 | _::_,_::_,h=>by simp[ARs.length h.2]
 | [],_::_,h=>h.elim
 | _::_,[],h=>h.elim
theorem CRs.get {β:Pl}:∀ {l:List AC} {vs:List Value},CRs β l vs→∀ (k:Nat) (c:AC) (v:Value),l[k]?=some c→vs[k]?=some v→CR β c v
 | [],[],_,k,c,v,h,_=>by simp at h
 | _::_,_::_,h,0,c,v,hc,hv=>by simp at hc hv;subst hc hv;exact h.1
 | _::_,_::_,h,k+1,c,v,hc,hv=>CRs.get h.2 k c v (by simpa using hc) (by simpa using hv)
 | [],_::_,h,_,_,_,_,_=>h.elim
 | _::_,[],h,_,_,_,_,_=>h.elim
theorem CRs.dp {β:Pl}:∀ {l:List AC} {vs:List Value},vs.length=l.length→(∀ (k:Nat) (c:AC) (v:Value),l[k]?=some c→vs[k]?=some v→CR β c v)→CRs β l vs
 | [],[],_,_=>trivial
 | c::l,v::vs,hl,h=>⟨h 0 c v rfl rfl,CRs.dp (by simpa using hl) fun k c' v' hc hv=>h (k+1) c' v' (by simpa using hc) (by simpa using hv)⟩
 | [],_::_,hl,_=>by simp at hl
 | _::_,[],hl,_=>by simp at hl
theorem CRs.append {β:Pl} {l l':List AC} {vs vs':List Value} (h:CRs β l vs) (h':CRs β l' vs'):CRs β (l++l') (vs++vs'):=by
 induction l generalizing vs with
 | nil=>cases vs with|nil=>exact h'|cons=>exact h.elim
 | cons c l ih=>cases vs with|nil=>exact h.elim|cons v vs=>exact ⟨h.1,ih h.2⟩
theorem ARs.append {β:Pl} {l l':List AV} {vs vs':List Value} (h:ARs β l vs) (h':ARs β l' vs'):ARs β (l++l') (vs++vs'):=by
 induction l generalizing vs with
 | nil=>cases vs with|nil=>exact h'|cons=>exact h.elim
 | cons c l ih=>cases vs with|nil=>exact h.elim|cons v vs=>exact ⟨h.1,ih h.2⟩
theorem CRs.take {β:Pl} {l:List AC} {vs:List Value} (h:CRs β l vs) (n:Nat):CRs β (l.take n) (vs.take n):=
 CRs.dp (by simp[h.length]) fun k c v hc hv=>by
  rw[List.getElem?_take] at hc hv;split at hc
  ·rename_i hk;rw[zB0 hk] at hv;exact h.get k c v hc hv
  cases hc
theorem CRs.drop {β:Pl} {l:List AC} {vs:List Value} (h:CRs β l vs) (n:Nat):CRs β (l.drop n) (vs.drop n):=
 CRs.dp (by simp[h.length]) fun k c v hc hv=>by
  rw[List.getElem?_drop] at hc hv;exact h.get _ c v hc hv
theorem CR.lN {β:Pl} {c:AC} {v:Value} (h:CR β c v):v.oneCell'=true:=by
 cases c with
 | b x=>cases h;rfl
 | i k n=>cases h;rfl
 | o x=>
  cases x with
  | p u=>obtain ⟨h1,h2⟩:=h;subst h1;exact h2
  | str s=>cases h;rfl
  | nilP=>cases h;rfl
  | nilS=>cases h;rfl
  | nilM=>cases h;rfl
  | nilF=>cases h;rfl
  | ptr id g off lim=>obtain ⟨p,_,_,rfl⟩:=h;rfl
  | sl id g off len sz=>obtain ⟨p,cap,o',_,_,_,rfl,_⟩:=h;rfl
  | mp id=>obtain ⟨p,_,rfl⟩:=h;rfl
  | clo f caps=>obtain ⟨cs,rfl,_⟩:=h;rfl
  | yl id=>obtain ⟨p,_,rfl⟩:=h;rfl
  | it id=>obtain ⟨p,_,rfl⟩:=h;rfl
theorem CRs.lN {β:Pl}:∀ {l:List AC} {vs:List Value},CRs β l vs→∀ v∈vs,v.oneCell'=true
 | [],[],_,v,hv=>by cases hv
 | _::_,_::_,h,v,hv=>by
  rcases List.mem_cons.1 hv with rfl|hv
  ·exact h.1.lN
  exact CRs.lN h.2 v hv
 | [],_::_,h,_,_=>h.elim
 | _::_,[],h,_,_=>h.elim
theorem AR.cells {β:Pl} {x:AV} {v:Value} (h:AR β x v) (hn:x.bz=true):CRs β x.cells v.cells.toList:=by
 cases x with
 | one c=>
  have h1:=CR.lN h;have:v.cells=#[v]:=by cases v <;> first|rfl|(simp[Value.oneCell'] at h1)
  rw[this];exact ⟨h,trivial⟩
 | agg l=>obtain ⟨vs,h1,rfl⟩:=h;exact h1
 | tup l=>cases hn
 | any=>cases hn
theorem Ext.refl (β:Pl) (H:Hp) (w:World):Ext β H w β H w:=
 ⟨fun _ _ _ h=>h,fun _ _ _ h=>.inl h,zA1 _,rfl,rfl,rfl,fun _ _ _=>rfl,fun id o g p h1 h2 h3=>.inr ⟨o,g,p,h1,h2,h3,rfl,rfl⟩,zA1 _,⟨[],rfl,fun _ _ _=>rfl⟩,fun _ o h=>⟨o,h⟩,fun _ o h=>.inl ⟨o,h⟩,fun _ _ _ _ _=>rfl⟩
theorem Ext.trans {β β1 β2:Pl} {H H1 H2:Hp} {w w1 w2:World} (h:Ext β H w β1 H1 w1) (k:Ext β1 H1 w1 β2 H2 w2):Ext β H w β2 H2 w2 where
 sub:=fun id g p hp=>k.sub _ _ _ (h.sub _ _ _ hp)
 loc:=fun id g p hp=>by
  rcases k.loc id g p hp with hp|hp|⟨o,ho⟩
  ·rcases h.loc id g p hp with hp|hp|hp
   ·exact .inl hp
   ·exact .inr (.inl ⟨hp.1,zA0 hp.2 k.nx⟩)
   exact .inr (.inr hp)
  ·exact .inr (.inl ⟨zA2 h.nx hp.1,hp.2⟩)
  rcases h.old id o ho with hq|hq
  ·exact .inr (.inr hq)
  exact .inr (.inl ⟨hq.1,zA0 hq.2 k.nx⟩)
 size:=zA2 h.size k.size
 os:=k.os.trans h.os
 tape:=k.tape.trans h.tape
 output:=k.output.trans h.output
 frame:=fun b hb hn=>by
  rw[k.frame b (zA0 hb h.size) ?_,h.frame b hb hn];intro id o g p ho hg hp t_;rcases h.prov id o g p ho hg.1 hp with hq|⟨o0,g0,p0,a1,a2,a3,a4,a5⟩
  ·omega
  exact hn id o0 g0 p0 a1 ⟨a2,a5.trans hg.2⟩ a3 (a4.trans t_)
 prov:=fun id o' g p ho hg hp=>by
  rcases k.prov id o' g p ho hg hp with hq|⟨o0,g0,p0,a1,a2,a3,a4,a5⟩
  ·exact .inl (zA2 h.size hq)
  rcases h.prov id o0 g0 p0 a1 a2 a3 with hq|⟨o1,g1,p1,b1,b2,b3,b4,b5⟩
  ·exact .inl (by omega)
  exact .inr ⟨o1,g1,p1,b1,b2,b3,b4.trans a4,b5.trans a5⟩
 nx:=zA2 h.nx k.nx
 log:=by
  obtain ⟨l,hl,hg⟩:=h.log;obtain ⟨l2,O8,Z4⟩:=k.log;refine ⟨l2++l,by rw[O8,hl,List.append_assoc],fun id hid hm=>?_⟩;rw[Z4 id (zA0 hid h.nx) (fun hx=>hm (List.mem_append_left _ hx)),hg id hid (fun hx=>hm (List.mem_append_right _ hx))]
 dom:=fun id o ho=>by
  obtain ⟨o1,h1⟩:=h.dom id o ho;exact k.dom id o1 h1
 old:=fun id o' ho=>by
  rcases k.old id o' ho with ⟨o1,h1⟩|hq
  ·rcases h.old id o1 h1 with hq|hq
   ·exact .inl hq
   exact .inr ⟨hq.1,zA0 hq.2 k.nx⟩
  exact .inr ⟨zA2 h.nx hq.1,hq.2⟩
 far:=fun l hl b hb hn=>by
  obtain ⟨l1,e1,_⟩:=h.log;obtain ⟨l2,e2,_⟩:=k.log;have e:l=l2++l1:=by
   rw[e2,e1,←List.append_assoc] at hl;exact (List.append_cancel_right hl).symm
  subst e;rw[k.far l2 e2 b (zA0 hb h.size) ?_,h.far l1 e1 b hb fun id o g p hid=>hn id o g p (List.mem_append_right _ hid)];intro id o g p hid ho hg hp t_;rcases h.prov id o g p ho hg.1 hp with hq|⟨o0,g0,p0,a1,a2,a3,a4,a5⟩
  ·omega
  exact hn id o0 g0 p0 (List.mem_append_left _ hid) a1 ⟨a2,a5.trans hg.2⟩ a3 (a4.trans t_)
theorem cV {α:Type} {a:Array α} {i:Nat} {x:α} (h:a[i]?=some x):i<a.size:=(Array.getElem?_eq_some_iff.1 h).1
theorem Ed.lt {β:Pl} {w:World} {p:Place} {x:Nt} (h:Ed β w p x):p.b<w.heap.size:=by
 cases x with
 | map es clock=>obtain ⟨ms,h1,_⟩:=h;exact cV h1
 | iter m since seen stepped=>
  cases m with
  | none=>exact cV h
  | some i=>obtain ⟨q,_,h1⟩:=h;exact cV h1
 | loop st pe tm nt ps as bo d=>obtain ⟨q,fn,tmps,_,_,h3⟩:=h;exact cV h3
 | dfr b=>exact cV h
theorem fS.lt {β:Pl} {w:World} {id:Nat} {o:aK} (h:fS β w id o) {g:Nat} {p:Place} (hg:dB o g) (hp:β id g=some p):p.b<w.heap.size:=by
 cases o with
 | arr cells e lo gen=>
  obtain ⟨_,h1,_,_⟩:=h;obtain ⟨q,hq,⟨c,hc,_⟩,_⟩:=h1 g hg.1 hg.2;rw[hp] at hq;cases hq;exact cV hc
 | oth x=>
  obtain ⟨q,hq,hx⟩:=h;have:g=0:=hg;subst this;rw[hp] at hq;cases hq;exact hx.lt
 | ro cells=>
  obtain ⟨q,hq,c,e,f,hc,_⟩:=h;have:g=0:=hg;subst this;rw[hp] at hq;cases hq;exact cV hc
theorem Vw (H:Hp) (o:aK) (h:H.nx<H.nx+1) (i:Nat):(H.new o).get i=if i=H.nx then some o else H.get i:=PT.ov _ _ _ _ h
theorem Vt (H:Hp) (id:Nat) (o:aK) (h:id<id+1) (i:Nat):(H.mod id o).get i=if i=id then some o else H.get i:=PT.ov _ _ _ _ h
def plus (β:Pl) (id g:Nat) (p:Place):Pl:=fun i k=>if i=id∧k=g then some p else β i k
theorem aO (β:Pl) (id g:Nat) (p:Place):plus β id g p id g=some p:=by simp[plus]
theorem bI (β:Pl) (id g:Nat) (p:Place) {i k:Nat} (h:¬(i=id∧k=g)):plus β id g p i k=β i k:=by simp[plus,h]
theorem iY {β:Pl} {id g:Nat} {p:Place} (h:β id g=none):Sub β (plus β id g p):=by
 intro i k q hq;by_cases e:i=id∧k=g
 ·obtain ⟨rfl,rfl⟩:=e;rw[h] at hq;cases hq
 rw[bI _ _ _ _ e];exact hq
section
variable {m:Nat} {β:Pl} {H:Hp} {w:World} (hR:Rel m β H w)
include hR
theorem Rel.PJ {id:Nat} {o:aK} (ho:H.get id=some o):id<H.nx:=by
 rcases Nat.lt_or_ge id H.nx with h|h
 ·exact h
 rw[hR.wf id h] at ho;cases ho
theorem lO (_hm:m≤m) (W0:H.nx≤m) {id:Nat} {o:aK} (ho:H.get id=some o) (o':aK) {β':Pl} {w':World} (U0:Sub β β') (I3:∀ i,i≠id→∀ g,β' i g=β i g)
  (G1:w.heap.size≤w'.heap.size) (hos:w'.os=w.os) (G5:w'.tape=w.tape) (W3:w'.output=w.output)
  (X5:∀ b,b<w.heap.size→(∀ g p,dB o g→β id g=some p→p.b≠b)→w'.heap[b]?=w.heap[b]?)
  (O':fS β' w' id o')
  (b_:∀ g p,dB o' g→β' id g=some p→w.heap.size≤p.b∨∃ g0 p0,dB o g0∧β id g0=some p0∧p0.b=p.b) (B_:o.mu=false:=by rfl) (hro':o'.mu=false:=by rfl):
  Rel m β' (H.mod id o') w'∧Ext β H w β' (H.mod id o') w':=by
 have hid:=hR.PJ ho;have hid40:id<id+1:=by omega
 have S0:=Vt H id o' hid40;refine ⟨⟨?_,?_,?_,?_⟩,?_⟩
 ·intro i x hx;rw[S0] at hx;by_cases e:i=id
  ·subst e;rw[zB0 rfl] at hx;cases hx;exact O'
  rw[zB1 e] at hx;have hi:=hR.obj i x hx;refine fS.mono U0 hi (I3 i e) fun g p hg hp=>?_;exact X5 p.b (hi.lt hg hp) fun g0 p0 W6 U9 hb=>(hR.sep _ _ _ _ _ _ _ _ hx ho hg W6 hp U9 hb.symm).elim e fun hh=>by rw[B_] at hh;cases hh.2
 ·intro i j x y g g' p p' hx hy hg M1 hp F3 hb;rw[S0] at hx hy;by_cases e:i=id
  ·by_cases f:j=id
   ·exact .inl (by rw[e,f])
   subst e;rw[zB0 rfl] at hx;rw[zB1 f] at hy;cases hx;rw[I3 j f] at F3;have D0:=(hR.obj j y hy).lt M1 F3;rcases b_ g p hg hp with hq|⟨g0,p0,a1,a2,a3⟩
   ·omega
   exact (hR.sep _ _ _ _ _ _ _ _ ho hy a1 M1 a2 F3 (a3.trans hb)).imp (fun h=>h) fun hh=>by rw[B_] at hh;cases hh.1
  by_cases f:j=id
  ·subst f;rw[zB1 e] at hx;rw[zB0 rfl] at hy;cases hy;rw[I3 i e] at hp;have D0:=(hR.obj i x hx).lt hg hp;rcases b_ g' p' M1 F3 with hq|⟨g0,p0,a1,a2,a3⟩
   ·omega
   exact (hR.sep _ _ _ _ _ _ _ _ hx ho hg a1 hp a2 (hb.trans a3.symm)).imp (fun h=>h) fun hh=>by rw[B_] at hh;cases hh.2
  rw[zB1 e] at hx;rw[zB1 f] at hy;rw[I3 i e] at hp;rw[I3 j f] at F3;exact hR.sep _ _ _ _ _ _ _ _ hx hy hg M1 hp F3 hb
 ·intro i hi;have P8:H.nx≤i:=hi;rw[S0,zB1 (by omega)];exact hR.wf i P8
 ·intro i g hi him;have P8:H.nx≤i:=hi;rw[I3 i (by omega)];exact hR.free i g P8 him
 refine ⟨U0,?_,G1,hos,G5,W3,?_,?_,zA1 _,⟨[id],rfl,?_⟩,?_,?_,?_⟩
 ·intro i g p hp;by_cases e:i=id
  ·subst e;exact .inr (.inr ⟨o,ho⟩)
  rw[I3 i e] at hp;exact .inl hp
 ·exact fun b hb hn=>X5 b hb fun g p hg hp=>hn id o g p ho ⟨hg,B_⟩ hp
 ·intro i x g p hx hg hp;rw[S0] at hx;by_cases e:i=id
  ·subst e;rw[zB0 rfl] at hx;cases hx;rcases b_ g p hg hp with hq|⟨g0,p0,a1,a2,a3⟩
   ·exact .inl hq
   exact .inr ⟨o,g0,p0,ho,a1,a2,a3,by rw[B_,hro']⟩
  rw[zB1 e] at hx;rw[I3 i e] at hp;exact .inr ⟨x,g,p,hx,hg,hp,rfl,rfl⟩
 ·intro i hi hl;rw[S0,zB1 (by simpa using hl)]
 ·intro i x hx;rw[S0];by_cases e:i=id
  ·rw[zB0 e];exact ⟨_,rfl⟩
  rw[zB1 e];exact ⟨x,hx⟩
 ·intro i x hx;rw[S0] at hx;by_cases e:i=id
  ·subst e;exact .inl ⟨o,ho⟩
  rw[zB1 e] at hx;exact .inl ⟨x,hx⟩
 intro l hl b hb hn;have e:l=[id]:=by
  have U6:[id]++H.log=l++H.log:=hl;exact (List.append_cancel_right U6).symm
 subst e;exact X5 b hb fun g p hg hp=>hn id o g p (List.mem_singleton.2 rfl) ho ⟨hg,B_⟩ hp
theorem lf (_hm:m≤m) (W0:H.nx<m) (o':aK) (p:Place) {w':World} (hb:w.heap.size≤p.b)
  (G1:w.heap.size≤w'.heap.size) (hos:w'.os=w.os) (G5:w'.tape=w.tape) (W3:w'.output=w.output)
  (X5:∀ b,b<w.heap.size→w'.heap[b]?=w.heap[b]?) (hgen:∀ g,dB o' g→g=0)
  (O':fS (plus β H.nx 0 p) w' H.nx o'):
  Rel m (plus β H.nx 0 p) (H.new o') w'∧Ext β H w (plus β H.nx 0 p) (H.new o') w':=by
 have S0:=Vw H o' (by omega);have f_:β H.nx 0=none:=hR.free H.nx 0 (zA1 _) W0;have U0:Sub β (plus β H.nx 0 p):=iY f_;have I3:∀ i,i≠H.nx→∀ g,plus β H.nx 0 p i g=β i g:=fun i hi g=>bI _ _ _ _ (fun h=>hi h.1);have O0:∀ g q,dB o' g→plus β H.nx 0 p H.nx g=some q→q=p:=by
  intro g q hg hq;have:=hgen g hg;subst this;rw[aO] at hq;exact (Option.some.inj hq).symm
 refine ⟨⟨?_,?_,?_,?_⟩,?_⟩
 ·intro i x hx;rw[S0] at hx;by_cases e:i=H.nx
  ·subst e;rw[zB0 rfl] at hx;cases hx;exact O'
  rw[zB1 e] at hx;have hi:=hR.obj i x hx;exact fS.mono U0 hi (I3 i e) fun g p hg hp=>X5 p.b (hi.lt hg hp)
 ·intro i j x y g g' q q' hx hy hg M1 hq O4 D5;rw[S0] at hx hy;by_cases e:i=H.nx
  ·by_cases f:j=H.nx
   ·exact .inl (by rw[e,f])
   subst e;rw[zB0 rfl] at hx;rw[zB1 f] at hy;cases hx;rw[I3 j f] at O4;have D0:=(hR.obj j y hy).lt M1 O4;rw[O0 g q hg hq] at D5;omega
  by_cases f:j=H.nx
  ·subst f;rw[zB1 e] at hx;rw[zB0 rfl] at hy;cases hy;rw[I3 i e] at hq;have D0:=(hR.obj i x hx).lt hg hq;rw[O0 g' q' M1 O4] at D5;omega
  rw[zB1 e] at hx;rw[zB1 f] at hy;rw[I3 i e] at hq;rw[I3 j f] at O4;exact hR.sep _ _ _ _ _ _ _ _ hx hy hg M1 hq O4 D5
 ·intro i hi;have P8:H.nx+1≤i:=hi;rw[S0,zB1 (by omega)];exact hR.wf i (by omega)
 ·intro i g hi him;have P8:H.nx+1≤i:=hi;rw[I3 i (by omega)];exact hR.free i g (by omega) him
 refine ⟨U0,?_,G1,hos,G5,W3,fun b D5 _=>X5 b D5,?_,Nat.le_succ _,⟨[],rfl,?_⟩,?_,?_,fun _ _ b D5 _=>X5 b D5⟩
 ·intro i g q hq;by_cases e:i=H.nx
  ·subst e;exact .inr (.inl ⟨zA1 _,zA6 _⟩)
  rw[I3 i e] at hq;exact .inl hq
 ·intro i x g q hx hg hq;rw[S0] at hx;by_cases e:i=H.nx
  ·subst e;rw[zB0 rfl] at hx;cases hx;rw[O0 g q hg hq];exact .inl hb
  rw[zB1 e] at hx;rw[I3 i e] at hq;exact .inr ⟨x,g,q,hx,hg,hq,rfl,rfl⟩
 ·intro i hi _;rw[S0,zB1 (by omega)]
 ·intro i x hx;rw[S0,zB1 (by have:=hR.PJ hx;omega)];exact ⟨x,hx⟩
 intro i x hx;rw[S0] at hx;by_cases e:i=H.nx
 ·subst e;exact .inr ⟨zA1 _,zA6 _⟩
 rw[zB1 e] at hx;exact .inl ⟨x,hx⟩
end
theorem Rel.drew {m:Nat} {β:Pl} {H:Hp} {w:World} (hR:Rel m β H w) (n:Nat):Rel m β H { w with drawn:=n } where
 obj:=fun id o ho=>fS.mono (fun _ _ _ h=>h) (hR.obj id o ho) (fun _=>rfl) fun _ _ _ _=>rfl
 sep:=hR.sep
 wf:=hR.wf
 free:=hR.free
theorem ud {m:Nat} {β:Pl} {H:Hp} {w:World} (hR:Rel m β H w) (hm:m≤m) (W0:H.nx<m) (cells:List AC) (vs:Array Value) (e:TypeId) (hc:CRs β cells vs.toList) (w0:World)
  (h0:w0.heap=w.heap) (hos:w0.os=w.os) (G5:w0.tape=w.tape) (W3:w0.output=w.output) (extra:Array Value):
  Rel m (plus β H.nx 0 ⟨w.heap.size,0,vs.size+extra.size,cells.length⟩) (H.new (.arr cells e 0 0)) { w0 with heap:=w0.heap.push (.cells (vs++extra) e) } ∧
  Ext β H w (plus β H.nx 0 ⟨w.heap.size,0,vs.size+extra.size,cells.length⟩) (H.new (.arr cells e 0 0)) { w0 with heap:=w0.heap.push (.cells (vs++extra) e) }:=by
 have hlen:vs.size=cells.length:=by simpa using hc.length
 refine lf hR hm W0 _ _ (zA1 _) (by rw[h0];simp) hos G5 W3 ?_ ?_ ?_
 ·intro b hb;show (w0.heap.push _)[b]?=_;rw[Array.getElem?_push,zB1 (by rw[h0];omega),h0]
 ·intro g hg;have:=hg.2;omega
 refine ⟨zA1 _,?_,?_,?_⟩
 ·intro g _ hg;have W6:g=0:=by omega
  subst W6;refine ⟨_,aO _ _ _ _,⟨vs++extra,?_,by simp,by simp;omega,zA1 _,?_⟩,fun _=>rfl⟩
  ·show (w0.heap.push _)[w.heap.size]?=_;rw[←h0,Array.getElem?_push_size]
  intro k x hk hx;have S2:k<cells.length:=hk;have hkv:k<vs.size:=by omega
  refine ⟨vs[k],?_,?_⟩
  ·show (vs++extra)[0+k]?=_;rw[Nat.zero_add,Array.getElem?_append_left hkv,Array.getElem?_eq_getElem hkv]
  refine CR.mono (iY (hR.free H.nx 0 (zA1 _) W0)) (hc.get k x vs[k] hx ?_);simp[hkv]
 ·intro g g' p p' _ h1 h2 hp F3;have e1:g=0:=by omega
  have e2:g'=0:=by omega
  subst e1 e2;rw[hp] at F3;cases F3;exact ⟨zA1 _,fun _=>rfl⟩
 intro g hg;rw[bI _ _ _ _ (by omega)];exact hR.free H.nx g (zA1 _) W0
end Go.Eng
end
