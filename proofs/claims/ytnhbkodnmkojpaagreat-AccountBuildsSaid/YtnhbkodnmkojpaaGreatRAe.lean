/- A part of the proof: EngChunk. No conditions. -/
import Derived.Test.YtnhbkodnmkojpaaGreatRAd
set_option maxRecDepth 100000
set_option maxHeartbeats 64000000
set_option linter.unusedVariables false
set_option linter.unusedSimpArgs false
noncomputable section
namespace Go.Eng
open Go
def XS:List UInt8→List UInt8→Bool:=
 fun l=>List.rec (motive:=fun _=>List UInt8→Bool) (fun m=>List.rec (motive:=fun _=>Bool) true (fun _ _ _=>false) m)
  (fun x _ ih m=>List.rec (motive:=fun _=>Bool) false (fun y m' _=>both (bEq x y) (ih m')) m) l
theorem Xt {a b:UInt8} (h:bEq a b=true):a=b:=UInt8.toNat_inj.1 (zA3 h)
theorem Lx:∀ {l m:List UInt8},XS l m=true→l=m
 | [],[],_=>rfl
 | [],_::_,h=>by cases h
 | _::_,[],h=>by cases h
 | x::l,y::m,h=>by
  have h':both (bEq x y) (XS l m)=true:=h;rw[cK,Bool.and_eq_true] at h';rw[Xt h'.1,Lx h'.2]
def BS:List (Nat×Nat×Nat×Nat)→List (Nat×Nat×Nat×Nat)→Bool
 | [],[]=>true
 | (a,b,c,d)::l,(a',b',c',d')::m=>Nat.beq a a'&&(Nat.beq b b'&&(Nat.beq c c'&&(Nat.beq d d'&&BS l m)))
 | _,_=>false
theorem Bt:∀ {l m:List (Nat×Nat×Nat×Nat)},BS l m=true→l=m
 | [],[],_=>rfl
 | [],_::_,h=>by cases h
 | _::_,[],h=>by cases h
 | (a,b,c,d)::l,(a',b',c',d')::m,h=>by
  unfold BS at h;simp only[Bool.and_eq_true] at h;obtain ⟨h1,h2,h3,h4,h5⟩:=h;rw[zA3 h1,zA3 h2,zA3 h3,zA3 h4,Bt h5]
def FI:AO→AO→Bool
 | .str s,.str t=>XS s t
 | .nilP,.nilP=>true
 | .nilS,.nilS=>true
 | .nilM,.nilM=>true
 | .nilF,.nilF=>true
 | .ptr a b c d,.ptr a' b' c' d'=>Nat.beq a a'&&(Nat.beq b b'&&(Nat.beq c c'&&Nat.beq d d'))
 | .sl a b c d e,.sl a' b' c' d' e'=>Nat.beq a a'&&(Nat.beq b b'&&(Nat.beq c c'&&(Nat.beq d d'&&Nat.beq e e')))
 | .mp a,.mp a'=>Nat.beq a a'
 | .clo f l,.clo f' l'=>Nat.beq f f'&&BS l l'
 | _,_=>false
theorem Wb {x y:AO} (h:FI x y=true):x=y:=by
 cases x <;> cases y <;> first|rfl|(simp only[FI] at h;cases h;done)|skip
 ·simp only[FI] at h;rw[Lx h]
 ·simp only[FI,Bool.and_eq_true] at h;obtain ⟨h1,h2,h3,h4⟩:=h;rw[zA3 h1,zA3 h2,zA3 h3,zA3 h4]
 ·simp only[FI,Bool.and_eq_true] at h;obtain ⟨h1,h2,h3,h4,h5⟩:=h;rw[zA3 h1,zA3 h2,zA3 h3,zA3 h4,zA3 h5]
 ·simp only[FI] at h;rw[zA3 h]
 simp only[FI,Bool.and_eq_true] at h;rw[zA3 h.1,Bt h.2]
def Oy:AC→AC→Bool
 | .b x,.b y=>bif x then y else !y
 | .i k n,.i k' n'=>sameKind k k'&&iEq n n'
 | .o x,.o y=>FI x y
 | _,_=>false
theorem KH {x y:AC} (h:Oy x y=true):x=y:=by
 cases x with
 | b x=>cases y with
  | b y=>cases x <;> cases y <;> first|rfl|(simp only[Oy] at h;cases h)
  | i _ _=>cases h
  | o _=>cases h
 | i k n=>cases y with
  | i k' n'=>
   simp only[Oy,Bool.and_eq_true] at h;have h2:=h.2;rw[sc] at h2;rw[jC h.1,eq_of_beq h2]
  | b _=>cases h
  | o _=>cases h
 | o x=>cases y with
  | o y=>simp only[Oy] at h;rw[Wb h]
  | b _=>cases h
  | i _ _=>cases h
def yx:List AC→List AC→Bool
 | [],[]=>true
 | x::l,y::m=>Oy x y&&yx l m
 | _,_=>false
theorem qj:∀ {l m:List AC},yx l m=true→l=m
 | [],[],_=>rfl
 | [],_::_,h=>by cases h
 | _::_,[],h=>by cases h
 | x::l,y::m,h=>by
  simp only[yx,Bool.and_eq_true] at h;rw[KH h.1,qj h.2]
def Nr:List (Bool×List AC)→List (Bool×List AC)→Bool
 | [],[]=>true
 | (a,l)::x,(b,m)::y=>(bif a then b else !b)&&(yx l m&&Nr x y)
 | _,_=>false
theorem EM:∀ {l m:List (Bool×List AC)},Nr l m=true→l=m
 | [],[],_=>rfl
 | [],_::_,h=>by cases h
 | _::_,[],h=>by cases h
 | (a,l)::x,(b,m)::y,h=>by
  simp only[Nr,Bool.and_eq_true] at h;have:a=b:=by
   have h1:=h.1;cases a <;> cases b <;> first|rfl|cases h1
  rw[this,qj h.2.1,EM h.2.2]
def GF:AV→AV→Bool
 | .one x,.one y=>Oy x y
 | .agg l,.agg m=>yx l m
 | .tup l,.tup m=>Nr l m
 | _,.any=>true
 | _,_=>false
theorem Mg {x y:AV} (h:GF x y=true):x=y∨y=.any:=by
 cases x <;> cases y <;> first|exact .inr rfl|(simp only[GF] at h;cases h;done)|skip
 ·simp only[GF] at h;exact .inl (by rw[KH h])
 ·simp only[GF] at h;exact .inl (by rw[qj h])
 simp only[GF] at h;exact .inl (by rw[EM h])
def NI (x y:AV):Bool:=match y with|.any=>false|_=>GF x y
theorem HH {x y:AV} (h:NI x y=true):x=y:=by
 unfold NI at h;split at h
 ·cases h
 rename_i hn
 exact (Mg h).resolve_right hn
def Vo:List bJ→List bJ→Bool
 | [],[]=>true
 | x::l,y::m=>NI x.key y.key&&(NI x.val y.val&&(Nat.beq x.born y.born&&Vo l m))
 | _,_=>false
theorem LG:∀ {l m:List bJ},Vo l m=true→l=m
 | [],[],_=>rfl
 | [],_::_,h=>by cases h
 | _::_,[],h=>by cases h
 | ⟨a,b,c⟩::l,⟨a',b',c'⟩::m,h=>by
  simp only[Vo,Bool.and_eq_true] at h;obtain ⟨h1,h2,h3,h4⟩:=h;rw[HH h1,HH h2,zA3 h3,LG h4]
def uZ:aN→aN→Bool
 | .arr c e lo gen,.arr c' e' lo' gen'=>yx c c'&&(Nat.beq e e'&&(Nat.ble lo lo'&&(Nat.ble lo' gen'&&Nat.beq gen gen')))
 | .oth (.map es k),.oth (.map es' k')=>Vo es es'&&Nat.beq k k'
 | .oth (.dfr b),.oth (.dfr b')=>bif b then b' else !b'
 | _,_=>false
def BM (x y:aN):Prop:=x=y∨∃ c e lo lo' gen,x=.arr c e lo gen∧y=.arr c e lo' gen∧lo≤lo'∧lo'≤gen
theorem Ss {x y:aN} (h:uZ x y=true):BM x y:=by
 cases x with
 | arr c e lo gen=>cases y with
  | arr c' e' lo' gen'=>
   simp only[uZ,Bool.and_eq_true] at h;obtain ⟨h1,h2,h3,h4,h5⟩:=h;rw[qj h1,zA3 h2,zA3 h5];exact .inr ⟨_,_,_,_,_,rfl,rfl,zA4 h3,zA4 h4⟩
  | oth _=>cases h
  | ro _=>cases h
 | ro _=>cases y <;> cases h
 | oth x=>cases y with
  | arr _ _ _ _=>cases x <;> cases h
  | ro _=>cases x <;> cases h
  | oth y=>
   cases x <;> cases y <;> first|(simp only[uZ] at h;cases h;done)|skip
   ·simp only[uZ,Bool.and_eq_true] at h;rw[LG h.1,zA3 h.2];exact .inl rfl
   simp only[uZ] at h;rename_i a b
   cases a <;> cases b <;> first|exact .inl rfl|cases h
theorem BM.ro {x y:aN} (h:BM x y):x.lW=y.lW:=by
 rcases h with rfl|⟨c,e,lo,lo',gen,rfl,rfl,h1,h2⟩ <;> rfl
theorem BM.gen {x y:aN} (h:BM x y) {g:Nat} (hg:dV y g):dV x g:=by
 rcases h with rfl|⟨c,e,lo,lo',gen,rfl,rfl,h1,h2⟩
 ·exact hg
 have J2:lo'≤g∧g≤gen:=hg;exact ⟨by omega,J2.2⟩
theorem BM.obj {x y:aN} (h:BM x y) {β:Pl} {w:World} {id:Nat} (ho:gj β w id x):gj β w id y:=by
 rcases h with rfl|⟨c,e,lo,lo',gen,rfl,rfl,h1,h2⟩
 ·exact ho
 obtain ⟨a1,a2,a3,a4⟩:=ho;exact ⟨h2,fun g b1 b2=>a2 g (by omega) b2,fun g g' p p' b1 b2 b3=>a3 g g' p p' (by omega) b2 b3,a4⟩
def mkT {α:Type} (l:List (Nat×α)):PT α:=List.rec (motive:=fun _=>PT α) .leaf (fun x _ ih=>ih.set x.1 x.2) l
def small {α:Type} (n:Nat):List (Nat×α)→Bool
 | []=>true
 | x::l=>Nat.blt x.1 n&&small n l
theorem BO {α:Type} {n:Nat} (hn:n≤2 ^ 40):∀ {l:List (Nat×α)},small n l=true→∀ {k:Nat} {a:α},(mkT l).get k=some a→k<n∧(k,a)∈l
 | [],_,k,a,h=>by cases h
 | x::l,hs,k,a,h=>by
  simp only[small,Bool.and_eq_true] at hs;have hx:x.1<n:=zA4 hs.1;have h':((mkT l).set x.1 x.2).get k=some a:=h;rw[PT.nG _ _ _ _ (by omega)] at h';split at h'
  ·rename_i hk
   cases h'
   subst hk;exact ⟨hx,List.mem_cons_self ..⟩
  obtain ⟨h1,h2⟩:=BO hn hs.2 h';exact ⟨h1,List.mem_cons_of_mem _ h2⟩
def qO (tm:PT AV) (t:Nat):AV:=az (tm.get t) aH fun v=>v
def Rg (tm tm':PT AV) (n:Nat):Bool:=Nat.rec (motive:=fun _=>Bool) true (fun k ih=>both (GF (qO tm k) (qO tm' k)) ih) n
theorem Nq {tm tm':PT AV}:∀ {n:Nat},Rg tm tm' n=true→∀ k,k<n→qO tm k=qO tm' k∨qO tm' k=.any
 | 0,_,k,h=>by omega
 | n+1,h,k,hk=>by
  have h':both (GF (qO tm n) (qO tm' n)) (Rg tm tm' n)=true:=h;rw[cK,Bool.and_eq_true] at h';by_cases e:k=n
  ·subst e;exact Mg h'.1
  exact Nq h'.2 k (by omega)
def Th (t:PT aN) (l:List (Nat×aN)):Bool:=List.rec (motive:=fun _=>Bool) true (fun x _ ih=>both (az (t.get x.1) false fun o=>uZ o x.2) ih) l
theorem Mm {t:PT aN}:∀ {l:List (Nat×aN)},Th t l=true→∀ x∈l,∃ o,t.get x.1=some o∧BM o x.2
 | [],_,x,h=>by cases h
 | y::l,h,x,hx=>by
  have h':both (az (t.get y.1) false fun o=>uZ o y.2) (Th t l)=true:=h;rw[cK,Bool.and_eq_true] at h';rcases List.mem_cons.1 hx with rfl|hx
  ·cases hg:t.get x.1 with
   | none=>rw[hg] at h';cases h'.1
   | some o=>rw[hg] at h';exact ⟨o,rfl,Ss h'.1⟩
  exact Mm h'.2 x hx
def spine:Code→List Code
 | .seq a b=>a::spine b
 | c=>[c]
def ji:List Code→Code
 | []=>.skip
 | [c]=>c
 | c::l=>.seq c (ji l)
theorem Tk:∀ (c:Code),spine c≠[]
 | .seq a b=>by simp[spine]
 | .skip|.region ..|.cond ..|.block ..|.loop ..|.rangeFunc ..|.exit ..|.scope ..|.label ..|.goto ..|.ret|.refuse ..=>by simp[spine]
theorem qt:∀ (c:Code),ji (spine c)=c
 | .seq a b=>by
  have h:=qt b;have hn:=Tk b;show ji (a::spine b)=_;cases hs:spine b with
  | nil=>exact absurd hs hn
  | cons x l=>
   rw[hs] at h;show Code.seq a (ji (x::l))=_;rw[h]
 | .skip|.region ..|.cond ..|.block ..|.loop ..|.rangeFunc ..|.exit ..|.scope ..|.label ..|.goto ..|.ret|.refuse ..=>rfl
def iT (P:Program) (f:FuncId):List Code:=
 match P.funcs[f]? with
 | some fn=>match fn.body with|some c=>spine c|none=>[]
 | none=>[]
def jV (P:Program) (f:FuncId):Nat:=match P.funcs[f]? with|some fn=>fn.ntmps|none=>0
def Sf (P:Program) (f:FuncId):List ResultVar:=match P.funcs[f]? with|some fn=>fn.results.toList|none=>[]
def CO (E:Env) (rec:Rec) (l:List Code):ab→Hp→R (aA×ab×Hp):=
 List.rec (motive:=fun _=>ab→Hp→R (aA×ab×Hp)) (fun a h=>.ok [(.normal,a,h)])
  (fun c _ ih a h=>((codeF E c).run rec none a h).bind fun x=>exE x.1 (ih x.2.1 x.2.2) (fun _=>.bad "piece - exit") (.bad "piece - return")) l
def XG {α:Type} (p:α→Bool) (r:R α):Bool:=R.rec (motive:=fun _=>Bool) (fun l=>List.rec (motive:=fun _=>Bool) true (fun x _ ih=>both (p x) ih) l) (fun _=>false) r
theorem Kt {α:Type} {p:α→Bool} {r:R α} (h:XG p r=true):∃ l,r=.ok l∧∀ x∈l,p x=true:=by
 cases r with
 | bad s=>cases h
 | ok l=>
  refine ⟨l,rfl,?_⟩;have h':List.rec (motive:=fun _=>Bool) true (fun x _ ih=>both (p x) ih) l=true:=h;clear h;induction l with
  | nil=>intro x hx;cases hx
  | cons y l ih=>
   have h2:both (p y) (List.rec (motive:=fun _=>Bool) true (fun x _ ih=>both (p x) ih) l)=true:=h';rw[cK,Bool.and_eq_true] at h2;intro x hx;rcases List.mem_cons.1 hx with rfl|hx
   ·exact h2.1
   exact ih h2.2 x hx
structure Mark where
 slots:List (Nat×AV)
 objs:List (Nat×aN)
 nx:Nat
def Mark.hp (k:Mark):Hp:=⟨mkT k.objs,k.nx,[]⟩
def Mark.act (k:Mark) (nt:Nat):ab:=⟨mkT k.slots,nt,[]⟩
def Mark.fits (k:Mark) (nt:Nat):Bool:=Nat.ble nt 1048576&&(small nt k.slots&&(small k.nx k.objs&&Nat.ble k.nx 1099511627776))
def Px {α:Type} (l:List α):Bool:=List.rec (motive:=fun _=>Bool) true (fun _ _ _=>false) l
def BQ (k:Mark) (nt:Nat) (x:aA×ab×Hp):Bool:=
 exE x.1 (both (Nat.beq x.2.1.nt nt) (both (Nat.ble x.2.2.nx k.nx) (both (Rg x.2.1.tm (mkT k.slots) nt) (both (Th x.2.2.t k.objs) (Px x.2.1.dfr))))) (fun _=>false) false
def piece (E:Env) (n:Nat) (f:FuncId) (i d:Nat) (k k':Mark):Bool:=
 both (k'.fits (jV E.P f)) (XG (BQ k' (jV E.P f)) (CO E (eval E n) (((iT E.P f).drop i).take d) (k.act (jV E.P f)) k.hp))
def AG (E:Env) (n:Nat) (f:FuncId) (i:Nat) (k:Mark):Bool:=
 XG (fun x:AV×Hp=>both (dS x.1 false fun b=>b) (Nat.ble x.2.nx 1099511627776)) (((codeF E (ji ((iT E.P f).drop i))).run (eval E n) none (k.act (jV E.P f)) k.hp).bind (an E (Sf E.P f)))
def Grown (w w':World):Prop:=w'.os=w.os∧w'.tape=w.tape∧w'.output=w.output∧w.heap.size≤w'.heap.size∧∀ b,b<w.heap.size→w'.heap[b]?=w.heap[b]?
structure At (E:Env) (f:FuncId) (k:Mark) (w0:World) (a:Act) (w:World):Prop where
 grown:Grown w0 w
 here:∃ β,hS β (k.act (jV E.P f)) a∧Rel (2 ^ 40) β k.hp w∧∀ id o g p,k.hp.get id=some o→dV o g→β id g=some p→w0.heap.size≤p.b
theorem FN {β β':Pl} {H H':Hp} {w0 w w':World} (h:Grown w0 w) (hp:∀ id o g p,H.get id=some o→dV o g→β id g=some p→w0.heap.size≤p.b) (hx:Ext β H w β' H' w'):Grown w0 w':=by
 obtain ⟨h1,h2,h3,h4,h5⟩:=h;refine ⟨hx.os.trans h1,hx.tape.trans h2,hx.output.trans h3,zA2 h4 hx.size,fun b hb=>?_⟩;rw[hx.frame b (by omega) fun id o g p a b' c d=>?_,h5 b hb];have:=hp id o g p a b'.1 c;omega
theorem At.next {E:Env} {f:FuncId} {k k':Mark} {w0 w w':World} {a':Act} {β β':Pl} (hg:Grown w0 w) (hp:∀ id o g p,k.hp.get id=some o→dV o g→β id g=some p→w0.heap.size≤p.b)
  (W2:k'.fits (jV E.P f)=true) {x:aA×ab×Hp} (W7:BQ k' (jV E.P f) x=true) (hA:hS β' x.2.1 a') (hR:Rel (2 ^ 40) β' x.2.2 w') (hx:Ext β k.hp w β' x.2.2 w'):x.1=.normal∧At E f k' w0 a' w':=by
 obtain ⟨e,A,H⟩:=x;unfold BQ at W7;cases e with
 | exit i=>cases W7
 | ret=>cases W7
 | normal=>
  refine ⟨rfl,FN hg hp hx,β',?_⟩;have hchk':both (Nat.beq A.nt (jV E.P f)) (both (Nat.ble H.nx k'.nx) (both (Rg A.tm (mkT k'.slots) (jV E.P f)) (both (Th H.t k'.objs) (Px A.dfr))))=true:=W7;simp only[cK,Bool.and_eq_true] at hchk';obtain ⟨h0,h1,h2,h3,h4⟩:=hchk';have B0:A.nt=jV E.P f:=zA3 h0;simp only[Mark.fits,Bool.and_eq_true] at W2;obtain ⟨f1,f2,f3,f4⟩:=W2;have f1':jV E.P f≤1048576:=zA4 f1;have f4':k'.nx≤1099511627776:=zA4 f4;have L1:H.nx≤k'.nx:=zA4 h1;have U0:∀ id o,k'.hp.get id=some o→(∃ o1,H.get id=some o1∧BM o1 o)∧id<k'.nx:=fun id o ho=>by
   obtain ⟨g1,g2⟩:=BO (n:=k'.nx) (by omega) f3 (k:=id) (a:=o) ho;exact ⟨Mm h3 _ g2,g1⟩
  refine ⟨⟨⟨?_,f1',fun t=>?_⟩,?_⟩,⟨fun id o ho=>?_,fun id id' o o' g g' p p' a b c d=>?_,fun id hid=>?_,fun id g a b=>hR.free id g (zA2 L1 a) b⟩,
   fun id o g p a b c=>?_⟩
  ·have:=hA.tm.1;rw[this];exact B0
  ·have hAt:=hA.tm.2.2 t;show AR β' (qO (mkT k'.slots) t) _;rcases Nat.lt_or_ge t (jV E.P f) with ht|ht
   ·rcases Nq h2 t ht with e|e
    ·rw[←e];exact hAt
    rw[e];trivial
   have J1:a'.tmps.size=jV E.P f:=by have:=hA.tm.1;rw[this];exact B0
   have hu:a'.tmps.getD t undef=undef:=by
    simp only[Array.getD_eq_getD_getElem?];rw[Array.getElem?_eq_none (by omega)];rfl
   rw[hu];unfold qO;cases J2:(mkT k'.slots).get t with
   | none=>exact pF β'
   | some v=>
    have:=(BO (n:=jV E.P f) (by omega) f2 J2).1;omega
  ·have hd:A.dfr=[]:=by
    have h4':Px A.dfr=true:=h4;cases hdd:A.dfr with
    | nil=>rfl
    | cons _ _=>rw[hdd] at h4';cases h4'
   have:=hA.df;have e:(⟨mkT k'.slots,jV E.P f,[]⟩:ab).dfr=A.dfr:=hd.symm;show mu β' (⟨mkT k'.slots,jV E.P f,[]⟩:ab).dfr a'.defers;rw[e];exact this
  ·obtain ⟨⟨o1,g1,g2⟩,_⟩:=U0 id o ho;exact g2.obj (hR.obj id o1 g1)
  ·obtain ⟨⟨o1,g1,g2⟩,_⟩:=U0 id o a;obtain ⟨⟨o2,g3,g4⟩,_⟩:=U0 id' o' b;rw[←g2.ro,←g4.ro];exact hR.sep id id' o1 o2 g g' p p' g1 g3 (g2.gen c) (g4.gen d)
  ·cases J2:k'.hp.get id with
   | none=>rfl
   | some o=>
    have:=(U0 id o J2).2;have F1:k'.nx≤id:=hid;omega
  obtain ⟨⟨o1,g1,g2⟩,_⟩:=U0 id o a;rcases hx.prov id o1 g p g1 (g2.gen b) c with h|⟨o0,g0,p0,a1,a2,a3,a4⟩
  ·have:=hg.2.2.2.1;omega
  have:=hp id o0 g0 p0 a1 a2 a3;omega
section
variable {E:Env} (hE:uE E)
include hE
omit hE in
theorem yW {rec:Rec} (O0:RecM rec):∀ (l:List Code) (a:ab) (h:Hp),RG h.nx nE (CO E rec l a h)
 | [],a,h=>RG.one (zA1 _)
 | c::l,a,h=>RG.bind (nx:=nE) (qC O0 c none a h) fun x hx=>np ((yW O0 l _ _).le hx) (fun _=>RG.bad) RG.bad
omit hE in
theorem GC (c:Code) {l:List Code} (h:l≠[]):ji (c::l)=.seq c (ji l):=by
 cases l with
 | nil=>exact absurd rfl h
 | cons x l=>rfl
theorem PV {n:Nat} {Q:Exit→Act→World→Prop} {t:List Code} (ht:t≠[]):∀ (l:List Code) {β:Pl} {H:Hp} {w:World} {A:ab} {a:Act} {outs:List (aA×ab×Hp)},Rel (2 ^ 40) β H w→hS β A a →
  CO E (eval E n) l A H=.ok outs→(∀ x∈outs,nE x≤2 ^ 40)→(∀ x∈outs,x.1=.normal)→(∀ a' w',gy (2 ^ 40) β H w outs .normal a' w'→(ji t).wpIn (fen none) 0 E.P Q a' w')→(ji (l++t)).wpIn (fen none) 0 E.P Q a w
 | [],β,H,w,A,a,outs,hR,hA,h,hb,hn,hQ=>by
  cases h
  exact hQ a w ⟨_,List.mem_singleton.2 rfl,trivial,β,hA,hR,Ext.refl _ _ _⟩
 | c::l,β,H,w,A,a,outs,hR,hA,h,hb,hn,hQ=>by
  have h':((codeF E c).run (eval E n) none A H).bind (fun x=>exE x.1 (CO E (eval E n) l x.2.1 x.2.2) (fun _=>.bad "piece - exit") (.bad "piece - return"))=.ok outs:=h
  obtain ⟨zs,hz,hk⟩:=R.eC h';have Z0:l++t≠[]:=by simp[ht]
  show (ji (c::(l++t))).wpIn (fen none) 0 E.P Q a w;rw[GC c Z0];have hbz:∀ z∈zs,nE z≤2 ^ 40:=fun z hz=>by
   obtain ⟨o,ho,hs⟩:=hk z hz;exact RG.mE (k:=nE z) (nx:=nE) (np (yW (lK E n) l _ _) (fun _=>RG.bad) RG.bad) ho hs hb
  refine wpIn_seq (Go.wpIn_mono (qR hE (Hy hE) (qF hE (Hy hE) n) (lK E n) c (r:=none) (rB:=none) (zA1 _) hR hA rfl hz hbz).1 fun e a1 w1 hp=>?_);obtain ⟨z,hzm,o7,β1,C6,F5,S0⟩:=hp;obtain ⟨o,ho,hs⟩:=hk z hzm;rcases nW ho with ⟨D4,h1⟩|⟨i,D4,h1⟩|⟨D4,h1⟩
  ·rw[o7.normal D4];exact PV ht l F5 C6 h1 (fun q hq=>hb q (hs q hq)) (fun q hq=>hn q (hs q hq)) fun a' w' E4=>hQ a' w' (E4.ext S0 hs)
  ·cases h1
  cases h1
def Lt (w0:World) (e:Ending) (w:World):Prop:=e=.returned (.bool true)∧Grown w0 w
def Good (E:Env) (f:FuncId) (fn:Func) (w0:World) (i:Nat) (k:Mark):Prop:=
 ∀ a w,At E f k w0 a w→(ji ((iT E.P f).drop i)).wpIn (fen none) 0 E.P (bodyPostM Fence.wide 0 E.P fn (Lt w0)) a w
theorem vU {n:Nat} {f:FuncId} {fn:Func} {w0:World} {i d:Nat} {k k':Mark} (h:piece E n f i d k k'=true) (hl:i+d<(iT E.P f).length) (hg:Good E f fn w0 (i+d) k'):Good E f fn w0 i k:=by
 intro a w L0;unfold piece at h;rw[cK,Bool.and_eq_true] at h;obtain ⟨W2,h⟩:=h;obtain ⟨outs,hr,W7⟩:=Kt h;obtain ⟨P0,β,hA,hR,hp⟩:=L0;have hfit4:k'.nx≤1099511627776:=by
  simp only[Mark.fits,Bool.and_eq_true] at W2;exact zA4 W2.2.2.2
 have hnorm:∀ x∈outs,x.1=.normal∧nE x≤k'.nx:=fun x hx=>by
  have hc:=W7 x hx;unfold BQ at hc;cases K0:x.1 with
  | exit i=>rw[K0] at hc;cases hc
  | ret=>rw[K0] at hc;cases hc
  | normal=>
   rw[K0] at hc;have hc':both (Nat.beq x.2.1.nt (jV E.P f)) (both (Nat.ble x.2.2.nx k'.nx) (both (Rg x.2.1.tm (mkT k'.slots) (jV E.P f)) (both (Th x.2.2.t k'.objs) (Px x.2.1.dfr))))=true:=hc;simp only[cK,Bool.and_eq_true] at hc';exact ⟨rfl,zA4 hc'.2.1⟩
 have hsplit:(iT E.P f).drop i=((iT E.P f).drop i).take d++(iT E.P f).drop (i+d):=by
  rw[←List.drop_drop,List.take_append_drop]
 rw[hsplit];have Z0:(iT E.P f).drop (i+d)≠[]:=by
  intro e;have:=congrArg List.length e;simp at this
  omega
 refine PV hE Z0 _ hR hA hr (fun x hx=>zA2 (hnorm x hx).2 hfit4) (fun x hx=>(hnorm x hx).1) fun a' w' F2=>?_;obtain ⟨x,hx,_,β',hA',b_,S0⟩:=F2;exact hg a' w' (At.next P0 hp W2 (W7 x hx) hA' b_ S0).2
theorem VH {n:Nat} {f:FuncId} {fn:Func} (hf:E.P.funcs[f]?=some fn) {w0:World} {i:Nat} {k:Mark} (h:AG E n f i k=true):Good E f fn w0 i k:=by
 intro a w L0;obtain ⟨outs,hr,W7⟩:=Kt h;obtain ⟨P0,β,hA,hR,hp⟩:=L0;have L_:Sf E.P f=fn.results.toList:=by unfold Sf;rw[hf]
 rw[L_] at hr;obtain ⟨zs,hz,hk⟩:=R.eC hr;have T1:∀ x∈outs,x.1=.one (.b true)∧nV x≤2 ^ 40:=fun x hx=>by
  have hc:=W7 x hx;rw[cK,Bool.and_eq_true] at hc;refine ⟨?_,zA4 hc.2⟩;have h1:=hc.1;obtain ⟨v,H⟩:=x;cases v with
  | one c=>cases c with
   | b b=>cases b with
    | true=>rfl
    | false=>cases h1
   | i _ _=>cases h1
   | o _=>cases h1
  | agg _=>cases h1
  | tup _=>cases h1
  | any=>cases h1
 have hbz:∀ z∈zs,nE z≤2 ^ 40:=fun z hz=>by
  obtain ⟨o,ho,hs⟩:=hk z hz;exact RG.mE (pt (zA1 _)) ho hs fun x hx=>(T1 x hx).2
 refine Go.wpIn_mono (qR hE (Hy hE) (qF hE (Hy hE) n) (lK E n) _ (r:=none) (rB:=none) (zA1 _) hR hA rfl hz hbz).1 fun e a1 w1 F2=>?_;obtain ⟨z,hzm,o7,β1,C6,F5,S0⟩:=F2;obtain ⟨o,ho,hs⟩:=hk z hzm;have J7:∀ e w',mr (2 ^ 40) β k.hp w outs e w'→Lt w0 e w':=by
  rintro e w' ⟨v,rfl,x,hx,β2,hv,_,L2⟩;rw[(T1 x hx).1] at hv;have X3:v=.bool true:=hv;subst X3;exact ⟨rfl,FN P0 hp L2⟩
 exact uN (E:=E) (zA1 _) o7 C6 F5 S0 (hbz z hzm) ho hs J7
omit hE in
theorem xD {f:FuncId} {fn:Func} (hf:E.P.funcs[f]?=some fn) (hb0:fn.body.isSome=true) (hnt0:Nat.ble fn.ntmps 1048576=true) {w0:World} (h:Good E f fn w0 0 ⟨[],[],0⟩):Calls E.P f #[] w0 (Lt w0):=by
 obtain ⟨c,hb⟩:=Option.isSome_iff_exists.1 hb0;have B0:fn.ntmps≤1048576:=zA4 hnt0;have M8:iT E.P f=spine c:=by unfold iT;rw[hf];simp only[hb]
 have hn:jV E.P f=fn.ntmps:=by unfold jV;rw[hf]
 refine (callsIn_wide (n:=0)).1 (callsIn_of_wp_marks hf hb trivial ?_);have h0:=h { tmps:=#[]++Array.replicate (fn.ntmps - (#[]:Array Value).size) undef,defers:=[] } w0 ⟨⟨rfl,rfl,rfl,zA1 _,fun _ _=>rfl⟩,fun _ _=>none,⟨?_,trivial⟩,⟨fun id o ho=>(by cases ho),fun id _ o _ _ _ _ _ ho=>(by cases ho),fun _ _=>rfl,fun _ _ _ _=>rfl⟩,fun id o _ _ ho=>(by cases ho)⟩
 ·rw[List.drop_zero,M8,qt] at h0;exact h0
 have:=Kv (β:=fun _ _=>none) (nt:=fn.ntmps) B0 (args:=[]) (vs:=[]) trivial (Nat.zero_le _);show TmR _ (mkT []) (jV E.P f) _;rw[hn];exact this
end
end Go.Eng
end
