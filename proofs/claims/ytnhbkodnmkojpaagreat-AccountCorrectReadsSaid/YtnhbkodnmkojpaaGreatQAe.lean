/- A part of the proof: EngChunk. No conditions. -/
import Derived.Test.YtnhbkodnmkojpaaGreatQAd
set_option maxRecDepth 100000
set_option maxHeartbeats 64000000
set_option linter.unusedVariables false
set_option linter.unusedSimpArgs false
noncomputable section
namespace Go.Eng
open Go
def UQ:List UInt8→List UInt8→Bool:=
 fun l=>List.rec (motive:=fun _=>List UInt8→Bool) (fun m=>List.rec (motive:=fun _=>Bool) true (fun _ _ _=>false) m)
  (fun x _ ih m=>List.rec (motive:=fun _=>Bool) false (fun y m' _=>both (bEq x y) (ih m')) m) l
theorem Ux {a b:UInt8} (h:bEq a b=true):a=b:=UInt8.toNat_inj.1 (zA3 h)
theorem JL:∀ {l m:List UInt8},UQ l m=true→l=m
 | [],[],_=>rfl
 | [],_::_,h=>by cases h
 | _::_,[],h=>by cases h
 | x::l,y::m,h=>by
  have h':both (bEq x y) (UQ l m)=true:=h;rw[cA,Bool.and_eq_true] at h';rw[Ux h'.1,JL h'.2]
def Ai:List (Nat×Nat×Nat×Nat)→List (Nat×Nat×Nat×Nat)→Bool
 | [],[]=>true
 | (a,b,c,d)::l,(a',b',c',d')::m=>Nat.beq a a'&&(Nat.beq b b'&&(Nat.beq c c'&&(Nat.beq d d'&&Ai l m)))
 | _,_=>false
theorem yR:∀ {l m:List (Nat×Nat×Nat×Nat)},Ai l m=true→l=m
 | [],[],_=>rfl
 | [],_::_,h=>by cases h
 | _::_,[],h=>by cases h
 | (a,b,c,d)::l,(a',b',c',d')::m,h=>by
  unfold Ai at h;simp only[Bool.and_eq_true] at h;obtain ⟨h1,h2,h3,h4,h5⟩:=h;rw[zA3 h1,zA3 h2,zA3 h3,zA3 h4,yR h5]
def Fc:AO→AO→Bool
 | .str s,.str t=>UQ s t
 | .nilP,.nilP=>true
 | .nilS,.nilS=>true
 | .nilM,.nilM=>true
 | .nilF,.nilF=>true
 | .ptr a b c d,.ptr a' b' c' d'=>Nat.beq a a'&&(Nat.beq b b'&&(Nat.beq c c'&&Nat.beq d d'))
 | .sl a b c d e,.sl a' b' c' d' e'=>Nat.beq a a'&&(Nat.beq b b'&&(Nat.beq c c'&&(Nat.beq d d'&&Nat.beq e e')))
 | .mp a,.mp a'=>Nat.beq a a'
 | .clo f l,.clo f' l'=>Nat.beq f f'&&Ai l l'
 | _,_=>false
theorem Su {x y:AO} (h:Fc x y=true):x=y:=by
 cases x <;> cases y <;> first|rfl|(simp only[Fc] at h;cases h;done)|skip
 ·simp only[Fc] at h;rw[JL h]
 ·simp only[Fc,Bool.and_eq_true] at h;obtain ⟨h1,h2,h3,h4⟩:=h;rw[zA3 h1,zA3 h2,zA3 h3,zA3 h4]
 ·simp only[Fc,Bool.and_eq_true] at h;obtain ⟨h1,h2,h3,h4,h5⟩:=h;rw[zA3 h1,zA3 h2,zA3 h3,zA3 h4,zA3 h5]
 ·simp only[Fc] at h;rw[zA3 h]
 simp only[Fc,Bool.and_eq_true] at h;rw[zA3 h.1,yR h.2]
def Mb:AC→AC→Bool
 | .b x,.b y=>bif x then y else !y
 | .i k n,.i k' n'=>sameKind k k'&&iEq n n'
 | .o x,.o y=>Fc x y
 | _,_=>false
theorem Ko {x y:AC} (h:Mb x y=true):x=y:=by
 cases x with
 | b x=>cases y with
  | b y=>cases x <;> cases y <;> first|rfl|(simp only[Mb] at h;cases h)
  | i _ _=>cases h
  | o _=>cases h
 | i k n=>cases y with
  | i k' n'=>
   simp only[Mb,Bool.and_eq_true] at h;have h2:=h.2;rw[qN] at h2;rw[iX h.1,eq_of_beq h2]
  | b _=>cases h
  | o _=>cases h
 | o x=>cases y with
  | o y=>simp only[Mb] at h;rw[Su h]
  | b _=>cases h
  | i _ _=>cases h
def wN:List AC→List AC→Bool
 | [],[]=>true
 | x::l,y::m=>Mb x y&&wN l m
 | _,_=>false
theorem pK:∀ {l m:List AC},wN l m=true→l=m
 | [],[],_=>rfl
 | [],_::_,h=>by cases h
 | _::_,[],h=>by cases h
 | x::l,y::m,h=>by
  simp only[wN,Bool.and_eq_true] at h;rw[Ko h.1,pK h.2]
def IL:List (Bool×List AC)→List (Bool×List AC)→Bool
 | [],[]=>true
 | (a,l)::x,(b,m)::y=>(bif a then b else !b)&&(wN l m&&IL x y)
 | _,_=>false
theorem Fh:∀ {l m:List (Bool×List AC)},IL l m=true→l=m
 | [],[],_=>rfl
 | [],_::_,h=>by cases h
 | _::_,[],h=>by cases h
 | (a,l)::x,(b,m)::y,h=>by
  simp only[IL,Bool.and_eq_true] at h;have:a=b:=by
   have h1:=h.1;cases a <;> cases b <;> first|rfl|cases h1
  rw[this,pK h.2.1,Fh h.2.2]
def Gq:AV→AV→Bool
 | .one x,.one y=>Mb x y
 | .agg l,.agg m=>wN l m
 | .tup l,.tup m=>IL l m
 | _,.any=>true
 | _,_=>false
theorem Kp {x y:AV} (h:Gq x y=true):x=y∨y=.any:=by
 cases x <;> cases y <;> first|exact .inr rfl|(simp only[Gq] at h;cases h;done)|skip
 ·simp only[Gq] at h;exact .inl (by rw[Ko h])
 ·simp only[Gq] at h;exact .inl (by rw[pK h])
 simp only[Gq] at h;exact .inl (by rw[Fh h])
def JV (x y:AV):Bool:=match y with|.any=>false|_=>Gq x y
theorem Dz {x y:AV} (h:JV x y=true):x=y:=by
 unfold JV at h;split at h
 ·cases h
 rename_i hn
 exact (Kp h).resolve_right hn
def RP:List bI→List bI→Bool
 | [],[]=>true
 | x::l,y::m=>JV x.key y.key&&(JV x.val y.val&&(Nat.beq x.born y.born&&RP l m))
 | _,_=>false
theorem Lm:∀ {l m:List bI},RP l m=true→l=m
 | [],[],_=>rfl
 | [],_::_,h=>by cases h
 | _::_,[],h=>by cases h
 | ⟨a,b,c⟩::l,⟨a',b',c'⟩::m,h=>by
  simp only[RP,Bool.and_eq_true] at h;obtain ⟨h1,h2,h3,h4⟩:=h;rw[Dz h1,Dz h2,zA3 h3,Lm h4]
def uS:aJ→aJ→Bool
 | .arr c e lo gen,.arr c' e' lo' gen'=>wN c c'&&(Nat.beq e e'&&(Nat.ble lo lo'&&(Nat.ble lo' gen'&&Nat.beq gen gen')))
 | .oth (.map es k),.oth (.map es' k')=>RP es es'&&Nat.beq k k'
 | .oth (.dfr b),.oth (.dfr b')=>bif b then b' else !b'
 | _,_=>false
def AW (x y:aJ):Prop:=x=y∨∃ c e lo lo' gen,x=.arr c e lo gen∧y=.arr c e lo' gen∧lo≤lo'∧lo'≤gen
theorem QY {x y:aJ} (h:uS x y=true):AW x y:=by
 cases x with
 | arr c e lo gen=>cases y with
  | arr c' e' lo' gen'=>
   simp only[uS,Bool.and_eq_true] at h;obtain ⟨h1,h2,h3,h4,h5⟩:=h;rw[pK h1,zA3 h2,zA3 h5];exact .inr ⟨_,_,_,_,_,rfl,rfl,zA4 h3,zA4 h4⟩
  | oth _=>cases h
  | ro _=>cases h
 | ro _=>cases y <;> cases h
 | oth x=>cases y with
  | arr _ _ _ _=>cases x <;> cases h
  | ro _=>cases x <;> cases h
  | oth y=>
   cases x <;> cases y <;> first|(simp only[uS] at h;cases h;done)|skip
   ·simp only[uS,Bool.and_eq_true] at h;rw[Lm h.1,zA3 h.2];exact .inl rfl
   simp only[uS] at h;rename_i a b
   cases a <;> cases b <;> first|exact .inl rfl|cases h
theorem AW.ro {x y:aJ} (h:AW x y):x.kZ=y.kZ:=by
 rcases h with rfl|⟨c,e,lo,lo',gen,rfl,rfl,h1,h2⟩ <;> rfl
theorem AW.gen {x y:aJ} (h:AW x y) {g:Nat} (hg:dt y g):dt x g:=by
 rcases h with rfl|⟨c,e,lo,lo',gen,rfl,rfl,h1,h2⟩
 ·exact hg
 have P2:lo'≤g∧g≤gen:=hg;exact ⟨by omega,P2.2⟩
theorem AW.obj {x y:aJ} (h:AW x y) {β:Pl} {w:World} {id:Nat} (ho:fG β w id x):fG β w id y:=by
 rcases h with rfl|⟨c,e,lo,lo',gen,rfl,rfl,h1,h2⟩
 ·exact ho
 obtain ⟨a1,a2,a3,a4⟩:=ho;exact ⟨h2,fun g b1 b2=>a2 g (by omega) b2,fun g g' p p' b1 b2 b3=>a3 g g' p p' (by omega) b2 b3,a4⟩
def mkT {α:Type} (l:List (Nat×α)):PT α:=List.rec (motive:=fun _=>PT α) .leaf (fun x _ ih=>ih.set x.1 x.2) l
def small {α:Type} (n:Nat):List (Nat×α)→Bool
 | []=>true
 | x::l=>Nat.blt x.1 n&&small n l
theorem Aw {α:Type} {n:Nat} (hn:n≤2 ^ 40):∀ {l:List (Nat×α)},small n l=true→∀ {k:Nat} {a:α},(mkT l).get k=some a→k<n∧(k,a)∈l
 | [],_,k,a,h=>by cases h
 | x::l,hs,k,a,h=>by
  simp only[small,Bool.and_eq_true] at hs;have hx:x.1<n:=zA4 hs.1;have h':((mkT l).set x.1 x.2).get k=some a:=h;rw[PT.mH _ _ _ _ (by omega)] at h';split at h'
  ·rename_i hk
   cases h'
   subst hk;exact ⟨hx,List.mem_cons_self ..⟩
  obtain ⟨h1,h2⟩:=Aw hn hs.2 h';exact ⟨h1,List.mem_cons_of_mem _ h2⟩
def pU (tm:PT AV) (t:Nat):AV:=aw (tm.get t) aF fun v=>v
def Px (tm tm':PT AV) (n:Nat):Bool:=Nat.rec (motive:=fun _=>Bool) true (fun k ih=>both (Gq (pU tm k) (pU tm' k)) ih) n
theorem Lb {tm tm':PT AV}:∀ {n:Nat},Px tm tm' n=true→∀ k,k<n→pU tm k=pU tm' k∨pU tm' k=.any
 | 0,_,k,h=>by omega
 | n+1,h,k,hk=>by
  have h':both (Gq (pU tm n) (pU tm' n)) (Px tm tm' n)=true:=h;rw[cA,Bool.and_eq_true] at h';by_cases e:k=n
  ·subst e;exact Kp h'.1
  exact Lb h'.2 k (by omega)
def Qi (t:PT aJ) (l:List (Nat×aJ)):Bool:=List.rec (motive:=fun _=>Bool) true (fun x _ ih=>both (aw (t.get x.1) false fun o=>uS o x.2) ih) l
theorem JX {t:PT aJ}:∀ {l:List (Nat×aJ)},Qi t l=true→∀ x∈l,∃ o,t.get x.1=some o∧AW o x.2
 | [],_,x,h=>by cases h
 | y::l,h,x,hx=>by
  have h':both (aw (t.get y.1) false fun o=>uS o y.2) (Qi t l)=true:=h;rw[cA,Bool.and_eq_true] at h';rcases List.mem_cons.1 hx with rfl|hx
  ·cases hg:t.get x.1 with
   | none=>rw[hg] at h';cases h'.1
   | some o=>rw[hg] at h';exact ⟨o,rfl,QY h'.1⟩
  exact JX h'.2 x hx
def spine:Code→List Code
 | .seq a b=>a::spine b
 | c=>[c]
def iB:List Code→Code
 | []=>.skip
 | [c]=>c
 | c::l=>.seq c (iB l)
theorem QS:∀ (c:Code),spine c≠[]
 | .seq a b=>by simp[spine]
 | .skip|.region ..|.cond ..|.block ..|.loop ..|.rangeFunc ..|.exit ..|.scope ..|.label ..|.goto ..|.ret|.refuse ..=>by simp[spine]
theorem oI:∀ (c:Code),iB (spine c)=c
 | .seq a b=>by
  have h:=oI b;have hn:=QS b;show iB (a::spine b)=_;cases hs:spine b with
  | nil=>exact absurd hs hn
  | cons x l=>
   rw[hs] at h;show Code.seq a (iB (x::l))=_;rw[h]
 | .skip|.region ..|.cond ..|.block ..|.loop ..|.rangeFunc ..|.exit ..|.scope ..|.label ..|.goto ..|.ret|.refuse ..=>rfl
def ir (P:Program) (f:FuncId):List Code:=
 match P.funcs[f]? with
 | some fn=>match fn.body with|some c=>spine c|none=>[]
 | none=>[]
def jj (P:Program) (f:FuncId):Nat:=match P.funcs[f]? with|some fn=>fn.ntmps|none=>0
def Pu (P:Program) (f:FuncId):List ResultVar:=match P.funcs[f]? with|some fn=>fn.results.toList|none=>[]
def zJ (E:Env) (rec:Rec) (l:List Code):ab→Hp→R (aD×ab×Hp):=
 List.rec (motive:=fun _=>ab→Hp→R (aD×ab×Hp)) (fun a h=>.ok [(.normal,a,h)])
  (fun c _ ih a h=>((codeF E c).run rec none a h).bind fun x=>exE x.1 (ih x.2.1 x.2.2) (fun _=>.bad "piece - exit") (.bad "piece - return")) l
def Uk {α:Type} (p:α→Bool) (r:R α):Bool:=R.rec (motive:=fun _=>Bool) (fun l=>List.rec (motive:=fun _=>Bool) true (fun x _ ih=>both (p x) ih) l) (fun _=>false) r
theorem Jw {α:Type} {p:α→Bool} {r:R α} (h:Uk p r=true):∃ l,r=.ok l∧∀ x∈l,p x=true:=by
 cases r with
 | bad s=>cases h
 | ok l=>
  refine ⟨l,rfl,?_⟩;have h':List.rec (motive:=fun _=>Bool) true (fun x _ ih=>both (p x) ih) l=true:=h;clear h;induction l with
  | nil=>intro x hx;cases hx
  | cons y l ih=>
   have h2:both (p y) (List.rec (motive:=fun _=>Bool) true (fun x _ ih=>both (p x) ih) l)=true:=h';rw[cA,Bool.and_eq_true] at h2;intro x hx;rcases List.mem_cons.1 hx with rfl|hx
   ·exact h2.1
   exact ih h2.2 x hx
structure Mark where
 slots:List (Nat×AV)
 objs:List (Nat×aJ)
 nx:Nat
def Mark.hp (k:Mark):Hp:=⟨mkT k.objs,k.nx,[]⟩
def Mark.act (k:Mark) (nt:Nat):ab:=⟨mkT k.slots,nt,[]⟩
def Mark.fits (k:Mark) (nt:Nat):Bool:=Nat.ble nt 1048576&&(small nt k.slots&&(small k.nx k.objs&&Nat.ble k.nx 1099511627776))
def LK {α:Type} (l:List α):Bool:=List.rec (motive:=fun _=>Bool) true (fun _ _ _=>false) l
def AB (k:Mark) (nt:Nat) (x:aD×ab×Hp):Bool:=
 exE x.1 (both (Nat.beq x.2.1.nt nt) (both (Nat.ble x.2.2.nx k.nx) (both (Px x.2.1.tm (mkT k.slots) nt) (both (Qi x.2.2.t k.objs) (LK x.2.1.dfr))))) (fun _=>false) false
def piece (E:Env) (n:Nat) (f:FuncId) (i d:Nat) (k k':Mark):Bool:=
 both (k'.fits (jj E.P f)) (Uk (AB k' (jj E.P f)) (zJ E (eval E n) (((ir E.P f).drop i).take d) (k.act (jj E.P f)) k.hp))
def xt (E:Env) (n:Nat) (f:FuncId) (i:Nat) (k:Mark):Bool:=
 Uk (fun x:AV×Hp=>both (dM x.1 false fun b=>b) (Nat.ble x.2.nx 1099511627776)) (((codeF E (iB ((ir E.P f).drop i))).run (eval E n) none (k.act (jj E.P f)) k.hp).bind (aC E (Pu E.P f)))
def Grown (w w':World):Prop:=w'.os=w.os∧w'.tape=w.tape∧w'.output=w.output∧w.heap.size≤w'.heap.size∧∀ b,b<w.heap.size→w'.heap[b]?=w.heap[b]?
structure At (E:Env) (f:FuncId) (k:Mark) (w0:World) (a:Act) (w:World):Prop where
 grown:Grown w0 w
 here:∃ β,ga β (k.act (jj E.P f)) a∧Rel (2 ^ 40) β k.hp w∧∀ id o g p,k.hp.get id=some o→dt o g→β id g=some p→w0.heap.size≤p.b
theorem Gj {β β':Pl} {H H':Hp} {w0 w w':World} (h:Grown w0 w) (hp:∀ id o g p,H.get id=some o→dt o g→β id g=some p→w0.heap.size≤p.b) (hx:Ext β H w β' H' w'):Grown w0 w':=by
 obtain ⟨h1,h2,h3,h4,h5⟩:=h;refine ⟨hx.os.trans h1,hx.tape.trans h2,hx.output.trans h3,zA2 h4 hx.size,fun b hb=>?_⟩;rw[hx.frame b (by omega) fun id o g p a b' c d=>?_,h5 b hb];have:=hp id o g p a b'.1 c;omega
theorem At.next {E:Env} {f:FuncId} {k k':Mark} {w0 w w':World} {a':Act} {β β':Pl} (hg:Grown w0 w) (hp:∀ id o g p,k.hp.get id=some o→dt o g→β id g=some p→w0.heap.size≤p.b)
  (C2:k'.fits (jj E.P f)=true) {x:aD×ab×Hp} (N4:AB k' (jj E.P f) x=true) (hA:ga β' x.2.1 a') (hR:Rel (2 ^ 40) β' x.2.2 w') (hx:Ext β k.hp w β' x.2.2 w'):x.1=.normal∧At E f k' w0 a' w':=by
 obtain ⟨e,A,H⟩:=x;unfold AB at N4;cases e with
 | exit i=>cases N4
 | ret=>cases N4
 | normal=>
  refine ⟨rfl,Gj hg hp hx,β',?_⟩;have hchk':both (Nat.beq A.nt (jj E.P f)) (both (Nat.ble H.nx k'.nx) (both (Px A.tm (mkT k'.slots) (jj E.P f)) (both (Qi H.t k'.objs) (LK A.dfr))))=true:=N4;simp only[cA,Bool.and_eq_true] at hchk';obtain ⟨h0,h1,h2,h3,h4⟩:=hchk';have B0:A.nt=jj E.P f:=zA3 h0;simp only[Mark.fits,Bool.and_eq_true] at C2;obtain ⟨f1,f2,f3,f4⟩:=C2;have f1':jj E.P f≤1048576:=zA4 f1;have f4':k'.nx≤1099511627776:=zA4 f4;have W0:H.nx≤k'.nx:=zA4 h1;have T0:∀ id o,k'.hp.get id=some o→(∃ o1,H.get id=some o1∧AW o1 o)∧id<k'.nx:=fun id o ho=>by
   obtain ⟨g1,g2⟩:=Aw (n:=k'.nx) (by omega) f3 (k:=id) (a:=o) ho;exact ⟨JX h3 _ g2,g1⟩
  refine ⟨⟨⟨?_,f1',fun t=>?_⟩,?_⟩,⟨fun id o ho=>?_,fun id id' o o' g g' p p' a b c d=>?_,fun id hid=>?_,fun id g a b=>hR.free id g (zA2 W0 a) b⟩,
   fun id o g p a b c=>?_⟩
  ·have:=hA.tm.1;rw[this];exact B0
  ·have hAt:=hA.tm.2.2 t;show AR β' (pU (mkT k'.slots) t) _;rcases Nat.lt_or_ge t (jj E.P f) with ht|ht
   ·rcases Lb h2 t ht with e|e
    ·rw[←e];exact hAt
    rw[e];trivial
   have G1:a'.tmps.size=jj E.P f:=by have:=hA.tm.1;rw[this];exact B0
   have hu:a'.tmps.getD t undef=undef:=by
    simp only[Array.getD_eq_getD_getElem?];rw[Array.getElem?_eq_none (by omega)];rfl
   rw[hu];unfold pU;cases P2:(mkT k'.slots).get t with
   | none=>exact oY β'
   | some v=>
    have:=(Aw (n:=jj E.P f) (by omega) f2 P2).1;omega
  ·have hd:A.dfr=[]:=by
    have h4':LK A.dfr=true:=h4;cases hdd:A.dfr with
    | nil=>rfl
    | cons _ _=>rw[hdd] at h4';cases h4'
   have:=hA.df;have e:(⟨mkT k'.slots,jj E.P f,[]⟩:ab).dfr=A.dfr:=hd.symm;show lB β' (⟨mkT k'.slots,jj E.P f,[]⟩:ab).dfr a'.defers;rw[e];exact this
  ·obtain ⟨⟨o1,g1,g2⟩,_⟩:=T0 id o ho;exact g2.obj (hR.obj id o1 g1)
  ·obtain ⟨⟨o1,g1,g2⟩,_⟩:=T0 id o a;obtain ⟨⟨o2,g3,g4⟩,_⟩:=T0 id' o' b;rw[←g2.ro,←g4.ro];exact hR.sep id id' o1 o2 g g' p p' g1 g3 (g2.gen c) (g4.gen d)
  ·cases P2:k'.hp.get id with
   | none=>rfl
   | some o=>
    have:=(T0 id o P2).2;have J1:k'.nx≤id:=hid;omega
  obtain ⟨⟨o1,g1,g2⟩,_⟩:=T0 id o a;rcases hx.prov id o1 g p g1 (g2.gen b) c with h|⟨o0,g0,p0,a1,a2,a3,a4⟩
  ·have:=hg.2.2.2.1;omega
  have:=hp id o0 g0 p0 a1 a2 a3;omega
section
variable {E:Env} (hE:vt E)
include hE
omit hE in
theorem yo {rec:Rec} (I0:RecM rec):∀ (l:List Code) (a:ab) (h:Hp),RG h.nx nE (zJ E rec l a h)
 | [],a,h=>RG.one (zA1 _)
 | c::l,a,h=>RG.bind (nx:=nE) (px I0 c none a h) fun x hx=>lD ((yo I0 l _ _).le hx) (fun _=>RG.bad) RG.bad
omit hE in
theorem CD (c:Code) {l:List Code} (h:l≠[]):iB (c::l)=.seq c (iB l):=by
 cases l with
 | nil=>exact absurd rfl h
 | cons x l=>rfl
theorem NC {n:Nat} {Q:Exit→Act→World→Prop} {t:List Code} (ht:t≠[]):∀ (l:List Code) {β:Pl} {H:Hp} {w:World} {A:ab} {a:Act} {outs:List (aD×ab×Hp)},Rel (2 ^ 40) β H w→ga β A a →
  zJ E (eval E n) l A H=.ok outs→(∀ x∈outs,nE x≤2 ^ 40)→(∀ x∈outs,x.1=.normal)→(∀ a' w',fK (2 ^ 40) β H w outs .normal a' w'→(iB t).wpIn (fen none) 0 E.P Q a' w')→(iB (l++t)).wpIn (fen none) 0 E.P Q a w
 | [],β,H,w,A,a,outs,hR,hA,h,hb,hn,hQ=>by
  cases h
  exact hQ a w ⟨_,List.mem_singleton.2 rfl,trivial,β,hA,hR,Ext.refl _ _ _⟩
 | c::l,β,H,w,A,a,outs,hR,hA,h,hb,hn,hQ=>by
  have h':((codeF E c).run (eval E n) none A H).bind (fun x=>exE x.1 (zJ E (eval E n) l x.2.1 x.2.2) (fun _=>.bad "piece - exit") (.bad "piece - return"))=.ok outs:=h
  obtain ⟨zs,hz,hk⟩:=R.dI h';have Y0:l++t≠[]:=by simp[ht]
  show (iB (c::(l++t))).wpIn (fen none) 0 E.P Q a w;rw[CD c Y0];have hbz:∀ z∈zs,nE z≤2 ^ 40:=fun z hz=>by
   obtain ⟨o,ho,hs⟩:=hk z hz;exact RG.lE (k:=nE z) (nx:=nE) (lD (yo (kQ E n) l _ _) (fun _=>RG.bad) RG.bad) ho hs hb
  refine wpIn_seq (Go.wpIn_mono (pF hE (ER hE) (oC hE (ER hE) n) (kQ E n) c (r:=none) (rB:=none) (zA1 _) hR hA rfl hz hbz).1 fun e a1 w1 hp=>?_);obtain ⟨z,hzm,L5,β1,V4,W3,P0⟩:=hp;obtain ⟨o,ho,hs⟩:=hk z hzm;rcases mD ho with ⟨C3,h1⟩|⟨i,C3,h1⟩|⟨C3,h1⟩
  ·rw[L5.normal C3];exact NC ht l W3 V4 h1 (fun q hq=>hb q (hs q hq)) (fun q hq=>hn q (hs q hq)) fun a' w' C5=>hQ a' w' (C5.ext P0 hs)
  ·cases h1
  cases h1
def Iu (w0:World) (e:Ending) (w:World):Prop:=e=.returned (.bool true)∧Grown w0 w
def Good (E:Env) (f:FuncId) (fn:Func) (w0:World) (i:Nat) (k:Mark):Prop:=
 ∀ a w,At E f k w0 a w→(iB ((ir E.P f).drop i)).wpIn (fen none) 0 E.P (bodyPostM Fence.wide 0 E.P fn (Iu w0)) a w
theorem uI {n:Nat} {f:FuncId} {fn:Func} {w0:World} {i d:Nat} {k k':Mark} (h:piece E n f i d k k'=true) (hl:i+d<(ir E.P f).length) (hg:Good E f fn w0 (i+d) k'):Good E f fn w0 i k:=by
 intro a w J0;unfold piece at h;rw[cA,Bool.and_eq_true] at h;obtain ⟨C2,h⟩:=h;obtain ⟨outs,hr,N4⟩:=Jw h;obtain ⟨R0,β,hA,hR,hp⟩:=J0;have hfit4:k'.nx≤1099511627776:=by
  simp only[Mark.fits,Bool.and_eq_true] at C2;exact zA4 C2.2.2.2
 have R_:∀ x∈outs,x.1=.normal∧nE x≤k'.nx:=fun x hx=>by
  have hc:=N4 x hx;unfold AB at hc;cases K0:x.1 with
  | exit i=>rw[K0] at hc;cases hc
  | ret=>rw[K0] at hc;cases hc
  | normal=>
   rw[K0] at hc;have L_:both (Nat.beq x.2.1.nt (jj E.P f)) (both (Nat.ble x.2.2.nx k'.nx) (both (Px x.2.1.tm (mkT k'.slots) (jj E.P f)) (both (Qi x.2.2.t k'.objs) (LK x.2.1.dfr))))=true:=hc;simp only[cA,Bool.and_eq_true] at L_;exact ⟨rfl,zA4 L_.2.1⟩
 have hsplit:(ir E.P f).drop i=((ir E.P f).drop i).take d++(ir E.P f).drop (i+d):=by
  rw[←List.drop_drop,List.take_append_drop]
 rw[hsplit];have Y0:(ir E.P f).drop (i+d)≠[]:=by
  intro e;have:=congrArg List.length e;simp at this
  omega
 refine NC hE Y0 _ hR hA hr (fun x hx=>zA2 (R_ x hx).2 hfit4) (fun x hx=>(R_ x hx).1) fun a' w' E6=>?_;obtain ⟨x,hx,_,β',hA',p8,P0⟩:=E6;exact hg a' w' (At.next R0 hp C2 (N4 x hx) hA' p8 P0).2
theorem Ru {n:Nat} {f:FuncId} {fn:Func} (hf:E.P.funcs[f]?=some fn) {w0:World} {i:Nat} {k:Mark} (h:xt E n f i k=true):Good E f fn w0 i k:=by
 intro a w J0;obtain ⟨outs,hr,N4⟩:=Jw h;obtain ⟨R0,β,hA,hR,hp⟩:=J0;have hres:Pu E.P f=fn.results.toList:=by unfold Pu;rw[hf]
 rw[hres] at hr;obtain ⟨zs,hz,hk⟩:=R.dI hr;have P1:∀ x∈outs,x.1=.one (.b true)∧nV x≤2 ^ 40:=fun x hx=>by
  have hc:=N4 x hx;rw[cA,Bool.and_eq_true] at hc;refine ⟨?_,zA4 hc.2⟩;have h1:=hc.1;obtain ⟨v,H⟩:=x;cases v with
  | one c=>cases c with
   | b b=>cases b with
    | true=>rfl
    | false=>cases h1
   | i _ _=>cases h1
   | o _=>cases h1
  | agg _=>cases h1
  | tup _=>cases h1
  | any=>cases h1
 have hbz:∀ z∈zs,nE z≤2 ^ 40:=fun z hz=>by
  obtain ⟨o,ho,hs⟩:=hk z hz;exact RG.lE (nI (zA1 _)) ho hs fun x hx=>(P1 x hx).2
 refine Go.wpIn_mono (pF hE (ER hE) (oC hE (ER hE) n) (kQ E n) _ (r:=none) (rB:=none) (zA1 _) hR hA rfl hz hbz).1 fun e a1 w1 E6=>?_;obtain ⟨z,hzm,L5,β1,V4,W3,P0⟩:=E6;obtain ⟨o,ho,hs⟩:=hk z hzm;have P5:∀ e w',lY (2 ^ 40) β k.hp w outs e w'→Iu w0 e w':=by
  rintro e w' ⟨v,rfl,x,hx,β2,hv,_,F3⟩;rw[(P1 x hx).1] at hv;have I2:v=.bool true:=hv;subst I2;exact ⟨rfl,Gj R0 hp F3⟩
 exact vn (E:=E) (zA1 _) L5 V4 W3 P0 (hbz z hzm) ho hs P5
omit hE in
theorem wj {f:FuncId} {fn:Func} (hf:E.P.funcs[f]?=some fn) (m7:fn.body.isSome=true) (hnt0:Nat.ble fn.ntmps 1048576=true) {w0:World} (h:Good E f fn w0 0 ⟨[],[],0⟩):Calls E.P f #[] w0 (Iu w0):=by
 obtain ⟨c,hb⟩:=Option.isSome_iff_exists.1 m7;have B0:fn.ntmps≤1048576:=zA4 hnt0;have J6:ir E.P f=spine c:=by unfold ir;rw[hf];simp only[hb]
 have hn:jj E.P f=fn.ntmps:=by unfold jj;rw[hf]
 refine (callsIn_wide (n:=0)).1 (callsIn_of_wp_marks hf hb trivial ?_);have h0:=h { tmps:=#[]++Array.replicate (fn.ntmps - (#[]:Array Value).size) undef,defers:=[] } w0 ⟨⟨rfl,rfl,rfl,zA1 _,fun _ _=>rfl⟩,fun _ _=>none,⟨?_,trivial⟩,⟨fun id o ho=>(by cases ho),fun id _ o _ _ _ _ _ ho=>(by cases ho),fun _ _=>rfl,fun _ _ _ _=>rfl⟩,fun id o _ _ ho=>(by cases ho)⟩
 ·rw[List.drop_zero,J6,oI] at h0;exact h0
 have:=Jb (β:=fun _ _=>none) (nt:=fn.ntmps) B0 (args:=[]) (vs:=[]) trivial (Nat.zero_le _);show TmR _ (mkT []) (jj E.P f) _;rw[hn];exact this
end
end Go.Eng
end
