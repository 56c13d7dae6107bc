/- A part of the proof: EngChunk. No conditions. -/
import Derived.Test.YtnhbkodnmkojpaaGreatSAd
set_option maxRecDepth 100000
set_option maxHeartbeats 64000000
set_option linter.unusedVariables false
set_option linter.unusedSimpArgs false
noncomputable section
namespace Go.Eng
open Go
def Xv:List UInt8→List UInt8→Bool:=
 fun l=>List.rec (motive:=fun _=>List UInt8→Bool) (fun m=>List.rec (motive:=fun _=>Bool) true (fun _ _ _=>false) m)
  (fun x _ ih m=>List.rec (motive:=fun _=>Bool) false (fun y m' _=>both (bEq x y) (ih m')) m) l
theorem XI {a b:UInt8} (h:bEq a b=true):a=b:=UInt8.toNat_inj.1 (zA3 h)
theorem Lb:∀ {l m:List UInt8},Xv l m=true→l=m
 | [],[],_=>rfl
 | [],_::_,h=>by cases h
 | _::_,[],h=>by cases h
 | x::l,y::m,h=>by
  have h':both (bEq x y) (Xv l m)=true:=h;rw[ck,Bool.and_eq_true] at h';rw[XI h'.1,Lb h'.2]
def Cx:List (Nat×Nat×Nat×Nat)→List (Nat×Nat×Nat×Nat)→Bool
 | [],[]=>true
 | (a,b,c,d)::l,(a',b',c',d')::m=>Nat.beq a a'&&(Nat.beq b b'&&(Nat.beq c c'&&(Nat.beq d d'&&Cx l m)))
 | _,_=>false
theorem yk:∀ {l m:List (Nat×Nat×Nat×Nat)},Cx l m=true→l=m
 | [],[],_=>rfl
 | [],_::_,h=>by cases h
 | _::_,[],h=>by cases h
 | (a,b,c,d)::l,(a',b',c',d')::m,h=>by
  unfold Cx at h;simp only[Bool.and_eq_true] at h;obtain ⟨h1,h2,h3,h4,h5⟩:=h;rw[zA3 h1,zA3 h2,zA3 h3,zA3 h4,yk h5]
def HV:AO→AO→Bool
 | .str s,.str t=>Xv s t
 | .nilP,.nilP=>true
 | .nilS,.nilS=>true
 | .nilM,.nilM=>true
 | .nilF,.nilF=>true
 | .ptr a b c d,.ptr a' b' c' d'=>Nat.beq a a'&&(Nat.beq b b'&&(Nat.beq c c'&&Nat.beq d d'))
 | .sl a b c d e,.sl a' b' c' d' e'=>Nat.beq a a'&&(Nat.beq b b'&&(Nat.beq c c'&&(Nat.beq d d'&&Nat.beq e e')))
 | .mp a,.mp a'=>Nat.beq a a'
 | .clo f l,.clo f' l'=>Nat.beq f f'&&Cx l l'
 | _,_=>false
theorem Vn {x y:AO} (h:HV x y=true):x=y:=by
 cases x <;> cases y <;> first|rfl|(simp only[HV] at h;cases h;done)|skip
 ·simp only[HV] at h;rw[Lb h]
 ·simp only[HV,Bool.and_eq_true] at h;obtain ⟨h1,h2,h3,h4⟩:=h;rw[zA3 h1,zA3 h2,zA3 h3,zA3 h4]
 ·simp only[HV,Bool.and_eq_true] at h;obtain ⟨h1,h2,h3,h4,h5⟩:=h;rw[zA3 h1,zA3 h2,zA3 h3,zA3 h4,zA3 h5]
 ·simp only[HV] at h;rw[zA3 h]
 simp only[HV,Bool.and_eq_true] at h;rw[zA3 h.1,yk h.2]
def Oc:AC→AC→Bool
 | .b x,.b y=>bif x then y else !y
 | .i k n,.i k' n'=>sameKind k k'&&iEq n n'
 | .o x,.o y=>HV x y
 | _,_=>false
theorem MQ {x y:AC} (h:Oc x y=true):x=y:=by
 cases x with
 | b x=>cases y with
  | b y=>cases x <;> cases y <;> first|rfl|(simp only[Oc] at h;cases h)
  | i _ _=>cases h
  | o _=>cases h
 | i k n=>cases y with
  | i k' n'=>
   simp only[Oc,Bool.and_eq_true] at h;have h2:=h.2;rw[sF] at h2;rw[jJ h.1,eq_of_beq h2]
  | b _=>cases h
  | o _=>cases h
 | o x=>cases y with
  | o y=>simp only[Oc] at h;rw[Vn h]
  | b _=>cases h
  | i _ _=>cases h
def Ar:List AC→List AC→Bool
 | [],[]=>true
 | x::l,y::m=>Oc x y&&Ar l m
 | _,_=>false
theorem pZ:∀ {l m:List AC},Ar l m=true→l=m
 | [],[],_=>rfl
 | [],_::_,h=>by cases h
 | _::_,[],h=>by cases h
 | x::l,y::m,h=>by
  simp only[Ar,Bool.and_eq_true] at h;rw[MQ h.1,pZ h.2]
def KZ:List (Bool×List AC)→List (Bool×List AC)→Bool
 | [],[]=>true
 | (a,l)::x,(b,m)::y=>(bif a then b else !b)&&(Ar l m&&KZ x y)
 | _,_=>false
theorem GB:∀ {l m:List (Bool×List AC)},KZ l m=true→l=m
 | [],[],_=>rfl
 | [],_::_,h=>by cases h
 | _::_,[],h=>by cases h
 | (a,l)::x,(b,m)::y,h=>by
  simp only[KZ,Bool.and_eq_true] at h;have:a=b:=by
   have h1:=h.1;cases a <;> cases b <;> first|rfl|cases h1
  rw[this,pZ h.2.1,GB h.2.2]
def HU:AV→AV→Bool
 | .one x,.one y=>Oc x y
 | .agg l,.agg m=>Ar l m
 | .tup l,.tup m=>KZ l m
 | _,.any=>true
 | _,_=>false
theorem Mm {x y:AV} (h:HU x y=true):x=y∨y=.any:=by
 cases x <;> cases y <;> first|exact .inr rfl|(simp only[HU] at h;cases h;done)|skip
 ·simp only[HU] at h;exact .inl (by rw[MQ h])
 ·simp only[HU] at h;exact .inl (by rw[pZ h])
 simp only[HU] at h;exact .inl (by rw[GB h])
def JY (x y:AV):Bool:=match y with|.any=>false|_=>HU x y
theorem Fv {x y:AV} (h:JY x y=true):x=y:=by
 unfold JY at h;split at h
 ·cases h
 rename_i hn
 exact (Mm h).resolve_right hn
def Wa:List bF→List bF→Bool
 | [],[]=>true
 | x::l,y::m=>JY x.key y.key&&(JY x.val y.val&&(Nat.beq x.born y.born&&Wa l m))
 | _,_=>false
theorem KN:∀ {l m:List bF},Wa l m=true→l=m
 | [],[],_=>rfl
 | [],_::_,h=>by cases h
 | _::_,[],h=>by cases h
 | ⟨a,b,c⟩::l,⟨a',b',c'⟩::m,h=>by
  simp only[Wa,Bool.and_eq_true] at h;obtain ⟨h1,h2,h3,h4⟩:=h;rw[Fv h1,Fv h2,zA3 h3,KN h4]
def vU:aK→aK→Bool
 | .arr c e lo gen,.arr c' e' lo' gen'=>Ar c c'&&(Nat.beq e e'&&(Nat.ble lo lo'&&(Nat.ble lo' gen'&&Nat.beq gen gen')))
 | .oth (.map es k),.oth (.map es' k')=>Wa es es'&&Nat.beq k k'
 | .oth (.dfr b),.oth (.dfr b')=>bif b then b' else !b'
 | _,_=>false
def Bj (x y:aK):Prop:=x=y∨∃ c e lo lo' gen,x=.arr c e lo gen∧y=.arr c e lo' gen∧lo≤lo'∧lo'≤gen
theorem SY {x y:aK} (h:vU x y=true):Bj x y:=by
 cases x with
 | arr c e lo gen=>cases y with
  | arr c' e' lo' gen'=>
   simp only[vU,Bool.and_eq_true] at h;obtain ⟨h1,h2,h3,h4,h5⟩:=h;rw[pZ h1,zA3 h2,zA3 h5];exact .inr ⟨_,_,_,_,_,rfl,rfl,zA4 h3,zA4 h4⟩
  | oth _=>cases h
  | ro _=>cases h
 | ro _=>cases y <;> cases h
 | oth x=>cases y with
  | arr _ _ _ _=>cases x <;> cases h
  | ro _=>cases x <;> cases h
  | oth y=>
   cases x <;> cases y <;> first|(simp only[vU] at h;cases h;done)|skip
   ·simp only[vU,Bool.and_eq_true] at h;rw[KN h.1,zA3 h.2];exact .inl rfl
   simp only[vU] at h;rename_i a b
   cases a <;> cases b <;> first|exact .inl rfl|cases h
theorem Bj.ro {x y:aK} (h:Bj x y):x.mu=y.mu:=by
 rcases h with rfl|⟨c,e,lo,lo',gen,rfl,rfl,h1,h2⟩ <;> rfl
theorem Bj.gen {x y:aK} (h:Bj x y) {g:Nat} (hg:dB y g):dB x g:=by
 rcases h with rfl|⟨c,e,lo,lo',gen,rfl,rfl,h1,h2⟩
 ·exact hg
 have M1:lo'≤g∧g≤gen:=hg;exact ⟨by omega,M1.2⟩
theorem Bj.obj {x y:aK} (h:Bj x y) {β:Pl} {w:World} {id:Nat} (ho:fS β w id x):fS β w id y:=by
 rcases h with rfl|⟨c,e,lo,lo',gen,rfl,rfl,h1,h2⟩
 ·exact ho
 obtain ⟨a1,a2,a3,a4⟩:=ho;exact ⟨h2,fun g b1 b2=>a2 g (by omega) b2,fun g g' p p' b1 b2 b3=>a3 g g' p p' (by omega) b2 b3,a4⟩
def mkT {α:Type} (l:List (Nat×α)):PT α:=List.rec (motive:=fun _=>PT α) .leaf (fun x _ ih=>ih.set x.1 x.2) l
def small {α:Type} (n:Nat):List (Nat×α)→Bool
 | []=>true
 | x::l=>Nat.blt x.1 n&&small n l
theorem CQ {α:Type} {n:Nat} (hn:n≤2 ^ 40):∀ {l:List (Nat×α)},small n l=true→∀ {k:Nat} {a:α},(mkT l).get k=some a→k<n∧(k,a)∈l
 | [],_,k,a,h=>by cases h
 | x::l,hs,k,a,h=>by
  simp only[small,Bool.and_eq_true] at hs;have hx:x.1<n:=zA4 hs.1;have h':((mkT l).set x.1 x.2).get k=some a:=h;rw[PT.ov _ _ _ _ (by omega)] at h';split at h'
  ·rename_i hk
   cases h'
   subst hk;exact ⟨hx,List.mem_cons_self ..⟩
  obtain ⟨h1,h2⟩:=CQ hn hs.2 h';exact ⟨h1,List.mem_cons_of_mem _ h2⟩
def qi (tm:PT AV) (t:Nat):AV:=ay (tm.get t) aF fun v=>v
def QG (tm tm':PT AV) (n:Nat):Bool:=Nat.rec (motive:=fun _=>Bool) true (fun k ih=>both (HU (qi tm k) (qi tm' k)) ih) n
theorem LI {tm tm':PT AV}:∀ {n:Nat},QG tm tm' n=true→∀ k,k<n→qi tm k=qi tm' k∨qi tm' k=.any
 | 0,_,k,h=>by omega
 | n+1,h,k,hk=>by
  have h':both (HU (qi tm n) (qi tm' n)) (QG tm tm' n)=true:=h;rw[ck,Bool.and_eq_true] at h';by_cases e:k=n
  ·subst e;exact Mm h'.1
  exact LI h'.2 k (by omega)
def QR (t:PT aK) (l:List (Nat×aK)):Bool:=List.rec (motive:=fun _=>Bool) true (fun x _ ih=>both (ay (t.get x.1) false fun o=>vU o x.2) ih) l
theorem KF {t:PT aK}:∀ {l:List (Nat×aK)},QR t l=true→∀ x∈l,∃ o,t.get x.1=some o∧Bj o x.2
 | [],_,x,h=>by cases h
 | y::l,h,x,hx=>by
  have h':both (ay (t.get y.1) false fun o=>vU o y.2) (QR t l)=true:=h;rw[ck,Bool.and_eq_true] at h';rcases List.mem_cons.1 hx with rfl|hx
  ·cases hg:t.get x.1 with
   | none=>rw[hg] at h';cases h'.1
   | some o=>rw[hg] at h';exact ⟨o,rfl,SY h'.1⟩
  exact KF h'.2 x hx
def spine:Code→List Code
 | .seq a b=>a::spine b
 | c=>[c]
def jk:List Code→Code
 | []=>.skip
 | [c]=>c
 | c::l=>.seq c (jk l)
theorem RN:∀ (c:Code),spine c≠[]
 | .seq a b=>by simp[spine]
 | .skip|.region ..|.cond ..|.block ..|.loop ..|.rangeFunc ..|.exit ..|.scope ..|.label ..|.goto ..|.ret|.refuse ..=>by simp[spine]
theorem qJ:∀ (c:Code),jk (spine c)=c
 | .seq a b=>by
  have h:=qJ b;have hn:=RN b;show jk (a::spine b)=_;cases hs:spine b with
  | nil=>exact absurd hs hn
  | cons x l=>
   rw[hs] at h;show Code.seq a (jk (x::l))=_;rw[h]
 | .skip|.region ..|.cond ..|.block ..|.loop ..|.rangeFunc ..|.exit ..|.scope ..|.label ..|.goto ..|.ret|.refuse ..=>rfl
def iZ (P:Program) (f:FuncId):List Code:=
 match P.funcs[f]? with
 | some fn=>match fn.body with|some c=>spine c|none=>[]
 | none=>[]
def jU (P:Program) (f:FuncId):Nat:=match P.funcs[f]? with|some fn=>fn.ntmps|none=>0
def Pj (P:Program) (f:FuncId):List ResultVar:=match P.funcs[f]? with|some fn=>fn.results.toList|none=>[]
def Cb (E:Env) (rec:Rec) (l:List Code):ab→Hp→R (ax×ab×Hp):=
 List.rec (motive:=fun _=>ab→Hp→R (ax×ab×Hp)) (fun a h=>.ok [(.normal,a,h)])
  (fun c _ ih a h=>((codeF E c).run rec none a h).bind fun x=>exE x.1 (ih x.2.1 x.2.2) (fun _=>.bad "piece - exit") (.bad "piece - return")) l
def Xq {α:Type} (p:α→Bool) (r:R α):Bool:=R.rec (motive:=fun _=>Bool) (fun l=>List.rec (motive:=fun _=>Bool) true (fun x _ ih=>both (p x) ih) l) (fun _=>false) r
theorem MN {α:Type} {p:α→Bool} {r:R α} (h:Xq p r=true):∃ l,r=.ok l∧∀ x∈l,p x=true:=by
 cases r with
 | bad s=>cases h
 | ok l=>
  refine ⟨l,rfl,?_⟩;have h':List.rec (motive:=fun _=>Bool) true (fun x _ ih=>both (p x) ih) l=true:=h;clear h;induction l with
  | nil=>intro x hx;cases hx
  | cons y l ih=>
   have h2:both (p y) (List.rec (motive:=fun _=>Bool) true (fun x _ ih=>both (p x) ih) l)=true:=h';rw[ck,Bool.and_eq_true] at h2;intro x hx;rcases List.mem_cons.1 hx with rfl|hx
   ·exact h2.1
   exact ih h2.2 x hx
structure Mark where
 slots:List (Nat×AV)
 objs:List (Nat×aK)
 nx:Nat
def Mark.hp (k:Mark):Hp:=⟨mkT k.objs,k.nx,[]⟩
def Mark.act (k:Mark) (nt:Nat):ab:=⟨mkT k.slots,nt,[]⟩
def Mark.fits (k:Mark) (nt:Nat):Bool:=Nat.ble nt 1048576&&(small nt k.slots&&(small k.nx k.objs&&Nat.ble k.nx 1099511627776))
def Oe {α:Type} (l:List α):Bool:=List.rec (motive:=fun _=>Bool) true (fun _ _ _=>false) l
def Dd (k:Mark) (nt:Nat) (x:ax×ab×Hp):Bool:=
 exE x.1 (both (Nat.beq x.2.1.nt nt) (both (Nat.ble x.2.2.nx k.nx) (both (QG x.2.1.tm (mkT k.slots) nt) (both (QR x.2.2.t k.objs) (Oe x.2.1.dfr))))) (fun _=>false) false
def piece (E:Env) (n:Nat) (f:FuncId) (i d:Nat) (k k':Mark):Bool:=
 both (k'.fits (jU E.P f)) (Xq (Dd k' (jU E.P f)) (Cb E (eval E n) (((iZ E.P f).drop i).take d) (k.act (jU E.P f)) k.hp))
def yw (E:Env) (n:Nat) (f:FuncId) (i:Nat) (k:Mark):Bool:=
 Xq (fun x:AV×Hp=>both (dz x.1 false fun b=>b) (Nat.ble x.2.nx 1099511627776)) (((codeF E (jk ((iZ E.P f).drop i))).run (eval E n) none (k.act (jU E.P f)) k.hp).bind (aC E (Pj E.P f)))
def Grown (w w':World):Prop:=w'.os=w.os∧w'.tape=w.tape∧w'.output=w.output∧w.heap.size≤w'.heap.size∧∀ b,b<w.heap.size→w'.heap[b]?=w.heap[b]?
structure At (E:Env) (f:FuncId) (k:Mark) (w0:World) (a:Act) (w:World):Prop where
 grown:Grown w0 w
 here:∃ β,gO β (k.act (jU E.P f)) a∧Rel (2 ^ 40) β k.hp w∧∀ id o g p,k.hp.get id=some o→dB o g→β id g=some p→w0.heap.size≤p.b
theorem Il {β β':Pl} {H H':Hp} {w0 w w':World} (h:Grown w0 w) (hp:∀ id o g p,H.get id=some o→dB o g→β id g=some p→w0.heap.size≤p.b) (hx:Ext β H w β' H' w'):Grown w0 w':=by
 obtain ⟨h1,h2,h3,h4,h5⟩:=h;refine ⟨hx.os.trans h1,hx.tape.trans h2,hx.output.trans h3,zA2 h4 hx.size,fun b hb=>?_⟩;rw[hx.frame b (by omega) fun id o g p a b' c d=>?_,h5 b hb];have:=hp id o g p a b'.1 c;omega
theorem At.next {E:Env} {f:FuncId} {k k':Mark} {w0 w w':World} {a':Act} {β β':Pl} (hg:Grown w0 w) (hp:∀ id o g p,k.hp.get id=some o→dB o g→β id g=some p→w0.heap.size≤p.b)
  (F2:k'.fits (jU E.P f)=true) {x:ax×ab×Hp} (Q6:Dd k' (jU E.P f) x=true) (hA:gO β' x.2.1 a') (hR:Rel (2 ^ 40) β' x.2.2 w') (hx:Ext β k.hp w β' x.2.2 w'):x.1=.normal∧At E f k' w0 a' w':=by
 obtain ⟨e,A,H⟩:=x;unfold Dd at Q6;cases e with
 | exit i=>cases Q6
 | ret=>cases Q6
 | normal=>
  refine ⟨rfl,Il hg hp hx,β',?_⟩;have hchk':both (Nat.beq A.nt (jU E.P f)) (both (Nat.ble H.nx k'.nx) (both (QG A.tm (mkT k'.slots) (jU E.P f)) (both (QR H.t k'.objs) (Oe A.dfr))))=true:=Q6;simp only[ck,Bool.and_eq_true] at hchk';obtain ⟨h0,h1,h2,h3,h4⟩:=hchk';have B0:A.nt=jU E.P f:=zA3 h0;simp only[Mark.fits,Bool.and_eq_true] at F2;obtain ⟨f1,f2,f3,f4⟩:=F2;have f1':jU E.P f≤1048576:=zA4 f1;have f4':k'.nx≤1099511627776:=zA4 f4;have W0:H.nx≤k'.nx:=zA4 h1;have S0:∀ id o,k'.hp.get id=some o→(∃ o1,H.get id=some o1∧Bj o1 o)∧id<k'.nx:=fun id o ho=>by
   obtain ⟨g1,g2⟩:=CQ (n:=k'.nx) (by omega) f3 (k:=id) (a:=o) ho;exact ⟨KF h3 _ g2,g1⟩
  refine ⟨⟨⟨?_,f1',fun t=>?_⟩,?_⟩,⟨fun id o ho=>?_,fun id id' o o' g g' p p' a b c d=>?_,fun id hid=>?_,fun id g a b=>hR.free id g (zA2 W0 a) b⟩,
   fun id o g p a b c=>?_⟩
  ·have:=hA.tm.1;rw[this];exact B0
  ·have hAt:=hA.tm.2.2 t;show AR β' (qi (mkT k'.slots) t) _;rcases Nat.lt_or_ge t (jU E.P f) with ht|ht
   ·rcases LI h2 t ht with e|e
    ·rw[←e];exact hAt
    rw[e];trivial
   have G1:a'.tmps.size=jU E.P f:=by have:=hA.tm.1;rw[this];exact B0
   have hu:a'.tmps.getD t undef=undef:=by
    simp only[Array.getD_eq_getD_getElem?];rw[Array.getElem?_eq_none (by omega)];rfl
   rw[hu];unfold qi;cases M1:(mkT k'.slots).get t with
   | none=>exact rF β'
   | some v=>
    have:=(CQ (n:=jU E.P f) (by omega) f2 M1).1;omega
  ·have hd:A.dfr=[]:=by
    have h4':Oe A.dfr=true:=h4;cases hdd:A.dfr with
    | nil=>rfl
    | cons _ _=>rw[hdd] at h4';cases h4'
   have:=hA.df;have e:(⟨mkT k'.slots,jU E.P f,[]⟩:ab).dfr=A.dfr:=hd.symm;show nr β' (⟨mkT k'.slots,jU E.P f,[]⟩:ab).dfr a'.defers;rw[e];exact this
  ·obtain ⟨⟨o1,g1,g2⟩,_⟩:=S0 id o ho;exact g2.obj (hR.obj id o1 g1)
  ·obtain ⟨⟨o1,g1,g2⟩,_⟩:=S0 id o a;obtain ⟨⟨o2,g3,g4⟩,_⟩:=S0 id' o' b;rw[←g2.ro,←g4.ro];exact hR.sep id id' o1 o2 g g' p p' g1 g3 (g2.gen c) (g4.gen d)
  ·cases M1:k'.hp.get id with
   | none=>rfl
   | some o=>
    have:=(S0 id o M1).2;have L2:k'.nx≤id:=hid;omega
  obtain ⟨⟨o1,g1,g2⟩,_⟩:=S0 id o a;rcases hx.prov id o1 g p g1 (g2.gen b) c with h|⟨o0,g0,p0,a1,a2,a3,a4⟩
  ·have:=hg.2.2.2.1;omega
  have:=hp id o0 g0 p0 a1 a2 a3;omega
section
variable {E:Env} (hE:vY E)
include hE
omit hE in
theorem xQ {rec:Rec} (K0:RecM rec):∀ (l:List Code) (a:ab) (h:Hp),RG h.nx nE (Cb E rec l a h)
 | [],a,h=>RG.one (zA1 _)
 | c::l,a,h=>RG.bind (nx:=nE) (qI K0 c none a h) fun x hx=>nk ((xQ K0 l _ _).le hx) (fun _=>RG.bad) RG.bad
omit hE in
theorem HX (c:Code) {l:List Code} (h:l≠[]):jk (c::l)=.seq c (jk l):=by
 cases l with
 | nil=>exact absurd rfl h
 | cons x l=>rfl
theorem Pg {n:Nat} {Q:Exit→Act→World→Prop} {t:List Code} (ht:t≠[]):∀ (l:List Code) {β:Pl} {H:Hp} {w:World} {A:ab} {a:Act} {outs:List (ax×ab×Hp)},Rel (2 ^ 40) β H w→gO β A a →
  Cb E (eval E n) l A H=.ok outs→(∀ x∈outs,nE x≤2 ^ 40)→(∀ x∈outs,x.1=.normal)→(∀ a' w',fV (2 ^ 40) β H w outs .normal a' w'→(jk t).wpIn (fen none) 0 E.P Q a' w')→(jk (l++t)).wpIn (fen none) 0 E.P Q a w
 | [],β,H,w,A,a,outs,hR,hA,h,hb,hn,hQ=>by
  cases h
  exact hQ a w ⟨_,List.mem_singleton.2 rfl,trivial,β,hA,hR,Ext.refl _ _ _⟩
 | c::l,β,H,w,A,a,outs,hR,hA,h,hb,hn,hQ=>by
  have h':((codeF E c).run (eval E n) none A H).bind (fun x=>exE x.1 (Cb E (eval E n) l x.2.1 x.2.2) (fun _=>.bad "piece - exit") (.bad "piece - return"))=.ok outs:=h
  obtain ⟨zs,hz,hk⟩:=R.dJ h';have Y0:l++t≠[]:=by simp[ht]
  show (jk (c::(l++t))).wpIn (fen none) 0 E.P Q a w;rw[HX c Y0];have hbz:∀ z∈zs,nE z≤2 ^ 40:=fun z hz=>by
   obtain ⟨o,ho,hs⟩:=hk z hz;exact RG.nJ (k:=nE z) (nx:=nE) (nk (xQ (lQ E n) l _ _) (fun _=>RG.bad) RG.bad) ho hs hb
  refine wpIn_seq (Go.wpIn_mono (qh hE (GI hE) (qf hE (GI hE) n) (lQ E n) c (r:=none) (rB:=none) (zA1 _) hR hA rfl hz hbz).1 fun e a1 w1 hp=>?_);obtain ⟨z,hzm,o6,β1,E5,G4,P0⟩:=hp;obtain ⟨o,ho,hs⟩:=hk z hzm;rcases nN ho with ⟨L3,h1⟩|⟨i,L3,h1⟩|⟨L3,h1⟩
  ·rw[o6.normal L3];exact Pg ht l G4 E5 h1 (fun q hq=>hb q (hs q hq)) (fun q hq=>hn q (hs q hq)) fun a' w' P4=>hQ a' w' (P4.ext P0 hs)
  ·cases h1
  cases h1
def Ke (w0:World) (e:Ending) (w:World):Prop:=e=.returned (.bool true)∧Grown w0 w
def Good (E:Env) (f:FuncId) (fn:Func) (w0:World) (i:Nat) (k:Mark):Prop:=
 ∀ a w,At E f k w0 a w→(jk ((iZ E.P f).drop i)).wpIn (fen none) 0 E.P (bodyPostM Fence.wide 0 E.P fn (Ke w0)) a w
theorem xa {n:Nat} {f:FuncId} {fn:Func} {w0:World} {i d:Nat} {k k':Mark} (h:piece E n f i d k k'=true) (hl:i+d<(iZ E.P f).length) (hg:Good E f fn w0 (i+d) k'):Good E f fn w0 i k:=by
 intro a w O0;unfold piece at h;rw[ck,Bool.and_eq_true] at h;obtain ⟨F2,h⟩:=h;obtain ⟨outs,hr,Q6⟩:=MN h;obtain ⟨T0,β,hA,hR,hp⟩:=O0;have hfit4:k'.nx≤1099511627776:=by
  simp only[Mark.fits,Bool.and_eq_true] at F2;exact zA4 F2.2.2.2
 have hnorm:∀ x∈outs,x.1=.normal∧nE x≤k'.nx:=fun x hx=>by
  have hc:=Q6 x hx;unfold Dd at hc;cases V0:x.1 with
  | exit i=>rw[V0] at hc;cases hc
  | ret=>rw[V0] at hc;cases hc
  | normal=>
   rw[V0] at hc;have hc':both (Nat.beq x.2.1.nt (jU E.P f)) (both (Nat.ble x.2.2.nx k'.nx) (both (QG x.2.1.tm (mkT k'.slots) (jU E.P f)) (both (QR x.2.2.t k'.objs) (Oe x.2.1.dfr))))=true:=hc;simp only[ck,Bool.and_eq_true] at hc';exact ⟨rfl,zA4 hc'.2.1⟩
 have hsplit:(iZ E.P f).drop i=((iZ E.P f).drop i).take d++(iZ E.P f).drop (i+d):=by
  rw[←List.drop_drop,List.take_append_drop]
 rw[hsplit];have Y0:(iZ E.P f).drop (i+d)≠[]:=by
  intro e;have:=congrArg List.length e;simp at this
  omega
 refine Pg hE Y0 _ hR hA hr (fun x hx=>zA2 (hnorm x hx).2 hfit4) (fun x hx=>(hnorm x hx).1) fun a' w' S1=>?_;obtain ⟨x,hx,_,β',hA',D9,P0⟩:=S1;exact hg a' w' (At.next T0 hp F2 (Q6 x hx) hA' D9 P0).2
theorem VN {n:Nat} {f:FuncId} {fn:Func} (hf:E.P.funcs[f]?=some fn) {w0:World} {i:Nat} {k:Mark} (h:yw E n f i k=true):Good E f fn w0 i k:=by
 intro a w O0;obtain ⟨outs,hr,Q6⟩:=MN h;obtain ⟨T0,β,hA,hR,hp⟩:=O0;have q8:Pj E.P f=fn.results.toList:=by unfold Pj;rw[hf]
 rw[q8] at hr;obtain ⟨zs,hz,hk⟩:=R.dJ hr;have F1:∀ x∈outs,x.1=.one (.b true)∧nV x≤2 ^ 40:=fun x hx=>by
  have hc:=Q6 x hx;rw[ck,Bool.and_eq_true] at hc;refine ⟨?_,zA4 hc.2⟩;have h1:=hc.1;obtain ⟨v,H⟩:=x;cases v with
  | one c=>cases c with
   | b b=>cases b with
    | true=>rfl
    | false=>cases h1
   | i _ _=>cases h1
   | o _=>cases h1
  | agg _=>cases h1
  | tup _=>cases h1
  | any=>cases h1
 have hbz:∀ z∈zs,nE z≤2 ^ 40:=fun z hz=>by
  obtain ⟨o,ho,hs⟩:=hk z hz;exact RG.nJ (pb (zA1 _)) ho hs fun x hx=>(F1 x hx).2
 refine Go.wpIn_mono (qh hE (GI hE) (qf hE (GI hE) n) (lQ E n) _ (r:=none) (rB:=none) (zA1 _) hR hA rfl hz hbz).1 fun e a1 w1 S1=>?_;obtain ⟨z,hzm,o6,β1,E5,G4,P0⟩:=S1;obtain ⟨o,ho,hs⟩:=hk z hzm;have D6:∀ e w',mB (2 ^ 40) β k.hp w outs e w'→Ke w0 e w':=by
  rintro e w' ⟨v,rfl,x,hx,β2,hv,_,T5⟩;rw[(F1 x hx).1] at hv;have X2:v=.bool true:=hv;subst X2;exact ⟨rfl,Il T0 hp T5⟩
 exact wv (E:=E) (zA1 _) o6 E5 G4 P0 (hbz z hzm) ho hs D6
omit hE in
theorem xv {f:FuncId} {fn:Func} (hf:E.P.funcs[f]?=some fn) (i':fn.body.isSome=true) (hnt0:Nat.ble fn.ntmps 1048576=true) {w0:World} (h:Good E f fn w0 0 ⟨[],[],0⟩):Calls E.P f #[] w0 (Ke w0):=by
 obtain ⟨c,hb⟩:=Option.isSome_iff_exists.1 i';have B0:fn.ntmps≤1048576:=zA4 hnt0;have R4:iZ E.P f=spine c:=by unfold iZ;rw[hf];simp only[hb]
 have hn:jU E.P f=fn.ntmps:=by unfold jU;rw[hf]
 refine (callsIn_wide (n:=0)).1 (callsIn_of_wp_marks hf hb trivial ?_);have h0:=h { tmps:=#[]++Array.replicate (fn.ntmps - (#[]:Array Value).size) undef,defers:=[] } w0 ⟨⟨rfl,rfl,rfl,zA1 _,fun _ _=>rfl⟩,fun _ _=>none,⟨?_,trivial⟩,⟨fun id o ho=>(by cases ho),fun id _ o _ _ _ _ _ ho=>(by cases ho),fun _ _=>rfl,fun _ _ _ _=>rfl⟩,fun id o _ _ ho=>(by cases ho)⟩
 ·rw[List.drop_zero,R4,qJ] at h0;exact h0
 have:=LB (β:=fun _ _=>none) (nt:=fn.ntmps) B0 (args:=[]) (vs:=[]) trivial (Nat.zero_le _);show TmR _ (mkT []) (jU E.P f) _;rw[hn];exact this
end
end Go.Eng
end
