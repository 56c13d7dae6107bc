/- A part of the proof: EngChunk. No conditions. -/
import Derived.Test.YtnhbkodnmkojpaaGreatPAd
set_option maxRecDepth 100000
set_option maxHeartbeats 64000000
namespace Go.Eng
open Go
noncomputable def UM:List UInt8→List UInt8→Bool:=
 fun l=>List.rec (motive:=fun _=>List UInt8→Bool) (fun m=>List.rec (motive:=fun _=>Bool) true (fun _ _ _=>false) m)
  (fun x _ ih m=>List.rec (motive:=fun _=>Bool) false (fun y m' _=>both (bEq x y) (ih m')) m) l
theorem UA {a b:UInt8} (h:bEq a b=true):a=b:=UInt8.toNat_inj.1 (Nat.eq_of_beq_eq_true h)
theorem JA:∀ {l m:List UInt8},UM l m=true→l=m
 | [],[],_=>rfl
 | [],_::_,h=>by cases h
 | _::_,[],h=>by cases h
 | x::l,y::m,h=>by
  have h':both (bEq x y) (UM l m)=true:=h
  rw[cO,Bool.and_eq_true] at h'
  rw[UA h'.1,JA h'.2]
def AF:List (Nat×Nat×Nat×Nat)→List (Nat×Nat×Nat×Nat)→Bool
 | [],[]=>true
 | (a,b,c,d)::l,(a',b',c',d')::m=>Nat.beq a a'&&(Nat.beq b b'&&(Nat.beq c c'&&(Nat.beq d d'&&AF l m)))
 | _,_=>false
theorem xa:∀ {l m:List (Nat×Nat×Nat×Nat)},AF l m=true→l=m
 | [],[],_=>rfl
 | [],_::_,h=>by cases h
 | _::_,[],h=>by cases h
 | (a,b,c,d)::l,(a',b',c',d')::m,h=>by
  unfold AF at h
  simp only[Bool.and_eq_true] at h
  obtain ⟨h1,h2,h3,h4,h5⟩:=h
  rw[Nat.eq_of_beq_eq_true h1,Nat.eq_of_beq_eq_true h2,Nat.eq_of_beq_eq_true h3,Nat.eq_of_beq_eq_true h4,xa h5]
noncomputable def Es:AO→AO→Bool
 | .str s,.str t=>UM s t
 | .nilP,.nilP=>true
 | .nilS,.nilS=>true
 | .nilM,.nilM=>true
 | .nilF,.nilF=>true
 | .ptr a b c d,.ptr a' b' c' d'=>Nat.beq a a'&&(Nat.beq b b'&&(Nat.beq c c'&&Nat.beq d d'))
 | .sl a b c d e,.sl a' b' c' d' e'=>Nat.beq a a'&&(Nat.beq b b'&&(Nat.beq c c'&&(Nat.beq d d'&&Nat.beq e e')))
 | .mp a,.mp a'=>Nat.beq a a'
 | .clo f l,.clo f' l'=>Nat.beq f f'&&AF l l'
 | _,_=>false
theorem Tp {x y:AO} (h:Es x y=true):x=y:=by
 cases x <;> cases y <;> first|rfl|(simp only[Es] at h;cases h;done)|skip
 ·simp only[Es] at h;rw[JA h]
 ·simp only[Es,Bool.and_eq_true] at h
  obtain ⟨h1,h2,h3,h4⟩:=h
  rw[Nat.eq_of_beq_eq_true h1,Nat.eq_of_beq_eq_true h2,Nat.eq_of_beq_eq_true h3,Nat.eq_of_beq_eq_true h4]
 ·simp only[Es,Bool.and_eq_true] at h
  obtain ⟨h1,h2,h3,h4,h5⟩:=h
  rw[Nat.eq_of_beq_eq_true h1,Nat.eq_of_beq_eq_true h2,Nat.eq_of_beq_eq_true h3,Nat.eq_of_beq_eq_true h4,Nat.eq_of_beq_eq_true h5]
 ·simp only[Es] at h;rw[Nat.eq_of_beq_eq_true h]
 ·simp only[Es,Bool.and_eq_true] at h;rw[Nat.eq_of_beq_eq_true h.1,xa h.2]
noncomputable def Mh:AC→AC→Bool
 | .b x,.b y=>bif x then y else !y
 | .i k n,.i k' n'=>sameKind k k'&&iEq n n'
 | .o x,.o y=>Es x y
 | _,_=>false
theorem Jn {x y:AC} (h:Mh x y=true):x=y:=by
 cases x with
 | b x=>cases y with
  | b y=>cases x <;> cases y <;> first|rfl|(simp only[Mh] at h;cases h)
  | i _ _=>cases h
  | o _=>cases h
 | i k n=>cases y with
  | i k' n'=>
   simp only[Mh,Bool.and_eq_true] at h
   have h2:=h.2;rw[rh] at h2;rw[jd h.1,eq_of_beq h2]
  | b _=>cases h
  | o _=>cases h
 | o x=>cases y with
  | o y=>simp only[Mh] at h;rw[Tp h]
  | b _=>cases h
  | i _ _=>cases h
noncomputable def zx:List AC→List AC→Bool
 | [],[]=>true
 | x::l,y::m=>Mh x y&&zx l m
 | _,_=>false
theorem pt:∀ {l m:List AC},zx l m=true→l=m
 | [],[],_=>rfl
 | [],_::_,h=>by cases h
 | _::_,[],h=>by cases h
 | x::l,y::m,h=>by
  simp only[zx,Bool.and_eq_true] at h
  rw[Jn h.1,pt h.2]
noncomputable def Jx:List (Bool×List AC)→List (Bool×List AC)→Bool
 | [],[]=>true
 | (a,l)::x,(b,m)::y=>(bif a then b else !b)&&(zx l m&&Jx x y)
 | _,_=>false
theorem Co:∀ {l m:List (Bool×List AC)},Jx l m=true→l=m
 | [],[],_=>rfl
 | [],_::_,h=>by cases h
 | _::_,[],h=>by cases h
 | (a,l)::x,(b,m)::y,h=>by
  simp only[Jx,Bool.and_eq_true] at h
  have:a=b:=by
   have h1:=h.1
   cases a <;> cases b <;> first|rfl|cases h1
  rw[this,pt h.2.1,Co h.2.2]
noncomputable def Fj:AV→AV→Bool
 | .one x,.one y=>Mh x y
 | .agg l,.agg m=>zx l m
 | .tup l,.tup m=>Jx l m
 | _,.any=>true
 | _,_=>false
theorem Ll {x y:AV} (h:Fj x y=true):x=y∨y=.any:=by
 cases x <;> cases y <;> first|exact .inr rfl|(simp only[Fj] at h;cases h;done)|skip
 ·simp only[Fj] at h;exact .inl (by rw[Jn h])
 ·simp only[Fj] at h;exact .inl (by rw[pt h])
 ·simp only[Fj] at h;exact .inl (by rw[Co h])
noncomputable def Kj (x y:AV):Bool:=match y with|.any=>false|_=>Fj x y
theorem El {x y:AV} (h:Kj x y=true):x=y:=by
 unfold Kj at h
 split at h
 ·cases h
 ·rename_i hn
  exact (Ll h).resolve_right hn
noncomputable def SN:List bO→List bO→Bool
 | [],[]=>true
 | x::l,y::m=>Kj x.key y.key&&(Kj x.val y.val&&(Nat.beq x.born y.born&&SN l m))
 | _,_=>false
theorem KT:∀ {l m:List bO},SN l m=true→l=m
 | [],[],_=>rfl
 | [],_::_,h=>by cases h
 | _::_,[],h=>by cases h
 | ⟨a,b,c⟩::l,⟨a',b',c'⟩::m,h=>by
  simp only[SN,Bool.and_eq_true] at h
  obtain ⟨h1,h2,h3,h4⟩:=h
  rw[El h1,El h2,Nat.eq_of_beq_eq_true h3,KT h4]
noncomputable def uT:aO→aO→Bool
 | .arr c e lo gen,.arr c' e' lo' gen'=>zx c c'&&(Nat.beq e e'&&(Nat.ble lo lo'&&(Nat.ble lo' gen'&&Nat.beq gen gen')))
 | .oth (.map es k),.oth (.map es' k')=>SN es es'&&Nat.beq k k'
 | .oth (.dfr b),.oth (.dfr b')=>bif b then b' else !b'
 | _,_=>false
def BL (x y:aO):Prop:=x=y∨∃ c e lo lo' gen,x=.arr c e lo gen∧y=.arr c e lo' gen∧lo≤lo'∧lo'≤gen
theorem Ql {x y:aO} (h:uT x y=true):BL x y:=by
 cases x with
 | arr c e lo gen=>cases y with
  | arr c' e' lo' gen'=>
   simp only[uT,Bool.and_eq_true] at h
   obtain ⟨h1,h2,h3,h4,h5⟩:=h
   rw[pt h1,Nat.eq_of_beq_eq_true h2,Nat.eq_of_beq_eq_true h5]
   exact .inr ⟨_,_,_,_,_,rfl,rfl,Nat.le_of_ble_eq_true h3,Nat.le_of_ble_eq_true h4⟩
  | oth _=>cases h
  | ro _=>cases h
 | ro _=>cases y <;> cases h
 | oth x=>cases y with
  | arr _ _ _ _=>cases x <;> cases h
  | ro _=>cases x <;> cases h
  | oth y=>
   cases x <;> cases y <;> first|(simp only[uT] at h;cases h;done)|skip
   ·simp only[uT,Bool.and_eq_true] at h
    rw[KT h.1,Nat.eq_of_beq_eq_true h.2]
    exact .inl rfl
   ·simp only[uT] at h
    rename_i a b
    cases a <;> cases b <;> first|exact .inl rfl|cases h
theorem BL.ro {x y:aO} (h:BL x y):x.lh=y.lh:=by
 rcases h with rfl|⟨c,e,lo,lo',gen,rfl,rfl,h1,h2⟩ <;> rfl
theorem BL.gen {x y:aO} (h:BL x y) {g:Nat} (hg:dH y g):dH x g:=by
 rcases h with rfl|⟨c,e,lo,lo',gen,rfl,rfl,h1,h2⟩
 ·exact hg
 ·have hg':lo'≤g∧g≤gen:=hg
  exact ⟨by omega,hg'.2⟩
theorem BL.obj {x y:aO} (h:BL x y) {β:Pl} {w:World} {id:Nat} (ho:fN β w id x):fN β w id y:=by
 rcases h with rfl|⟨c,e,lo,lo',gen,rfl,rfl,h1,h2⟩
 ·exact ho
 ·obtain ⟨a1,a2,a3,a4⟩:=ho
  exact ⟨h2,fun g b1 b2=>a2 g (by omega) b2,fun g g' p p' b1 b2 b3=>a3 g g' p p' (by omega) b2 b3,a4⟩
noncomputable def mkT {α:Type} (l:List (Nat×α)):PT α:=List.rec (motive:=fun _=>PT α) .leaf (fun x _ ih=>ih.set x.1 x.2) l
def small {α:Type} (n:Nat):List (Nat×α)→Bool
 | []=>true
 | x::l=>Nat.blt x.1 n&&small n l
theorem BA {α:Type} {n:Nat} (hn:n≤2 ^ 40):∀ {l:List (Nat×α)},small n l=true→∀ {k:Nat} {a:α},(mkT l).get k=some a→k<n∧(k,a)∈l
 | [],_,k,a,h=>by cases h
 | x::l,hs,k,a,h=>by
  simp only[small,Bool.and_eq_true] at hs
  have hx:x.1<n:=Nat.le_of_ble_eq_true hs.1
  have h':((mkT l).set x.1 x.2).get k=some a:=h
  rw[PT.mD _ _ _ _ (by omega)] at h'
  split at h'
  ·rename_i hk
   cases h'
   subst hk
   exact ⟨hx,List.mem_cons_self ..⟩
  ·obtain ⟨h1,h2⟩:=BA hn hs.2 h'
   exact ⟨h1,List.mem_cons_of_mem _ h2⟩
noncomputable def pM (tm:PT AV) (t:Nat):AV:=ay (tm.get t) aG fun v=>v
noncomputable def Qs (tm tm':PT AV) (n:Nat):Bool:=Nat.rec (motive:=fun _=>Bool) true (fun k ih=>both (Fj (pM tm k) (pM tm' k)) ih) n
theorem IY {tm tm':PT AV}:∀ {n:Nat},Qs tm tm' n=true→∀ k,k<n→pM tm k=pM tm' k∨pM tm' k=.any
 | 0,_,k,h=>by omega
 | n+1,h,k,hk=>by
  have h':both (Fj (pM tm n) (pM tm' n)) (Qs tm tm' n)=true:=h
  rw[cO,Bool.and_eq_true] at h'
  by_cases e:k=n
  ·subst e;exact Ll h'.1
  ·exact IY h'.2 k (by omega)
noncomputable def Ox (t:PT aO) (l:List (Nat×aO)):Bool:=List.rec (motive:=fun _=>Bool) true (fun x _ ih=>both (ay (t.get x.1) false fun o=>uT o x.2) ih) l
theorem KO {t:PT aO}:∀ {l:List (Nat×aO)},Ox t l=true→∀ x∈l,∃ o,t.get x.1=some o∧BL o x.2
 | [],_,x,h=>by cases h
 | y::l,h,x,hx=>by
  have h':both (ay (t.get y.1) false fun o=>uT o y.2) (Ox t l)=true:=h
  rw[cO,Bool.and_eq_true] at h'
  rcases List.mem_cons.1 hx with rfl|hx
  ·cases hg:t.get x.1 with
   | none=>rw[hg] at h';cases h'.1
   | some o=>rw[hg] at h';exact ⟨o,rfl,Ql h'.1⟩
  ·exact KO h'.2 x hx
def spine:Code→List Code
 | .seq a b=>a::spine b
 | c=>[c]
def ij:List Code→Code
 | []=>.skip
 | [c]=>c
 | c::l=>.seq c (ij l)
theorem QY:∀ (c:Code),spine c≠[]
 | .seq a b=>by simp[spine]
 | .skip|.region ..|.cond ..|.block ..|.loop ..|.rangeFunc ..|.exit ..|.scope ..|.label ..|.goto ..|.ret|.refuse ..=>by simp[spine]
theorem pG:∀ (c:Code),ij (spine c)=c
 | .seq a b=>by
  have h:=pG b
  have hn:=QY b
  show ij (a::spine b)=_
  cases hs:spine b with
  | nil=>exact absurd hs hn
  | cons x l=>
   rw[hs] at h
   show Code.seq a (ij (x::l))=_
   rw[h]
 | .skip|.region ..|.cond ..|.block ..|.loop ..|.rangeFunc ..|.exit ..|.scope ..|.label ..|.goto ..|.ret|.refuse ..=>rfl
def ix (P:Program) (f:FuncId):List Code:=
 match P.funcs[f]? with
 | some fn=>match fn.body with|some c=>spine c|none=>[]
 | none=>[]
def jx (P:Program) (f:FuncId):Nat:=match P.funcs[f]? with|some fn=>fn.ntmps|none=>0
def QM (P:Program) (f:FuncId):List ResultVar:=match P.funcs[f]? with|some fn=>fn.results.toList|none=>[]
noncomputable def BJ (E:Env) (rec:Rec) (l:List Code):ab→Hp→R (aE×ab×Hp):=
 List.rec (motive:=fun _=>ab→Hp→R (aE×ab×Hp)) (fun a h=>.ok [(.normal,a,h)])
  (fun c _ ih a h=>((codeF E c).run rec none a h).bind fun x=>exE x.1 (ih x.2.1 x.2.2) (fun _=>.bad "piece - exit") (.bad "piece - return")) l
noncomputable def UB {α:Type} (p:α→Bool) (r:R α):Bool:=R.rec (motive:=fun _=>Bool) (fun l=>List.rec (motive:=fun _=>Bool) true (fun x _ ih=>both (p x) ih) l) (fun _=>false) r
theorem KE {α:Type} {p:α→Bool} {r:R α} (h:UB p r=true):∃ l,r=.ok l∧∀ x∈l,p x=true:=by
 cases r with
 | bad s=>cases h
 | ok l=>
  refine ⟨l,rfl,?_⟩
  have h':List.rec (motive:=fun _=>Bool) true (fun x _ ih=>both (p x) ih) l=true:=h
  clear h
  induction l with
  | nil=>intro x hx;cases hx
  | cons y l ih=>
   have h2:both (p y) (List.rec (motive:=fun _=>Bool) true (fun x _ ih=>both (p x) ih) l)=true:=h'
   rw[cO,Bool.and_eq_true] at h2
   intro x hx
   rcases List.mem_cons.1 hx with rfl|hx
   ·exact h2.1
   ·exact ih h2.2 x hx
structure Mark where
 slots:List (Nat×AV)
 objs:List (Nat×aO)
 nx:Nat
noncomputable def Mark.hp (k:Mark):Hp:=⟨mkT k.objs,k.nx,[]⟩
noncomputable def Mark.act (k:Mark) (nt:Nat):ab:=⟨mkT k.slots,nt,[]⟩
def Mark.fits (k:Mark) (nt:Nat):Bool:=Nat.ble nt 1048576&&(small nt k.slots&&(small k.nx k.objs&&Nat.ble k.nx 1099511627776))
noncomputable def Nw {α:Type} (l:List α):Bool:=List.rec (motive:=fun _=>Bool) true (fun _ _ _=>false) l
noncomputable def Cb (k:Mark) (nt:Nat) (x:aE×ab×Hp):Bool:=
 exE x.1 (both (Nat.beq x.2.1.nt nt) (both (Nat.ble x.2.2.nx k.nx) (both (Qs x.2.1.tm (mkT k.slots) nt) (both (Ox x.2.2.t k.objs) (Nw x.2.1.dfr))))) (fun _=>false) false
noncomputable def piece (E:Env) (n:Nat) (f:FuncId) (i d:Nat) (k k':Mark):Bool:=
 both (k'.fits (jx E.P f)) (UB (Cb k' (jx E.P f)) (BJ E (eval E n) (((ix E.P f).drop i).take d) (k.act (jx E.P f)) k.hp))
noncomputable def wO (E:Env) (n:Nat) (f:FuncId) (i:Nat) (k:Mark):Bool:=
 UB (fun x:AV×Hp=>both (dP x.1 false fun b=>b) (Nat.ble x.2.nx 1099511627776)) (((codeF E (ij ((ix E.P f).drop i))).run (eval E n) none (k.act (jx E.P f)) k.hp).bind (ao E (QM E.P f)))
def Grown (w w':World):Prop:=w'.os=w.os∧w'.tape=w.tape∧w'.output=w.output∧w.heap.size≤w'.heap.size∧∀ b,b<w.heap.size→w'.heap[b]?=w.heap[b]?
structure At (E:Env) (f:FuncId) (k:Mark) (w0:World) (a:Act) (w:World):Prop where
 grown:Grown w0 w
 here:∃ β,gA β (k.act (jx E.P f)) a∧Rel (2 ^ 40) β k.hp w∧∀ id o g p,k.hp.get id=some o→dH o g→β id g=some p→w0.heap.size≤p.b
theorem FW {β β':Pl} {H H':Hp} {w0 w w':World} (h:Grown w0 w) (hp:∀ id o g p,H.get id=some o→dH o g→β id g=some p→w0.heap.size≤p.b) (hx:Ext β H w β' H' w'):Grown w0 w':=by
 obtain ⟨h1,h2,h3,h4,h5⟩:=h
 refine ⟨hx.os.trans h1,hx.tape.trans h2,hx.output.trans h3,Nat.le_trans h4 hx.size,fun b hb=>?_⟩
 rw[hx.frame b (by omega) fun id o g p a b' c d=>?_,h5 b hb]
 have:=hp id o g p a b'.1 c
 omega
theorem At.next {E:Env} {f:FuncId} {k k':Mark} {w0 w w':World} {a':Act} {β β':Pl} (hg:Grown w0 w) (hp:∀ id o g p,k.hp.get id=some o→dH o g→β id g=some p→w0.heap.size≤p.b)
  (hfit:k'.fits (jx E.P f)=true) {x:aE×ab×Hp} (hchk:Cb k' (jx E.P f) x=true) (hA:gA β' x.2.1 a') (hR:Rel (2 ^ 40) β' x.2.2 w') (hx:Ext β k.hp w β' x.2.2 w'):x.1=.normal∧At E f k' w0 a' w':=by
 obtain ⟨e,A,H⟩:=x
 unfold Cb at hchk
 cases e with
 | exit i=>cases hchk
 | ret=>cases hchk
 | normal=>
  refine ⟨rfl,FW hg hp hx,β',?_⟩
  have hchk':both (Nat.beq A.nt (jx E.P f)) (both (Nat.ble H.nx k'.nx) (both (Qs A.tm (mkT k'.slots) (jx E.P f)) (both (Ox H.t k'.objs) (Nw A.dfr))))=true:=hchk
  simp only[cO,Bool.and_eq_true] at hchk'
  obtain ⟨h0,h1,h2,h3,h4⟩:=hchk'
  have hnt:A.nt=jx E.P f:=Nat.eq_of_beq_eq_true h0
  simp only[Mark.fits,Bool.and_eq_true] at hfit
  obtain ⟨f1,f2,f3,f4⟩:=hfit
  have f1':jx E.P f≤1048576:=Nat.le_of_ble_eq_true f1
  have f4':k'.nx≤1099511627776:=Nat.le_of_ble_eq_true f4
  have hnx:H.nx≤k'.nx:=Nat.le_of_ble_eq_true h1
  have hget:∀ id o,k'.hp.get id=some o→(∃ o1,H.get id=some o1∧BL o1 o)∧id<k'.nx:=fun id o ho=>by
   obtain ⟨g1,g2⟩:=BA (n:=k'.nx) (by omega) f3 (k:=id) (a:=o) ho
   exact ⟨KO h3 _ g2,g1⟩
  refine ⟨⟨⟨?_,f1',fun t=>?_⟩,?_⟩,⟨fun id o ho=>?_,fun id id' o o' g g' p p' a b c d=>?_,fun id hid=>?_,fun id g a b=>hR.free id g (Nat.le_trans hnx a) b⟩,
   fun id o g p a b c=>?_⟩
  ·have:=hA.tm.1
   rw[this];exact hnt
  ·have hAt:=hA.tm.2.2 t
   show AR β' (pM (mkT k'.slots) t) _
   rcases Nat.lt_or_ge t (jx E.P f) with ht|ht
   ·rcases IY h2 t ht with e|e
    ·rw[←e];exact hAt
    ·rw[e];trivial
   ·have hsz:a'.tmps.size=jx E.P f:=by have:=hA.tm.1;rw[this];exact hnt
    have hu:a'.tmps.getD t undef=undef:=by
     simp only[Array.getD_eq_getD_getElem?]
     rw[Array.getElem?_eq_none (by omega)]
     rfl
    rw[hu]
    unfold pM
    cases hg':(mkT k'.slots).get t with
    | none=>exact pJ β'
    | some v=>
     have:=(BA (n:=jx E.P f) (by omega) f2 hg').1
     omega
  ·have hd:A.dfr=[]:=by
    have h4':Nw A.dfr=true:=h4
    cases hdd:A.dfr with
    | nil=>rfl
    | cons _ _=>rw[hdd] at h4';cases h4'
   have:=hA.df
   have e:(⟨mkT k'.slots,jx E.P f,[]⟩:ab).dfr=A.dfr:=hd.symm
   show lK β' (⟨mkT k'.slots,jx E.P f,[]⟩:ab).dfr a'.defers
   rw[e];exact this
  ·obtain ⟨⟨o1,g1,g2⟩,_⟩:=hget id o ho
   exact g2.obj (hR.obj id o1 g1)
  ·obtain ⟨⟨o1,g1,g2⟩,_⟩:=hget id o a
   obtain ⟨⟨o2,g3,g4⟩,_⟩:=hget id' o' b
   rw[←g2.ro,←g4.ro]
   exact hR.sep id id' o1 o2 g g' p p' g1 g3 (g2.gen c) (g4.gen d)
  ·cases hg':k'.hp.get id with
   | none=>rfl
   | some o=>
    have:=(hget id o hg').2
    have hid':k'.nx≤id:=hid
    omega
  ·obtain ⟨⟨o1,g1,g2⟩,_⟩:=hget id o a
   rcases hx.prov id o1 g p g1 (g2.gen b) c with h|⟨o0,g0,p0,a1,a2,a3,a4⟩
   ·have:=hg.2.2.2.1;omega
   ·have:=hp id o0 g0 p0 a1 a2 a3;omega
section
variable {E:Env} (hE:vR E)
include hE
omit hE in
theorem Ap {rec:Rec} (hrec:RecM rec):∀ (l:List Code) (a:ab) (h:Hp),RG h.nx nE (BJ E rec l a h)
 | [],a,h=>RG.one (Nat.le_refl _)
 | c::l,a,h=>RG.bind (nx:=nE) (oY hrec c none a h) fun x hx=>lR ((Ap hrec l _ _).le hx) (fun _=>RG.bad) RG.bad
omit hE in
theorem Ec (c:Code) {l:List Code} (h:l≠[]):ij (c::l)=.seq c (ij l):=by
 cases l with
 | nil=>exact absurd rfl h
 | cons x l=>rfl
theorem PF {n:Nat} {Q:Exit→Act→World→Prop} {t:List Code} (ht:t≠[]):∀ (l:List Code) {β:Pl} {H:Hp} {w:World} {A:ab} {a:Act} {outs:List (aE×ab×Hp)},Rel (2 ^ 40) β H w→gA β A a →
  BJ E (eval E n) l A H=.ok outs→(∀ x∈outs,nE x≤2 ^ 40)→(∀ x∈outs,x.1=.normal)→(∀ a' w',fO (2 ^ 40) β H w outs .normal a' w'→(ij t).wpIn (fen none) 0 E.P Q a' w')→(ij (l++t)).wpIn (fen none) 0 E.P Q a w
 | [],β,H,w,A,a,outs,hR,hA,h,hb,hn,hQ=>by
  cases h
  exact hQ a w ⟨_,List.mem_singleton.2 rfl,trivial,β,hA,hR,Ext.refl _ _ _⟩
 | c::l,β,H,w,A,a,outs,hR,hA,h,hb,hn,hQ=>by
  have h':((codeF E c).run (eval E n) none A H).bind (fun x=>exE x.1 (BJ E (eval E n) l x.2.1 x.2.2) (fun _=>.bad "piece - exit") (.bad "piece - return"))=.ok outs:=h
  obtain ⟨zs,hz,hk⟩:=R.dT h'
  have hne:l++t≠[]:=by simp[ht]
  show (ij (c::(l++t))).wpIn (fen none) 0 E.P Q a w
  rw[Ec c hne]
  have hbz:∀ z∈zs,nE z≤2 ^ 40:=fun z hz=>by
   obtain ⟨o,ho,hs⟩:=hk z hz
   exact RG.lD (k:=nE z) (nx:=nE) (lR (Ap (kE E n) l _ _) (fun _=>RG.bad) RG.bad) ho hs hb
  refine wpIn_seq (Go.wpIn_mono (pF hE (Ek hE) (pd hE (Ek hE) n) (kE E n) c (r:=none) (rB:=none) (Nat.le_refl _) hR hA rfl hz hbz).1 fun e a1 w1 hp=>?_)
  obtain ⟨z,hzm,hxr,β1,hA1,hR1,hext⟩:=hp
  obtain ⟨o,ho,hs⟩:=hk z hzm
  rcases mQ ho with ⟨hz1,h1⟩|⟨i,hz1,h1⟩|⟨hz1,h1⟩
  ·rw[hxr.normal hz1]
   exact PF ht l hR1 hA1 h1 (fun q hq=>hb q (hs q hq)) (fun q hq=>hn q (hs q hq)) fun a' w' hp2=>hQ a' w' (hp2.ext hext hs)
  ·cases h1
  ·cases h1
def Lz (w0:World) (e:Ending) (w:World):Prop:=e=.returned (.bool true)∧Grown w0 w
def Good (E:Env) (f:FuncId) (fn:Func) (w0:World) (i:Nat) (k:Mark):Prop:=
 ∀ a w,At E f k w0 a w→(ij ((ix E.P f).drop i)).wpIn (fen none) 0 E.P (bodyPostM Fence.wide 0 E.P fn (Lz w0)) a w
theorem uc {n:Nat} {f:FuncId} {fn:Func} {w0:World} {i d:Nat} {k k':Mark} (h:piece E n f i d k k'=true) (hl:i+d<(ix E.P f).length) (hg:Good E f fn w0 (i+d) k'):Good E f fn w0 i k:=by
 intro a w hat
 unfold piece at h
 rw[cO,Bool.and_eq_true] at h
 obtain ⟨hfit,h⟩:=h
 obtain ⟨outs,hr,hchk⟩:=KE h
 obtain ⟨hgr,β,hA,hR,hp⟩:=hat
 have hfit4:k'.nx≤1099511627776:=by
  simp only[Mark.fits,Bool.and_eq_true] at hfit
  exact Nat.le_of_ble_eq_true hfit.2.2.2
 have hnorm:∀ x∈outs,x.1=.normal∧nE x≤k'.nx:=fun x hx=>by
  have hc:=hchk x hx
  unfold Cb at hc
  cases hx1:x.1 with
  | exit i=>rw[hx1] at hc;cases hc
  | ret=>rw[hx1] at hc;cases hc
  | normal=>
   rw[hx1] at hc
   have hc':both (Nat.beq x.2.1.nt (jx E.P f)) (both (Nat.ble x.2.2.nx k'.nx) (both (Qs x.2.1.tm (mkT k'.slots) (jx E.P f)) (both (Ox x.2.2.t k'.objs) (Nw x.2.1.dfr))))=true:=hc
   simp only[cO,Bool.and_eq_true] at hc'
   exact ⟨rfl,Nat.le_of_ble_eq_true hc'.2.1⟩
 have hsplit:(ix E.P f).drop i=((ix E.P f).drop i).take d++(ix E.P f).drop (i+d):=by
  rw[←List.drop_drop,List.take_append_drop]
 rw[hsplit]
 have hne:(ix E.P f).drop (i+d)≠[]:=by
  intro e
  have:=congrArg List.length e
  simp at this
  omega
 refine PF hE hne _ hR hA hr (fun x hx=>Nat.le_trans (hnorm x hx).2 hfit4) (fun x hx=>(hnorm x hx).1) fun a' w' hpost=>?_
 obtain ⟨x,hx,_,β',hA',hR',hext⟩:=hpost
 exact hg a' w' (At.next hgr hp hfit (hchk x hx) hA' hR' hext).2
theorem So {n:Nat} {f:FuncId} {fn:Func} (hf:E.P.funcs[f]?=some fn) {w0:World} {i:Nat} {k:Mark} (h:wO E n f i k=true):Good E f fn w0 i k:=by
 intro a w hat
 obtain ⟨outs,hr,hchk⟩:=KE h
 obtain ⟨hgr,β,hA,hR,hp⟩:=hat
 have hres:QM E.P f=fn.results.toList:=by unfold QM;rw[hf]
 rw[hres] at hr
 obtain ⟨zs,hz,hk⟩:=R.dT hr
 have hall:∀ x∈outs,x.1=.one (.b true)∧nV x≤2 ^ 40:=fun x hx=>by
  have hc:=hchk x hx
  rw[cO,Bool.and_eq_true] at hc
  refine ⟨?_,Nat.le_of_ble_eq_true hc.2⟩
  have h1:=hc.1
  obtain ⟨v,H⟩:=x
  cases v with
  | one c=>cases c with
   | b b=>cases b with
    | true=>rfl
    | false=>cases h1
   | i _ _=>cases h1
   | o _=>cases h1
  | agg _=>cases h1
  | tup _=>cases h1
  | any=>cases h1
 have hbz:∀ z∈zs,nE z≤2 ^ 40:=fun z hz=>by
  obtain ⟨o,ho,hs⟩:=hk z hz
  exact RG.lD (oA (Nat.le_refl _)) ho hs fun x hx=>(hall x hx).2
 refine Go.wpIn_mono (pF hE (Ek hE) (pd hE (Ek hE) n) (kE E n) _ (r:=none) (rB:=none) (Nat.le_refl _) hR hA rfl hz hbz).1 fun e a1 w1 hpost=>?_
 obtain ⟨z,hzm,hxr,β1,hA1,hR1,hext⟩:=hpost
 obtain ⟨o,ho,hs⟩:=hk z hzm
 have hmono:∀ e w',lT (2 ^ 40) β k.hp w outs e w'→Lz w0 e w':=by
  rintro e w' ⟨v,rfl,x,hx,β2,hv,_,hx2⟩
  rw[(hall x hx).1] at hv
  have hv':v=.bool true:=hv
  subst hv'
  exact ⟨rfl,FW hgr hp hx2⟩
 exact vv (E:=E) (Nat.le_refl _) hxr hA1 hR1 hext (hbz z hzm) ho hs hmono
omit hE in
theorem wD {f:FuncId} {fn:Func} (hf:E.P.funcs[f]?=some fn) (hb0:fn.body.isSome=true) (hnt0:Nat.ble fn.ntmps 1048576=true) {w0:World} (h:Good E f fn w0 0 ⟨[],[],0⟩):Calls E.P f #[] w0 (Lz w0):=by
 obtain ⟨c,hb⟩:=Option.isSome_iff_exists.1 hb0
 have hnt:fn.ntmps≤1048576:=Nat.le_of_ble_eq_true hnt0
 have hbody:ix E.P f=spine c:=by unfold ix;rw[hf];simp only[hb]
 have hn:jx E.P f=fn.ntmps:=by unfold jx;rw[hf]
 refine (callsIn_wide (n:=0)).1 (callsIn_of_wp_marks hf hb trivial ?_)
 have h0:=h { tmps:=#[]++Array.replicate (fn.ntmps - (#[]:Array Value).size) undef,defers:=[] } w0 ⟨⟨rfl,rfl,rfl,Nat.le_refl _,fun _ _=>rfl⟩,fun _ _=>none,⟨?_,trivial⟩,⟨fun id o ho=>(by cases ho),fun id _ o _ _ _ _ _ ho=>(by cases ho),fun _ _=>rfl,fun _ _ _ _=>rfl⟩,fun id o _ _ ho=>(by cases ho)⟩
 ·rw[List.drop_zero,hbody,pG] at h0
  exact h0
 ·have:=LP (β:=fun _ _=>none) (nt:=fn.ntmps) hnt (args:=[]) (vs:=[]) trivial (Nat.zero_le _)
  show TmR _ (mkT []) (jx E.P f) _
  rw[hn]
  exact this
end
end Go.Eng
