/- A part of the proof: EngOps5, EngOps6, EngOps7, EngOps8, EngStep, EngSound1, EngSound2, EngSound3, EngSound4, EngSound5, EngSound6. No conditions. -/
import Derived.Test.YtnhbkodnmkojpaaGreatPAb
import Derived.Orders
import Derived.Laws.MakeOwn
import Derived.LoopNIn
set_option maxRecDepth 100000
set_option maxHeartbeats 64000000
namespace Go.Eng
open Go
section
variable {P:Program} {m:Nat} {β:Pl} {H:Hp} {w:World}
theorem Ez (hR:Rel m β H w) {tm:PT AV} {a:Act} (htm:∀ t,AR β (ay (tm.get t) aG fun v=>v) (a.tmps.getD t undef)) (o:Oper) (hs:∀ cs b,o.op≠.select cs b):
  aj P m β H w (ax P tm H o) ((execOp a.eval o).run P w):=by
 unfold ax
 refine aj.guard fun hg=>?_
 have he:execOp (fun x=>bu (ev tm x)) o=execOp a.eval o:=by
  refine execOp_congr o hs fun x hx=>?_
  have h1:=List.all_eq_true.1 hg x (by simpa using hx)
  have h2:=bM htm x
  cases hv:(ev tm x).val? with
  | none=>rw[hv] at h1;cases h1
  | some v=>
   show bu (ev tm x)=_
   unfold bu
   rw[hv]
   exact (AV.hG hv h2).symm
 rw[he]
 split
 ·rename_i v hv
  refine aj.guard fun hk=>?_
  exact aj.same hR (oB hv w) (dN hk)
 ·exact trivial
theorem tE (a b:Int):iLe a b=decide (a≤b):=by
 cases a with
 | ofNat m=>
  cases b with
  | ofNat n=>
   show Nat.ble m n=_
   rw[Bool.eq_iff_iff]
   simp
  | negSucc n=>
   show false=_
   symm
   rw[decide_eq_false_iff_not,Int.ofNat_eq_natCast]
   omega
 | negSucc m=>
  cases b with
  | ofNat n=>
   show true=_
   symm
   rw[decide_eq_true_eq,Int.ofNat_eq_natCast]
   omega
  | negSucc n=>
   show Nat.ble n m=_
   rw[Bool.eq_iff_iff]
   simp
   omega
theorem rh (a b:Int):iEq a b=(a==b):=by
 cases a with
 | ofNat m=>
  cases b with
  | ofNat n=>
   show Nat.beq m n=_
   rw[Bool.eq_iff_iff,Nat.beq_eq,beq_iff_eq]
   exact ⟨fun h=>by rw[h],fun h=>Int.ofNat.inj h⟩
  | negSucc n=>
   show false=_
   symm
   rw[beq_eq_false_iff_ne,Int.ofNat_eq_natCast]
   omega
 | negSucc m=>
  cases b with
  | ofNat n=>
   show false=_
   symm
   rw[beq_eq_false_iff_ne,Int.ofNat_eq_natCast]
   omega
  | negSucc n=>
   show Nat.beq m n=_
   rw[Bool.eq_iff_iff,Nat.beq_eq,beq_iff_eq]
   exact ⟨fun h=>by rw[h],fun h=>Int.negSucc.inj h⟩
theorem jd {a b:IntKind} (h:sameKind a b=true):a=b:=by
 cases a <;> cases b <;> first|rfl|cases h
theorem oO (k:IntKind) (n:Int):ql k n=k.wrap n:=by
 unfold ql
 rw[bV]
 split
 ·rename_i hk
  have hk':k=.i64:=by cases k <;> first|rfl|cases hk
  subst hk'
  cases n with
  | ofNat m=>
   show ifE (Nat.ble 9223372036854775808 m) _ _=_
   rw[bV]
   split
   ·rfl
   ·rename_i h
    have h':m<9223372036854775808:=by
     rcases Nat.lt_or_ge m 9223372036854775808 with h1|h1
     ·exact h1
     ·exact absurd (Nat.ble_eq_true_of_le h1) h
    rw[IntKind.wrap_i64]
    have e:Int.ofNat m=(m:Int):=rfl
    rw[e]
    omega
  | negSucc m=>
   show ifE (Nat.ble 9223372036854775808 m) _ _=_
   rw[bV]
   split
   ·rfl
   ·rename_i h
    have h':m<9223372036854775808:=by
     rcases Nat.lt_or_ge m 9223372036854775808 with h1|h1
     ·exact h1
     ·exact absurd (Nat.ble_eq_true_of_le h1) h
    rw[IntKind.wrap_i64]
    omega
 ·rfl
theorem NR (a b:UInt8):bEq a b=(a==b):=by
 rw[Bool.eq_iff_iff,beq_iff_eq]
 unfold bEq
 rw[Nat.beq_eq]
 exact ⟨fun h=>UInt8.toNat_inj.1 h,fun h=>by rw[h]⟩
theorem bU:∀ (x y:List UInt8),lEq x y=(x==y)
 | [],[]=>rfl
 | [],_::_=>rfl
 | _::_,[]=>rfl
 | a::x,b::y=>by
  show both (bEq a b) (lEq x y)=_
  rw[cO,NR,bU x y]
  rfl
theorem Gb:∀ (x y:List UInt8),iH x y=Op.bytesLess x y
 | [],[]=>rfl
 | [],_::_=>rfl
 | _::_,[]=>rfl
 | a::x,b::y=>by
  show ifE (Nat.blt a.toNat b.toNat) true (both (bEq a b) (iH x y))=(decide (a<b)||(a==b&&Op.bytesLess x y))
  rw[bV,cO,NR,Gb x y]
  have:Nat.blt a.toNat b.toNat=decide (a<b):=by
   rw[Bool.eq_iff_iff,decide_eq_true_eq,UInt8.lt_iff_toNat_lt]
   exact ⟨fun h=>Nat.le_of_ble_eq_true h,fun h=>Nat.ble_eq_true_of_le h⟩
  rw[this]
  cases decide (a<b) <;> rfl
theorem lA (op:BinOp) (t:TypeId) (x y:Operand) (a b:Value) (h1:a≠.nilIface) (h2:∀ cs,a≠.agg cs):(eqGuard op t x y a b).run P w=.ok () w:=by
 unfold eqGuard
 cases a <;> first|exact absurd rfl h1|exact absurd rfl (h2 _)|(cases op <;> rfl)
theorem Iq (a b:Int):decide (a<b)=!decide (b≤a):=by
 rw[Bool.eq_iff_iff]
 simp
theorem MN (hR:Rel m β H w) {op:BinOp} {t:TypeId} {x y:Operand} {k k':IntKind} {a b:Int} {alt:ae}
  (halt:aj P m β H w alt ((do let z ←(do eqGuard op t x y (.int k a) (.int k' b);binOp op t (.int k a) (.int k' b));pure (Next.value z):Sem Next).run P w)):
  aj P m β H w (jV H (fA op) k a k' b alt) ((do let z ←(do eqGuard op t x y (.int k a) (.int k' b);binOp op t (.int k a) (.int k' b));pure (Next.value z):Sem Next).run P w):=by
 unfold jV
 rw[bV]
 split
 ·rename_i hk
  have hk:=jd hk
  subst hk
  have hg:=lA (P:=P) (w:=w) op t x y (.int k a) (.int k b) (by simp) (by simp)
  cases op <;> first
   | exact halt
   | (refine aj.same hR (v:=.int k (ql k _)) ?_ rfl
      rw[oO]
      simp only[Sem.run_bind,hg,Result.andThen_ok]
      simp[binOp,Op.intArith]
      try rfl)
   | (refine aj.same hR (v:=.bool _) ?_ rfl
      simp only[Sem.run_bind,hg,Result.andThen_ok]
      simp[binOp,Op.intCmp,tE,rh]
      try first|rfl|exact Iq _ _)
 ·exact halt
theorem MW (hR:Rel m β H w) {op:BinOp} {t:TypeId} {x y:Operand} {a b:List UInt8} {alt:ae}
  (halt:aj P m β H w alt ((do let z ←(do eqGuard op t x y (.string ⟨a.toArray⟩) (.string ⟨b.toArray⟩);binOp op t (.string ⟨a.toArray⟩) (.string ⟨b.toArray⟩));pure (Next.value z):Sem Next).run P w)):
  aj P m β H w (ay (Vz op) alt fun f=>.val (.one (.b (f a b))) H)
   ((do let z ←(do eqGuard op t x y (.string ⟨a.toArray⟩) (.string ⟨b.toArray⟩);binOp op t (.string ⟨a.toArray⟩) (.string ⟨b.toArray⟩));pure (Next.value z):Sem Next).run P w):=by
 have hg:=lA (P:=P) (w:=w) op t x y (.string ⟨a.toArray⟩) (.string ⟨b.toArray⟩) (by simp) (by simp)
 cases op <;> first
  | exact halt
  | (refine aj.same hR (v:=.bool _) ?_ rfl
     simp only[Sem.run_bind,hg,Result.andThen_ok]
     simp[binOp,Op.stringOp,bU,Gb]
     try rfl)
def Aof (k:Nat) (v:Value):Prop:=
 match k with
 | 0=>∃ a,v=.pointer (some a)
 | 1=>∃ a n c,v=.slice (some a) n c
 | 2=>∃ b,v=.map (some b)
 | 3=>∃ f c,v=.func f #[] c
 | _=>True
def Nof (k:Nat) (v:Value):Prop:=
 match k with
 | 0=>v=.pointer none
 | 1=>v=.slice none 0 0
 | 2=>v=.map none
 | 3=>v=.nilFunc
 | _=>True
theorem yo {x:AO} {v:Value} (hx:CRO β x v):Aof (uN x) v:=by
 cases x <;> first
  | exact trivial
  | (obtain ⟨p,_,_,h⟩:=hx;exact ⟨_,h⟩)
  | (obtain ⟨p,_,_,_,_,_,h,_⟩:=hx;exact ⟨_,_,_,h⟩)
  | (obtain ⟨p,_,h⟩:=hx;exact ⟨_,h⟩)
  | (obtain ⟨cs,h,_⟩:=hx;exact ⟨_,_,h⟩)
theorem yq {x:AO} {v:Value} (hx:CRO β x v):Nof (tL x) v:=by
 cases x <;> first|exact trivial|exact hx
theorem OC {t:TypeId}:
  match aU P t with
  | 0=>∃ e,P.underlying t=some (.pointer e)
  | 1=>∃ e,P.underlying t=some (.slice e)
  | 2=>∃ k e,P.underlying t=some (.map k e)
  | 3=>∃ a b c,P.underlying t=some (.func a b c)
  | _=>True:=by
 unfold aU
 cases P.underlying t with
 | none=>exact trivial
 | some d=>cases d <;> first|exact trivial|exact ⟨_,rfl⟩|exact ⟨_,_,rfl⟩|exact ⟨_,_,_,rfl⟩
theorem sI (d:Nat) {t:TypeId} {k:Nat} (hk:aU P t=k) (h4:k<4) {v u:Value} (h:(Aof k v∧Nof k u)∨(Nof k v∧Aof k u)):(Op.equalIn (d+1) t v u).run P w=.ok false w:=by
 have ht:=OC (P:=P) (t:=t)
 rw[hk] at ht
 match k,h4 with
 | 0,_=>
  obtain ⟨e,ht⟩:=ht
  rcases h with ⟨⟨a,rfl⟩,h⟩|⟨h,⟨a,rfl⟩⟩ <;> cases h <;> simp[Op.equalIn,run_underlying ht]
 | 1,_=>
  obtain ⟨e,ht⟩:=ht
  rcases h with ⟨⟨a,n,c,rfl⟩,h⟩|⟨h,⟨a,n,c,rfl⟩⟩ <;> cases h <;> simp[Op.equalIn,run_underlying ht]
 | 2,_=>
  obtain ⟨e,e',ht⟩:=ht
  rcases h with ⟨⟨a,rfl⟩,h⟩|⟨h,⟨a,rfl⟩⟩ <;> cases h <;> simp[Op.equalIn,run_underlying ht]
 | 3,_=>
  obtain ⟨e,e',e'',ht⟩:=ht
  rcases h with ⟨⟨a,c,rfl⟩,h⟩|⟨h,⟨a,c,rfl⟩⟩ <;> cases h <;> simp[Op.equalIn,run_underlying ht]
theorem Il {t:TypeId} {k:Nat} (h4:k<4) {v u:Value} (h:(Aof k v∧Nof k u)∨(Nof k v∧Aof k u)):
  v≠.nilIface∧(∀ cs,v≠.agg cs)∧binOp .eql t v u=(do let z ←Op.equal t v u;pure (.bool z))∧binOp .neq t v u=(do let z ←Op.equal t v u;pure (.bool (!z))):=by
 match k,h4 with
 | 0,_=>rcases h with ⟨⟨a,rfl⟩,h⟩|⟨h,⟨a,rfl⟩⟩ <;> cases h <;> exact ⟨by simp,by simp,rfl,rfl⟩
 | 1,_=>rcases h with ⟨⟨a,n,c,rfl⟩,h⟩|⟨h,⟨a,n,c,rfl⟩⟩ <;> cases h <;> exact ⟨by simp,by simp,rfl,rfl⟩
 | 2,_=>rcases h with ⟨⟨a,rfl⟩,h⟩|⟨h,⟨a,rfl⟩⟩ <;> cases h <;> exact ⟨by simp,by simp,rfl,rfl⟩
 | 3,_=>rcases h with ⟨⟨a,c,rfl⟩,h⟩|⟨h,⟨a,c,rfl⟩⟩ <;> cases h <;> exact ⟨by simp,by simp,rfl,rfl⟩
theorem QN {t:TypeId} {x y:AV} {v u:Value} (hx:AR β x v) (hy:AR β y u) {b:Bool} (h:LZ (aU P t) x y=some b):
  b=false∧aU P t<4∧((Aof (aU P t) v∧Nof (aU P t) u)∨(Nof (aU P t) v∧Aof (aU P t) u)):=by
 unfold LZ at h
 split at h
 ·rename_i a b'
  cases hc:(Nat.blt (aU P t) 4&&((Nat.beq (uN a) (aU P t)&&Nat.beq (tL b') (aU P t))||(Nat.beq (tL a) (aU P t)&&Nat.beq (uN b') (aU P t)))) with
  | false=>rw[hc] at h;cases h
  | true=>
   rw[hc] at h
   cases h
   simp only[Bool.and_eq_true,Bool.or_eq_true] at hc
   refine ⟨rfl,Nat.le_of_ble_eq_true hc.1,?_⟩
   rcases hc.2 with ⟨h1,h2⟩|⟨h1,h2⟩
   ·have a1:=Nat.eq_of_beq_eq_true h1
    have a2:=Nat.eq_of_beq_eq_true h2
    exact .inl ⟨by rw[←a1];exact yo hx,by rw[←a2];exact yq hy⟩
   ·have a1:=Nat.eq_of_beq_eq_true h1
    have a2:=Nat.eq_of_beq_eq_true h2
    exact .inr ⟨by rw[←a1];exact yq hx,by rw[←a2];exact yo hy⟩
 ·cases h
theorem UF (hR:Rel m β H w) {op:BinOp} {t:TypeId} {x y:Operand} {a b:AV} {v u:Value} (hx:AR β a v) (hy:AR β b u) {alt:ae}
  (halt:aj P m β H w alt ((do let z ←(do eqGuard op t x y v u;binOp op t v u);pure (Next.value z):Sem Next).run P w)):
  aj P m β H w (bL H (aU P t) op (fA op) a b alt) ((do let z ←(do eqGuard op t x y v u;binOp op t v u);pure (Next.value z):Sem Next).run P w):=by
 cases a with
 | agg _=>exact halt
 | tup _=>exact halt
 | any=>exact halt
 | one c=>
  cases c with
  | b _=>exact halt
  | i k n=>
   show aj P m β H w (eJ b alt fun k' b'=>jV H (fA op) k n k' b' alt) _
   refine ph hy halt fun k' n' hu=>?_
   have hv:v=.int k n:=hx
   subst hu hv
   exact MN hR halt
  | o q=>
   show aj P m β H w (jC H (aU P t) op (.one (.o q)) b alt) _
   unfold jC
   refine sQ hx ?_ fun s hs=>?_
   ·unfold mZ
    split
    ·rename_i b' hn
     obtain ⟨rfl,h4,hh⟩:=QN hx hy hn
     have h1:(Op.equal t v u).run P w=.ok false w:=sI 9999 rfl h4 hh
     obtain ⟨h2,h3,h5,h6⟩:=Il (t:=t) h4 hh
     have hg:=lA (P:=P) (w:=w) op t x y v u h2 h3
     split
     ·refine aj.same hR (v:=.bool false) ?_ rfl
      simp[Sem.run_bind,hg,h5,h1]
     ·refine aj.same hR (v:=.bool true) ?_ rfl
      simp[Sem.run_bind,hg,h6,h1]
     ·exact trivial
    ·exact halt
   ·refine sQ hy halt fun s' hs'=>?_
    subst hs hs'
    exact MW hR halt
theorem VI (hR:Rel m β H w) {op:UnOp} {x:AV} {v:Value} (hx:AR β x v) {alt:ae} (halt:aj P m β H w alt ((do let z ←Op.unary op v;pure (Next.value z):Sem Next).run P w)):
  aj P m β H w (Ht H op x alt) ((do let z ←Op.unary op v;pure (Next.value z):Sem Next).run P w):=by
 cases op <;> first
  | exact halt
  | (refine FG hx halt fun b hb=>?_
     subst hb
     exact aj.same hR (v:=.bool (!b)) rfl rfl)
theorem PQ (hR:Rel m β H w) {t:TypeId} {x i:AV} {v u:Value} (hx:AR β x v) (hi:AR β i u) {alt:ae} (halt:aj P m β H w alt ((do let z ←Instr.index t v u;pure (Next.value z):Sem Next).run P w)):
  aj P m β H w (kA H (qI P t) x i alt) ((do let z ←Instr.index t v u;pure (Next.value z):Sem Next).run P w):=by
 unfold kA
 rw[bV]
 split
 ·rename_i ht
  have hu:P.underlying t=some .string:=by
   unfold qI at ht
   split at ht
   ·assumption
   ·cases ht
  refine sQ hx halt fun s hs=>ph hi halt fun k n hn=>aj.nd fun j hj=>aj.nd fun b hb=>?_
  have hj:=lW hj
  subst hs hn hj
  rw[KI] at hb
  refine aj.same hR (v:=.int .u8 b.toNat) ?_ rfl
  have hlt:j<s.length:=(List.getElem?_eq_some_iff.1 hb).1
  have hg:(ByteArray.mk s.toArray)[j]?=some b:=by
   have h1:j<(ByteArray.mk s.toArray).size:=by show j<s.toArray.size;simpa using hlt
   rw[getElem?_pos (ByteArray.mk s.toArray) j h1]
   have:(ByteArray.mk s.toArray)[j]=s.toArray[j]'(by simpa using hlt):=rfl
   rw[this]
   rw[List.getElem?_eq_getElem hlt] at hb
   simpa using hb
  simp[Instr.index,asIntOf,run_underlying hu,hg]
 ·exact halt
theorem TE {t:TypeId}:
  match ez P t with
  | none=>True
  | some 0=>P.underlying t=some .string
  | some 1=>∃ e,P.underlying t=some (.slice e)
  | some (_+2)=>∃ k e,P.underlying t=some (.map k e):=by
 unfold ez
 cases h:P.underlying t with
 | none=>exact trivial
 | some d=>cases d <;> first|exact trivial|exact ⟨_,rfl⟩|exact ⟨_,_,rfl⟩|rfl
theorem Mm {x:AV} {v:Value} (hx:AR β x v) (h:Qd x=true):v=.slice none 0 0:=by
 cases x with
 | one c=>
  cases c with
  | o q=>cases q <;> first|exact hx|cases h
  | b _=>cases h
  | i _ _=>cases h
 | agg _=>cases h
 | tup _=>cases h
 | any=>cases h
theorem ERs.length {l:List bO} {ms:List MapEntry} (h:ERs β l ms):ms.length=l.length:=(ERs.get h).symm
theorem mW (hR:Rel m β H w) {id:Nat} {es:List bO} {clock:Nat} (h:H.get id=some (.oth (.map es clock))) {p:Place} (hp:β id 0=some p):
  ∃ ms:List MapEntry,w.heap[p.b]?=some (.map ms.toArray clock)∧ERs β es ms:=by
 obtain ⟨q,hq,ms,h1,h2⟩:=hR.obj id _ h
 rw[hp] at hq;cases hq
 exact ⟨ms,h1,h2⟩
theorem dt {b:Nat} {es:Array MapEntry} {c:Nat} (h:w.heap[b]?=some (.map es c)):(getObj b).run P w=.ok (.map es c) w:=by
 simp[getObj,Sem.run,h]
theorem gK {b:Nat} {m:Option Nat} {s t:Nat} {a:Array Nat} (h:w.heap[b]?=some (.mapIter m s a t)):(getObj b).run P w=.ok (.mapIter m s a t) w:=by
 simp[getObj,Sem.run,h]
theorem UN (hR:Rel m β H w) {t ty:TypeId} {k:Nat} (ht:ez P t=some k) {x:AV} {v:Value} (hx:AR β x v):
  aj P m β H w (cS H k x) ((do let z ←Builtin.len_ #[t] ty #[v];pure (Next.value z):Sem Next).run P w):=by
 have hu:=TE (P:=P) (t:=t)
 rw[ht] at hu
 match k with
 | 0=>
  refine sQ hx ⟨⟩ fun s hs=>?_
  subst hs
  rw[Bg]
  refine aj.same hR (v:=.int .i64 s.length) ?_ rfl
  have:(ByteArray.mk s.toArray).size=s.length:=by show s.toArray.size=_;simp
  simp[Builtin.len_,run_underlying hu,goInt,this]
 | 1=>
  obtain ⟨e,hu⟩:=hu
  refine IE hx (aj.guard fun hn=>?_) fun id g off len sz p cap o' _ _ _ _ hv _=>?_
  ·have:=Mm hx hn
   subst this
   refine aj.same hR (v:=.int .i64 0) ?_ rfl
   simp[Builtin.len_,run_underlying hu,goInt]
  ·subst hv
   refine aj.same hR (v:=.int .i64 len) ?_ rfl
   simp[Builtin.len_,run_underlying hu,goInt]
 | k+2=>
  obtain ⟨a,e,hu⟩:=hu
  show aj P m β H w (dU H x) _
  unfold dU
  split
  ·have hv:v=.map none:=hx
   subst hv
   refine aj.same hR (v:=.int .i64 0) ?_ rfl
   simp[Builtin.len_,run_underlying hu,goInt]
  ·rename_i id
   obtain ⟨p,hp,rfl⟩:=hx
   split
   ·rename_i es clock hg
    obtain ⟨ms,h1,h2⟩:=mW hR hg hp
    refine aj.same hR (v:=.int .i64 es.length) ?_ rfl
    simp[Builtin.len_,run_underlying hu,goInt,dt h1,h2.length]
   ·exact trivial
  ·exact trivial
theorem Jv (hR:Rel m β H w) {tm:PT AV} {a:Act} (htm:∀ t,AR β (ay (tm.get t) aG fun v=>v) (a.tmps.getD t undef)) (x:Operand):aj P m β H w ((PG (opF x)).run tm H) ((pure (Next.value (a.eval x)):Sem Next).run P w):=by
 have h:=bM htm x
 cases x <;> exact aj.same hR rfl h
theorem SQ (hR:Rel m β H w) {tm:PT AV} {a:Act} (htm:∀ t,AR β (ay (tm.get t) aG fun v=>v) (a.tmps.getD t undef)) (c x y:Operand):
  aj P m β H w ((Uf (opF c) (opF x) (opF y)).run tm H) ((do pure (Next.value (if ←asBool (a.eval c) then a.eval x else a.eval y)):Sem Next).run P w):=by
 refine FG (bM htm c) trivial fun b hb=>?_
 refine aj.same hR (v:=if b=true then a.eval x else a.eval y) ?_ ?_
 ·simp[hb,asBool]
 ·rw[bV]
  cases b
  ·exact bM htm y
  ·exact bM htm x
theorem GU (hR:Rel m β H w) {ρ:Operand→Value} {y:Operand} {x:AV} (hx:AR β x (ρ y)) (o:Oper) (ho:o.op=.nilCheck y):aj P m β H w (fW H x) ((execOp ρ o).run P w):=by
 obtain ⟨dst,op,type,pos,after,guard⟩:=o
 cases ho
 generalize hv:ρ y=v at hx
 cases x with
 | one c=>
  cases c with
  | o q=>
   cases q <;> first
    | exact trivial
    | (obtain ⟨p,h1,h2,h3⟩:=hx
       subst h3
       exact aj.same hR (v:=.pointer (some _)) (by simp only[execOp,hv];rfl) ⟨p,h1,h2,rfl⟩)
    | (obtain ⟨cs,h1,h2⟩:=hx
       subst h1
       exact aj.same hR (v:=.func _ #[] _) (by simp only[execOp,hv];rfl) ⟨cs,rfl,h2⟩)
  | b _=>exact trivial
  | i _ _=>exact trivial
 | agg _=>exact trivial
 | tup _=>exact trivial
 | any=>exact trivial
end
section
variable {P:Program} {m:Nat} {β:Pl} {H:Hp} {w:World}
theorem tJ (a b:Nat):ifE (Nat.ble a b) a b=Nat.min a b:=by
 rw[bV]
 show _=min a b
 by_cases h:a≤b
 ·rw[if_pos (Nat.ble_eq_true_of_le h)];omega
 ·rw[if_neg (fun hh=>h (Nat.le_of_ble_eq_true hh))];omega
theorem TD (hR:Rel m β H w) (hm:m≤m) {t ty:TypeId} {x y:AV} {v u:Value} (hx:AR β x v) (hy:AR β y u):
  aj P m β H w (AL P H t x y) ((do let z ←Builtin.copy_ #[t,t] ty #[v,u];pure (Next.value z):Sem Next).run P w):=by
 unfold AL
 refine aj.nd fun es hes=>?_
 obtain ⟨e,sz⟩:=es
 obtain ⟨hu,hs⟩:=jM hes
 obtain ⟨it,hit,hsz⟩:=gX hs
 split
 ·rename_i id g off len sz1 id2 g2 off2 len2 sz2
  refine aj.guard fun hc=>aj.nd fun c hcc=>?_
  have c1:sz1=sz:=Nat.eq_of_beq_eq_true (ah hc).1
  have c2:sz2=sz:=Nat.eq_of_beq_eq_true (ah hc).2
  subst c1 c2
  rw[tJ] at hcc
  obtain ⟨p,cap,o1,hp,hlen,hcap,rfl,hex⟩:=hx
  obtain ⟨p2,cap2,o2,hp2,hlen2,hcap2,rfl,hex2⟩:=hy
  obtain ⟨cells2,hD2,a3,a4,rfl⟩:=mE hcc
  have hr2:=hD2 hR hp2
  have hmin1:Nat.min len2 len≤len2:=Nat.min_le_left _ _
  have hmin2:Nat.min len2 len≤len:=Nat.min_le_right _ _
  have hmul2:Nat.min len2 len*sz2≤len2*sz2:=Nat.mul_le_mul_right _ hmin1
  have hmul1:Nat.min len2 len*sz2≤len*sz2:=Nat.mul_le_mul_right _ hmin2
  obtain ⟨vs,hvl,hvs,hcell⟩:=lG hr2 off2 (Nat.mul (Nat.min len2 len) sz2) (by show off2+Nat.min len2 len*sz2≤_;omega)
  have hvl':vs.length=Nat.min len2 len*sz2:=hvl
  have hcl:((cells2.drop off2).take (Nat.mul (Nat.min len2 len) sz2)).length=Nat.min len2 len*sz2:=by rw[←hvl'];exact hvs.length.symm
  unfold nk
  cases hob:H.get id with
  | none=>exact trivial
  | some ob=>
   cases ob with
   | oth q=>exact trivial
   | ro q=>exact trivial
   | arr cells e' lo gen=>
    refine aj.guard fun hd=>?_
    have d1:g=gen:=Nat.eq_of_beq_eq_true (ah hd).1
    have d2:=Nat.le_of_ble_eq_true (ah (ah hd).2).1
    rw[tJ,bq] at d2
    have d2':off+Nat.min len2 len*sz2≤cells.length:=d2
    have d3:lo≤gen:=Nat.le_of_ble_eq_true (ah (ah hd).2).2
    subst d1
    rw[tJ]
    intro hnx
    obtain ⟨hrow,hhi⟩:=mH hR hob d3 (Nat.le_refl _) hp
    obtain ⟨cur,hg,hfit,hrow'⟩:=tn hrow (hhi rfl) hvs (by rw[hcl];exact d2')
    have hfirst:(Builtin.firstCells it.size (Nat.min len2 len) (.slice (some o2) len2 cap2)).run P w=.ok vs.toArray w:=by
     refine fz (by rw[hsz];exact hvl') (fun j q hj=>?_) len2
     have hlt:=(List.getElem?_eq_some_iff.1 hj).1
     have ho':o2=⟨p2.b,p2.o+off2,none⟩:=by
      rcases hex2 with h|h
      ·have h0':len2=0:=by omega
       rw[hvl',h0'] at hlt
       have:Nat.min 0 len=0:=Nat.zero_min _
       rw[this] at hlt
       omega
      ·exact h.1
     rw[ho']
     exact hcell j q hj
    have hst:(storeCells o1 vs).run P w=.ok () (w.setRow p.b (cur.toList.take (p.o+off+0)++vs++cur.toList.drop (p.o+off+0+vs.length)).toArray):=by
     by_cases h0:vs=[]
     ·subst h0
      simp only[List.append_nil,List.length_nil,Nat.add_zero,List.take_append_drop,Array.toArray_toList]
      rw[setRow_self w p.b cur e' (0,0) hg]
      rfl
     ·have ho':o1=⟨p.b,p.o+off,none⟩:=by
       rcases hex with h|h
       ·exfalso
        apply h0
        apply List.eq_nil_of_length_eq_zero
        rw[hvl']
        have h0':len=0:=by omega
        rw[h0']
        have:Nat.min len2 0=0:=Nat.min_zero _
        rw[this,Nat.zero_mul]
       ·exact h.1
      rw[ho']
      exact run_storeCells_at P p.b (p.o+off) e' vs 0 cur w hg hfit hvs.kO
    have hmod:=jZ hR hm hnx hob (.arr (eN cells off ((cells2.drop off2).take (Nat.mul (Nat.min len2 len) sz2))) e' g g) (β':=β)
     (w':=w.setRow p.b (cur.toList.take (p.o+off+0)++vs++cur.toList.drop (p.o+off+0+vs.length)).toArray)
     (fun _ _ _ h=>h) (fun _ _ _=>rfl) (by simp) (by simp) (by simp) (by simp)
     (fun b _ hb=>setRow_other w p.b b _ (fun hh=>hb g p ⟨d3,Nat.le_refl _⟩ hp hh.symm))
     (by rw[fi];exact LU (hR.obj id _ hob) hp hrow' (by rw[eV _ _ _ (by rw[hcl];exact d2')];exact hhi rfl))
     (fun g0 p0 hg0 hp0=>.inr ⟨g,p,⟨d3,Nat.le_refl _⟩,hp,by
      have:g0=g:=by have:=hg0.1;have:=hg0.2;omega
      subst this;rw[hp] at hp0;cases hp0;rfl⟩)
    refine ⟨.int .i64 (Nat.min len2 len),_,.inl ?_,Out.one rfl hmod⟩
    simp[Builtin.copy_,run_underlying hu,Builtin.lenOf,sizeOf,typeInfo,hit,hfirst,hst,goInt]
 ·rename_i id g off len sz1
  obtain ⟨p,cap,o1,hp,hlen,hcap,rfl,hex⟩:=hx
  have hv:u=.slice none 0 0:=hy
  subst hv
  refine aj.same hR (v:=.int .i64 0) ?_ rfl
  simp[Builtin.copy_,run_underlying hu,Builtin.lenOf,Builtin.firstCells,sizeOf,typeInfo,hit,storeCells,goInt]
 ·rename_i id2 g2 off2 len2 sz2
  obtain ⟨p2,cap2,o2,hp2,hlen2,hcap2,rfl,hex2⟩:=hy
  have hv:v=.slice none 0 0:=hx
  subst hv
  refine aj.same hR (v:=.int .i64 0) ?_ rfl
  have h0:Nat.min len2 0=0:=Nat.min_zero _
  simp[Builtin.copy_,run_underlying hu,Builtin.lenOf,Builtin.firstCells,sizeOf,typeInfo,hit,goInt,loadCells,loadCellsFrom]
 ·have hv:v=.slice none 0 0:=hx
  have hv':u=.slice none 0 0:=hy
  subst hv hv'
  refine aj.same hR (v:=.int .i64 0) ?_ rfl
  simp[Builtin.copy_,run_underlying hu,Builtin.lenOf,Builtin.firstCells,sizeOf,typeInfo,hit,goInt]
 ·exact trivial
theorem BX (hR:Rel m β H w) (hm:m≤m) {t:TypeId} {l c:AV} {v u:Value} (hl:AR β l v) (hc:AR β c u):
  aj P m β H w (dg P H t l c) ((do let z ←Instr.makeSlice t v u;pure (Next.value z):Sem Next).run P w):=by
 unfold dg
 refine aj.nd fun es hes=>aj.nd fun by_ hby=>aj.nd fun z hz=>ph hl trivial fun kl n hn=>ph hc trivial fun kc j hj=>aj.nd fun n' hn'=>aj.nd fun j' hj'=>aj.guard fun hg=>?_
 obtain ⟨e,sz⟩:=es
 obtain ⟨hu,hs⟩:=jM hes
 obtain ⟨ho,hnt,it,hit,hiz⟩:=iA hz
 obtain ⟨it2,hit2,hsz⟩:=gX hs
 obtain ⟨it3,hit3,hbs⟩:=nO hby
 simp only at hit hit2 hit3
 rw[hit] at hit2 hit3
 cases hit2;cases hit3
 have hn':=lW hn'
 have hj':=lW hj'
 subst hn hj hn' hj'
 have g1:n'≤j':=Nat.le_of_ble_eq_true (ah hg).1
 have g2:j'≤1073741824:=Nat.le_of_ble_eq_true (ah (ah hg).2).1
 have g3:j'*by_≤140737488355328:=Nat.le_of_ble_eq_true (ah (ah (ah hg).2).2).1
 have g4:bE (ofValue z).cells=sz:=Nat.eq_of_beq_eq_true (ah (ah (ah hg).2).2).2
 intro hnx
 have hnx':H.nx+1≤m:=hnx
 have hzc:CRs β (ofValue z).cells z.cells.toList:=(dN ho).cells (lH hnt)
 have hzs:z.cells.size=sz:=by rw[←g4,bq];simpa using hzc.length
 have hrun:=run_make (P:=P) w t e it z hu hit hiz kl kc n' j' (by omega) (by omega) (by rw[hbs,←Int.natCast_mul,Nat.mul_comm];omega) (by omega)
 have hcs:CRs β (jt (ofValue z).cells j') (madeCells z.cells (j'*it.size)).toList:=by
  have:=KB hzc j'
  rw[hzs] at this
  unfold madeCells
  rw[hsz,hzs]
  exact this
 have hnew:=sT hR hm (by omega) (jt (ofValue z).cells j') (madeCells z.cells (j'*it.size)) e hcs w rfl rfl rfl rfl #[]
 refine ⟨.slice (some ⟨w.heap.size,0,none⟩) n' j',_,.inl ?_,Out.one ?_ (by simpa using hnew)⟩
 ·simp only[Sem.run_bind,hrun,Result.andThen_ok,Int.toNat_natCast]
  rfl
 ·refine ⟨_,j',_,aQ _ _ _ _,?_,g1,rfl,.inr ⟨rfl,?_⟩⟩
  ·show 0+n'*sz≤(jt (ofValue z).cells j').length
   have:n'*sz≤j'*sz:=Nat.mul_le_mul_right _ g1
   rw[vp,←bq,g4];omega
  ·show 0+0+j'*sz≤(madeCells z.cells (j'*it.size)).size+0
   rw[size_madeCells,hsz];omega
theorem Am:∀ {l:List AV} {vs:List Value} {cs:List (Nat×Nat×Nat×Nat)},gO l=some cs→ARs β l vs →
  vs.length=cs.length∧∀ (k:Nat) (c:Nat×Nat×Nat×Nat) (v:Value),cs[k]?=some c→vs[k]?=some v→∃ p,β c.1 c.2.1=some p∧c.2.2.1+c.2.2.2≤p.hi∧v=.pointer (some ⟨p.b,p.o+c.2.2.1,none⟩)
 | [],vs,cs,h,hr=>by
  cases h
  cases vs with
  | nil=>exact ⟨rfl,fun k c v hc _=>by simp at hc⟩
  | cons=>exact hr.elim
 | x::l,vs,cs,h,hr=>by
  cases vs with
  | nil=>exact hr.elim
  | cons v vs=>
   unfold gO at h
   split at h
   ·rename_i heq
    cases heq
   ·rename_i id g off lim l' heq
    cases heq
    split at h
    ·rename_i r hr'
     cases h
     obtain ⟨h1,h2⟩:=Am hr' hr.2
     refine ⟨by simp[h1],fun k c u hc hu=>?_⟩
     cases k with
     | zero=>
      simp at hc hu
      subst hc hu
      exact hr.1
     | succ k=>exact h2 k c u (by simpa using hc) (by simpa using hu)
    ·cases h
   ·cases h
theorem Is {tm:PT AV} {a:Act} (htm:∀ t,AR β (ay (tm.get t) aG fun v=>v) (a.tmps.getD t undef)):∀ (l:List Operand),ARs β (evs l tm) (l.map a.eval)
 | []=>trivial
 | x::l=>⟨bM htm x,Is htm l⟩
theorem od:∀ {cs:List (Nat×Nat×Nat×Nat)} {vs:List Value},vs.length=cs.length →
  (∀ (k:Nat) (c:Nat×Nat×Nat×Nat) (v:Value),cs[k]?=some c→vs[k]?=some v→∃ p,β c.1 c.2.1=some p∧c.2.2.1+c.2.2.2≤p.hi∧v=.pointer (some ⟨p.b,p.o+c.2.2.1,none⟩))→ARs β (eD cs) vs
 | [],[],_,_=>trivial
 | (id,g,off,lim)::cs,v::vs,hl,h=>⟨h 0 _ _ rfl rfl,od (by simpa using hl) fun k c u hc hu=>h (k+1) c u (by simpa using hc) (by simpa using hu)⟩
 | [],_::_,hl,_=>by simp at hl
 | _::_,[],hl,_=>by simp at hl
theorem DJ (hR:Rel m β H w) {tm:PT AV} {a:Act} (htm:∀ t,AR β (ay (tm.get t) aG fun v=>v) (a.tmps.getD t undef)) (f:FuncId) (caps:Array Operand):
  aj P m β H w (nd (gO (evs caps.toList tm)) "makeFunc - captured" fun cs=>.val (.one (.o (.clo f cs))) H) ((do let z ←Instr.makeFunc (.func f) (#[].map a.eval) (caps.map a.eval);pure (Next.value z):Sem Next).run P w):=by
 refine aj.nd fun cs hcs=>?_
 obtain ⟨h1,h2⟩:=Am hcs (Is htm caps.toList)
 refine aj.same hR (v:=.func (.func f) #[] (caps.map a.eval)) (by simp[Instr.makeFunc]) ⟨caps.toList.map a.eval,by rw[←Array.toList_map,Array.toArray_toList],h1,h2⟩
theorem II (hR:Rel m β H w) (hm:m≤m) (t:TypeId):
  aj P m β H w (.val (.one (.o (.mp H.nx))) (H.new (.oth (.map [] 0)))) ((do let z ←Instr.makeMap t none;pure (Next.value z):Sem Next).run P w):=by
 intro hnx
 have hnx':H.nx+1≤m:=hnx
 have hnew:=jY hR hm (by omega) (.oth (.map [] 0)) ⟨w.heap.size,0,0,0⟩ (w':=w.alloc (.map #[] 0)) (Nat.le_refl _) (by simp) rfl rfl rfl
  (fun b hb=>RowKit.Below.heap_alloc w _ b hb) (fun g hg=>hg) ⟨_,aQ _ _ _ _,[],heap_alloc_new w _,trivial⟩
 exact ⟨.map (some w.heap.size),_,.inl rfl,Out.one ⟨_,aQ _ _ _ _,rfl⟩ hnew⟩
theorem Sh {f:AV} {args:List AV} {v:Value} {vs:List Value} (hf:AR β f v) (hargs:ARs β args vs):
  aj P m β H w (kg P f args) ((do let d ←Deferred.ofValue v vs.toArray;invoke d.target d.args:Sem Next).run P w):=by
 cases f with
 | one c=>
  cases c with
  | o q=>
   cases q <;> first
    | exact trivial
    | skip
   ·rename_i g caps
    obtain ⟨cs,rfl,hl,hc⟩:=hf
    refine aj.guard fun hb=>?_
    refine ⟨vs++cs,?_,hargs.append (od hl hc),hb⟩
    simp[Deferred.ofValue,invoke]
   ·rename_i id
    obtain ⟨p,hp,rfl⟩:=hf
    exact ⟨p,vs,hp,hargs,by simp[Deferred.ofValue,invoke]⟩
  | b _=>exact trivial
  | i _ _=>exact trivial
 | agg _=>exact trivial
 | tup _=>exact trivial
 | any=>exact trivial
end
theorem zy {α:Type} {x:AV} {f:List UInt8→Option α} {r:α} (h:gH x none f=some r):∃ s,x=.one (.o (.str s))∧f s=some r:=by
 cases x with
 | one c=>
  cases c with
  | o q=>cases q <;> first|exact ⟨_,rfl,h⟩|cases h
  | b _=>cases h
  | i _ _=>cases h
 | agg _=>cases h
 | tup _=>cases h
 | any=>cases h
theorem zN {x:AV} {f:List UInt8→Bool} (h:gH x false f=true):∃ s,x=.one (.o (.str s))∧f s=true:=by
 cases x with
 | one c=>
  cases c with
  | o q=>cases q <;> first|exact ⟨_,rfl,h⟩|cases h
  | b _=>cases h
  | i _ _=>cases h
 | agg _=>cases h
 | tup _=>cases h
 | any=>cases h
theorem yN {α:Type} {x:AV} {f:IntKind→Int→Option α} {r:α} (h:eJ x none f=some r):∃ k n,x=.one (.i k n)∧f k n=some r:=by
 cases x with
 | one c=>
  cases c with
  | o q=>cases h
  | b _=>cases h
  | i _ _=>exact ⟨_,_,rfl,h⟩
 | agg _=>cases h
 | tup _=>cases h
 | any=>cases h
theorem xW {x:AV} {f:IntKind→Int→Bool} (h:eJ x false f=true):∃ k n,x=.one (.i k n)∧f k n=true:=by
 cases x with
 | one c=>
  cases c with
  | o q=>cases h
  | b _=>cases h
  | i _ _=>exact ⟨_,_,rfl,h⟩
 | agg _=>cases h
 | tup _=>cases h
 | any=>cases h
theorem dv {α γ:Type} {x:Option α} {f:α→Option γ} {r:γ} (h:ay x none f=some r):∃ a,x=some a∧f a=some r:=by
 cases x with
 | none=>cases h
 | some a=>exact ⟨a,rfl,h⟩
theorem zz {α:Type} {x:Option α} {f:α→Bool} (h:ay x false f=true):∃ a,x=some a∧f a=true:=by
 cases x with
 | none=>cases h
 | some a=>exact ⟨a,rfl,h⟩
section
variable {P:Program} {m:Nat} {β:Pl} {H:Hp} {w:World}
theorem nT (kt:TypeId):
  match bF P kt with
  | 0=>P.underlying kt=some .string
  | 1=>∃ k,P.underlying kt=some (.int k)
  | 2=>∃ d,P.underlying kt=some d∧∀ a b,Instr.sameNow d a b=none
  | _=>True:=by
 unfold bF
 cases h:P.underlying kt with
 | none=>exact trivial
 | some d=>cases d <;> first|exact trivial|rfl|exact ⟨_,rfl⟩|exact ⟨_,rfl,fun a b=>by cases a <;> cases b <;> rfl⟩
theorem lX (empty:Bool) (d:Nat) {t:TypeId} (v:Value) (h:P.underlying t=some .string∨∃ k,P.underlying t=some (.int k)):(Instr.checkKey empty (d+1) t v).run P w=.ok () w:=by
 rcases h with h|⟨k,h⟩ <;> simp[Instr.checkKey,run_underlying h]
theorem vz {empty:Bool} {kt:TypeId} {k:AV} {v:Value} (hk:AR β k v) (h:gT P empty kt k=some ()):(Instr.checkKey empty 10000 kt v).run P w=.ok () w:=by
 have hkk:=nT (P:=P) kt
 unfold gT at h
 match hn:bF P kt with
 | 0=>rw[hn] at hkk;exact lX empty 9999 v (.inl hkk)
 | 1=>rw[hn] at hkk;exact lX empty 9999 v (.inr hkk)
 | 2=>
  rw[hn] at h
  obtain ⟨u,hu,hr⟩:=dv h
  rw[AV.hG hu hk]
  exact oB hr w
 | n+3=>rw[hn] at h;cases h
def EqR (P:Program) (kt:TypeId) (v u:Value) (b:Bool):Prop:=
 match bF P kt with
 | 0=>∃ x y,v=.string x∧u=.string y∧b=(x==y)
 | 1=>∃ k x y,v=.int k x∧u=.int k y∧b=(x==y)
 | 2=>aC P (Op.equal kt v u)=some b
 | _=>False
theorem bytes_beq (x y:List UInt8):(ByteArray.mk x.toArray==ByteArray.mk y.toArray)=(x==y):=by
 show (x.toArray==y.toArray)=_
 simp
theorem DI {kt:TypeId} {a b:AV} {v u:Value} (ha:AR β a v) (hb:AR β b u) {r:Bool} (h:je P kt a b=some r):EqR P kt v u r:=by
 unfold je at h
 unfold EqR
 match hn:bF P kt with
 | 0=>
  rw[hn] at h
  obtain ⟨x,hx,h1⟩:=zy h
  obtain ⟨y,hy,h2⟩:=zy h1
  subst hx hy
  cases h2
  exact ⟨_,_,ha,hb,by rw[bU,bytes_beq]⟩
 | 1=>
  rw[hn] at h
  obtain ⟨k,x,hx,h1⟩:=yN h
  obtain ⟨k',y,hy,h2⟩:=yN h1
  subst hx hy
  rw[bV] at h2
  split at h2
  ·rename_i hk
   have:=jd hk
   subst this
   cases h2
   exact ⟨k,x,y,ha,hb,rh _ _⟩
  ·cases h2
 | 2=>
  rw[hn] at h
  obtain ⟨x,hx,h1⟩:=dv h
  obtain ⟨y,hy,h2⟩:=dv h1
  rw[AV.hG hx ha,AV.hG hy hb]
  exact h2
 | n+3=>rw[hn] at h;cases h
inductive Scan (P:Program) (kt:TypeId) (v:Value):List MapEntry→Option Nat→Prop
 | nil:Scan P kt v [] none
 | hit {e:MapEntry} {es:List MapEntry}:EqR P kt v e.key true→Scan P kt v (e::es) (some 0)
 | miss {e:MapEntry} {es:List MapEntry} {r:Option Nat}:EqR P kt v e.key false→Scan P kt v es r→Scan P kt v (e::es) (r.map (·+1))
theorem Scan.now {kt:TypeId} {v:Value} {d:TypeDesc} (hd:P.underlying kt=some d) (hk:bF P kt<2) {ms:List MapEntry} {r:Option Nat} (h:Scan P kt v ms r):∀ j,
  match r with
  | none=>Instr.findNow d v ms j=some none
  | some i=>∃ e,ms[i]?=some e∧Instr.findNow d v ms j=some (some (j+i,e.val)):=by
 have key:∀ u b,EqR P kt v u b→Instr.sameNow d v u=some b:=by
  intro u b hb
  have hkk:=nT (P:=P) kt
  unfold EqR at hb
  match hn:bF P kt with
  | 0=>
   rw[hn] at hb hkk
   rw[hd] at hkk;cases hkk
   obtain ⟨x,y,rfl,rfl,rfl⟩:=hb
   rfl
  | 1=>
   rw[hn] at hb hkk
   obtain ⟨k,hkk⟩:=hkk
   rw[hd] at hkk;cases hkk
   obtain ⟨k,x,y,rfl,rfl,rfl⟩:=hb
   simp[Instr.sameNow]
  | n+2=>omega
 induction h with
 | nil=>intro j;rfl
 | hit he=>intro j;exact ⟨_,rfl,by simp[Instr.findNow,key _ _ he]⟩
 | miss he _ ih=>
  rename_i e es r _
  intro j
  have:=ih (j+1)
  cases r with
  | none=>simpa [Instr.findNow,key _ _ he] using this
  | some i=>
   obtain ⟨e',h1,h2⟩:=this
   refine ⟨e',by simpa using h1,?_⟩
   simp only[Instr.findNow,key _ _ he,h2]
   congr 3
   omega
theorem Scan.Uu {kt:TypeId} {v:Value} (hk:bF P kt=2) {ms:List MapEntry} {r:Option Nat} (h:Scan P kt v ms r):∀ j,
  match r with
  | none=>(Instr.findAsking kt v ms j).run P w=.ok none w
  | some i=>∃ e,ms[i]?=some e∧(Instr.findAsking kt v ms j).run P w=.ok (some (j+i,e.val)) w:=by
 have key:∀ u b,EqR P kt v u b→(Op.equal kt v u).run P w=.ok b w:=by
  intro u b hb
  unfold EqR at hb
  rw[hk] at hb
  exact oB hb w
 induction h with
 | nil=>intro j;rfl
 | hit he=>intro j;exact ⟨_,rfl,by simp[Instr.findAsking,key _ _ he]⟩
 | miss he _ ih=>
  rename_i e es r _
  intro j
  have:=ih (j+1)
  cases r with
  | none=>simpa [Instr.findAsking,key _ _ he] using this
  | some i=>
   obtain ⟨e',h1,h2⟩:=this
   refine ⟨e',by simpa using h1,?_⟩
   simp only[Instr.findAsking,Sem.run_bind,key _ _ he,Result.andThen_ok,h2,Bool.false_eq_true,if_false]
   congr 3
   omega
theorem Scan.run {kt:TypeId} {v:Value} {ms:List MapEntry} {r:Option Nat} (h:Scan P kt v ms r) (hk:bF P kt≤2):
  match r with
  | none=>(Instr.findKey kt v ms).run P w=.ok none w
  | some i=>∃ e,ms[i]?=some e∧(Instr.findKey kt v ms).run P w=.ok (some (i,e.val)) w:=by
 have hkk:=nT (P:=P) kt
 obtain ⟨d,hd⟩:∃ d,P.underlying kt=some d:=by
  match hn:bF P kt with
  | 0=>rw[hn] at hkk;exact ⟨_,hkk⟩
  | 1=>rw[hn] at hkk;obtain ⟨k,hkk⟩:=hkk;exact ⟨_,hkk⟩
  | 2=>rw[hn] at hkk;obtain ⟨d,hkk,_⟩:=hkk;exact ⟨_,hkk⟩
  | n+3=>omega
 rcases Nat.lt_or_ge (bF P kt) 2 with h2|h2
 ·have:=Scan.now hd h2 h 0
  cases r with
  | none=>simp only at this ⊢;simp[Instr.findKey,run_underlying hd,this]
  | some i=>
   obtain ⟨e,h1,h3⟩:=this
   exact ⟨e,h1,by simp[Instr.findKey,run_underlying hd,h3]⟩
 ·have hk2:bF P kt=2:=by omega
  rw[hk2] at hkk
  obtain ⟨d',hd',hnone⟩:=hkk
  rw[hd] at hd';cases hd'
  cases ms with
  | nil=>
   cases h
   simp[Instr.findKey,run_underlying hd,Instr.findNow]
  | cons e es=>
   have hn:Instr.findNow d v (e::es) 0=none:=by simp[Instr.findNow,hnone]
   have:=Scan.Uu (w:=w) hk2 h 0
   cases r with
   | none=>simp only at this ⊢;simp[Instr.findKey,run_underlying hd,hn,this]
   | some i=>
    obtain ⟨e,h1,h3⟩:=this
    exact ⟨e,h1,by simp[Instr.findKey,run_underlying hd,hn,h3]⟩
theorem iK {kt:TypeId} {empty:Bool} {k:AV} (h:gT P empty kt k=some ()):bF P kt≤2:=by
 unfold gT at h
 match hn:bF P kt with
 | 0=>omega
 | 1=>omega
 | 2=>omega
 | n+3=>rw[hn] at h;cases h
theorem ui {kt:TypeId} {k:AV} {v:Value} (hk:AR β k v):∀ {l:List bO} {ms:List MapEntry},ERs β l ms→∀ {r:Option bO},jg P kt k l=some r →
  ∃ i,Scan P kt v ms i∧match r with
   | none=>i=none
   | some e=>∃ j,i=some j∧l[j]?=some e
 | [],[],_,r,h=>by cases h;exact ⟨none,.nil,rfl⟩
 | a::l,b::ms,hE,r,h=>by
  have h':ay (je P kt k a.key) none (fun b=>ifE b (some (some a)) (jg P kt k l))=some r:=h
  obtain ⟨q,hq,h'⟩:=dv h'
  have he:=DI hk hE.1.1 hq
  rw[bV] at h'
  cases q with
  | true=>
   cases h'
   exact ⟨some 0,.hit he,0,rfl,rfl⟩
  | false=>
   obtain ⟨i,hs,hi⟩:=ui hk hE.2 h'
   refine ⟨_,.miss he hs,?_⟩
   cases r with
   | none=>simp only at hi ⊢;rw[hi];rfl
   | some e=>
    obtain ⟨j,rfl,hj⟩:=hi
    exact ⟨j+1,rfl,by simpa using hj⟩
 | [],_::_,hE,_,_=>hE.elim
 | _::_,[],hE,_,_=>hE.elim
theorem ERs.at {l:List bO} {ms:List MapEntry} (h:ERs β l ms) {i:Nat} {e:bO} {me:MapEntry} (h1:l[i]?=some e) (h2:ms[i]?=some me):
  AR β e.key me.key∧e.key.bA=true∧AR β e.val me.val∧e.val.bA=true∧me.born=e.born:=by
 induction l generalizing ms i with
 | nil=>simp at h1
 | cons a l ih=>
  cases ms with
  | nil=>exact h.elim
  | cons b ms=>
   cases i with
   | zero=>simp at h1 h2;subst h1 h2;exact h.1
   | succ i=>exact ih h.2 (by simpa using h1) (by simpa using h2)
theorem pf {v:AV} {u:Value} (h:AR β v u) (hn:v.bA=true):TR β (Ng v) u:=by
 cases v with
 | one c=>exact h
 | agg l=>exact h
 | tup l=>cases hn
 | any=>cases hn
theorem ou (hR:Rel m β H w) {ok:Bool} {v:AV} {u:Value} {b:Bool} (hv:AR β v u) {r:Result Next} (hr:r=.ok (.value (if ok then .tuple #[u,.bool b] else u)) w):aj P m β H w (bQ H ok v b) r:=by
 cases ok with
 | false=>exact aj.same hR hr hv
 | true=>
  refine aj.guard fun hn=>aj.same hR hr ⟨[u,.bool b],⟨pf hv hn,rfl,trivial⟩,rfl⟩
theorem MT (hR:Rel m β H w) {t kt et:TypeId} (ht:iT P t=some (kt,et)) {z:Value} (hz:aB P et=some z) {mp k:AV} {v u:Value} (hm:AR β mp v) (hk:AR β k u) (ok:Bool):
  aj P m β H w (bp P H kt (ofValue z) mp k ok) ((do let y ←Instr.lookup t v u ok;pure (Next.value y):Sem Next).run P w):=by
 have hu:=Bx ht
 obtain ⟨ho,hnt,it,hit,hiz⟩:=iA hz
 unfold bp
 split
 ·refine aj.nd fun _ hkey=>?_
  have hc:=vz (P:=P) (w:=w) hk hkey
  have hv:v=.map none:=hm
  subst hv
  have hf:(Instr.findKey kt u []).run P w=.ok none w:=Scan.run .nil (iK hkey)
  refine ou hR (u:=z) (dN ho) ?_
  simp[Instr.lookup,run_underlying hu,hc,hf,eE hz]
 ·rename_i id
  obtain ⟨p,hp,rfl⟩:=hm
  split
  ·rename_i es clock hg
   obtain ⟨ms,h1,h2⟩:=mW hR hg hp
   refine aj.nd fun _ hkey=>?_
   have hem:es.isEmpty=ms.isEmpty:=by
    have:=h2.length
    cases es <;> cases ms <;> first|rfl|simp at this
   have hc:=vz (P:=P) (w:=w) hk hkey
   rw[hem] at hc
   split
   ·rename_i e hf
    obtain ⟨i,hs,j,rfl,hj⟩:=ui hk h2 hf
    obtain ⟨me,hme,hrun⟩:=Scan.run (w:=w) hs (iK hkey)
    refine ou hR (u:=me.val) (h2.at hj hme).2.2.1 ?_
    simp[Instr.lookup,run_underlying hu,dt h1,hc,hrun]
   ·rename_i hf
    obtain ⟨i,hs,rfl⟩:=ui hk h2 hf
    have hrun:=Scan.run (w:=w) hs (iK hkey)
    simp only at hrun
    refine ou hR (u:=z) (dN ho) ?_
    simp[Instr.lookup,run_underlying hu,dt h1,hc,hrun,eE hz]
   ·exact trivial
  ·exact trivial
 ·exact trivial
end
section
variable {P:Program} {m:Nat} {β:Pl} {H:Hp} {w:World}
theorem kz (hR:Rel m β H w) (hm:m≤m) (hnx:H.nx≤m) {id:Nat} {x:Nu} (ho:H.get id=some (.oth x)) (x':Nu) {p:Place} (hp:β id 0=some p) (w0:World) (h0:w0.heap=w.heap) (hos:w0.os=w.os) (htape:w0.tape=w.tape) (hout:w0.output=w.output)
  (o:Obj) (hx:∀ w':World,w'.heap[p.b]?=some o→De β w' p x'):
  Rel m β (H.mod id (.oth x')) { w0 with heap:=w0.heap.setIfInBounds p.b o }∧Ext β H w β (H.mod id (.oth x')) { w0 with heap:=w0.heap.setIfInBounds p.b o }:=by
 have hlt:p.b<w.heap.size:=by
  obtain ⟨q,hq,hqx⟩:=hR.obj id _ ho
  rw[hp] at hq;cases hq
  exact hqx.lt
 refine jZ hR hm hnx ho (.oth x') (fun _ _ _ h=>h) (fun _ _ _=>rfl) (by simp[h0]) hos htape hout ?_ ?_ ?_
 ·intro b hb hn
  have:p.b≠b:=hn 0 p rfl hp
  show (w0.heap.setIfInBounds p.b o)[b]?=_
  rw[Array.getElem?_setIfInBounds_ne this,h0]
 ·refine ⟨p,hp,hx _ ?_⟩
  show (w0.heap.setIfInBounds p.b o)[p.b]?=_
  rw[Array.getElem?_setIfInBounds_self,h0,if_pos hlt]
 ·intro g q hg hq
  have hg':g=0:=hg
  subst hg'
  exact .inr ⟨0,p,rfl,hp,by rw[hp] at hq;cases hq;rfl⟩
theorem Bp (n:Nat) (x y:ByteArray):Instr.sameBits n (.string x) (.string y)=(x==y):=by cases n <;> rfl
theorem AX (n:Nat) (k k':IntKind) (x y:Int):Instr.sameBits n (.int k x) (.int k' y)=(k==k'&&x==y):=by cases n <;> rfl
theorem HQ {kt:TypeId} {a b:AV} {v u:Value} (ha:AR β a v) (hb:AR β b u) (h:sameKey P kt a b=true):Instr.sameBits 10000 v u=true:=by
 unfold sameKey at h
 match hn:bF P kt with
 | 0=>
  rw[hn] at h
  obtain ⟨x,hx,h1⟩:=zN h
  obtain ⟨y,hy,h2⟩:=zN h1
  subst hx hy
  have ha':v=.string ⟨x.toArray⟩:=ha
  have hb':u=.string ⟨y.toArray⟩:=hb
  subst ha' hb'
  rw[Bp,bytes_beq,←bU]
  exact h2
 | 1=>
  rw[hn] at h
  obtain ⟨k,x,hx,h1⟩:=xW h
  obtain ⟨k',y,hy,h2⟩:=xW h1
  subst hx hy
  have ha':v=.int k x:=ha
  have hb':u=.int k' y:=hb
  subst ha' hb'
  obtain ⟨h3,h4⟩:=ah h2
  have:=jd h3
  subst this
  rw[rh] at h4
  rw[AX]
  simpa using h4
 | n+2=>
  rw[hn] at h
  obtain ⟨x,hx,h1⟩:=zz h
  obtain ⟨y,hy,h2⟩:=zz h1
  rw[AV.hG hx ha,AV.hG hy hb]
  exact h2
theorem IT {kt:TypeId} {k x:AV} {v u:Value} (hk:AR β k v) (hkn:k.bA=true) (hx:AR β x u) (hxn:x.bA=true):∀ {l:List bO} {ms:List MapEntry},ERs β l ms→∀ {r:Bool×List bO},ma P kt k x l=some r →
  match r.1 with
  | false=>Scan P kt v ms none
  | true=>∃ i me,Scan P kt v ms (some i)∧ms[i]?=some me∧Instr.sameBits 10000 me.key v=true∧ERs β r.2 (ms.modify i fun e=>{ e with key:=v,val:=u })
 | [],[],_,r,h=>by cases h;exact .nil
 | a::l,b::ms,hE,r,h=>by
  have h':ay (je P kt k a.key) none (fun b=>ifE b (ifE (sameKey P kt a.key k) (some (true,⟨k,x,a.born⟩::l)) none) (ay (ma P kt k x l) none fun r=>some (r.1,a::r.2)))=some r:=h
  obtain ⟨q,hq,h1⟩:=dv h'
  have he:=DI hk hE.1.1 hq
  rw[bV] at h1
  cases q with
  | true=>
   rw[if_pos rfl,bV] at h1
   split at h1
   ·rename_i hs
    cases h1
    refine ⟨0,b,.hit he,rfl,HQ hE.1.1 hk hs,?_⟩
    exact ⟨⟨hk,hkn,hx,hxn,hE.1.2.2.2.2⟩,hE.2⟩
   ·cases h1
  | false=>
   obtain ⟨r',hr',h2⟩:=dv h1
   cases h2
   have:=IT hk hkn hx hxn hE.2 hr'
   obtain ⟨b1,l1⟩:=r'
   cases b1 with
   | false=>exact .miss he this
   | true=>
    obtain ⟨i,me,h3,h4,h5,h6⟩:=this
    refine ⟨i+1,me,.miss he h3,by simpa using h4,h5,?_⟩
    simp only[List.modify_succ_cons]
    exact ⟨hE.1,h6⟩
 | [],_::_,hE,_,_=>hE.elim
 | _::_,[],hE,_,_=>hE.elim
theorem ERs.append {l l':List bO} {ms ms':List MapEntry} (h:ERs β l ms) (h':ERs β l' ms'):ERs β (l++l') (ms++ms'):=by
 induction l generalizing ms with
 | nil=>cases ms with|nil=>exact h'|cons=>exact h.elim
 | cons c l ih=>cases ms with|nil=>exact h.elim|cons v ms=>exact ⟨h.1,ih h.2⟩
theorem oQ (hR:Rel m β H w) (hm:m≤m) {t kt et:TypeId} (ht:iT P t=some (kt,et)) {mp k x:AV} {v u y:Value} (hmp:AR β mp v) (hk:AR β k u) (hx:AR β x y):
  aj P m β H w (aW P H kt mp k x) ((do Instr.mapUpdate t v u y;pure Next.skip:Sem Next).run P w):=by
 have hu:=Bx ht
 unfold aW
 split
 ·rename_i id
  obtain ⟨p,hp,rfl⟩:=hmp
  split
  ·rename_i es clock hg
   obtain ⟨ms,h1,h2⟩:=mW hR hg hp
   refine aj.nd fun _ hkey=>aj.guard fun hnt=>aj.nd fun r hr=>?_
   have hc:=vz (P:=P) (w:=w) hk hkey
   have hput:=IT hk (ah hnt).1 hx (ah hnt).2 h2 hr
   obtain ⟨b,l⟩:=r
   cases b with
   | false=>
    have hrun:=Scan.run (w:=w) hput (iK hkey)
    simp only at hrun
    intro hnx
    have hset:∀ o,(setObj p.b o).run P w=_:=fun o=>MapKept.run_setObj_map o h1
    refine ⟨undef,_,.inr ⟨?_,rfl⟩,Out.one ⟨[],trivial,rfl⟩ (kz hR hm hnx hg _ hp w rfl rfl rfl rfl (.map (ms.toArray.push { key:=u,val:=y,born:=clock }) (clock+1)) ?_)⟩
    ·simp[Instr.mapUpdate,run_underlying hu,dt h1,hc,hrun,hset]
    ·intro w' hw'
     refine ⟨ms++[{ key:=u,val:=y,born:=clock }],by rw[hw'];simp,?_⟩
     exact h2.append ⟨⟨hk,(ah hnt).1,hx,(ah hnt).2,rfl⟩,trivial⟩
   | true=>
    obtain ⟨i,me,h3,h4,h5,h6⟩:=hput
    obtain ⟨me',hme',hrun⟩:=Scan.run (w:=w) h3 (iK hkey)
    intro hnx
    have hset:∀ o,(setObj p.b o).run P w=_:=fun o=>MapKept.run_setObj_map o h1
    refine ⟨undef,_,.inr ⟨?_,rfl⟩,Out.one ⟨[],trivial,rfl⟩ (kz hR hm hnx hg _ hp w rfl rfl rfl rfl (.map (ms.toArray.modify i fun e=>{ e with key:=u,val:=y }) clock) ?_)⟩
    ·simp[Instr.mapUpdate,run_underlying hu,dt h1,hc,hrun,h4,Instr.keyThatStays,h5,hset]
    ·intro w' hw'
     exact ⟨ms.modify i fun e=>{ e with key:=u,val:=y },by rw[hw'];simp,h6⟩
  ·exact trivial
 ·exact trivial
theorem QX (hR:Rel m β H w) (hm:m≤m) {t kt et:TypeId} (ht:iT P t=some (kt,et)) {x:AV} {v:Value} (hx:AR β x v):
  aj P m β H w (oT H x) ((do let y ←Instr.range t v;pure (Next.value y):Sem Next).run P w):=by
 have hu:=Bx ht
 unfold oT
 split
 ·have hv:v=.map none:=hx
  subst hv
  intro hnx
  have hnx':H.nx+1≤m:=hnx
  have hnew:=jY hR hm (by omega) (.oth (.iter none 0 [] 0)) ⟨w.heap.size,0,0,0⟩ (w':=w.alloc (.mapIter none 0 #[] 0)) (Nat.le_refl _) (by simp) rfl rfl rfl
   (fun b hb=>RowKit.Below.heap_alloc w _ b hb) (fun g hg=>hg) ⟨_,aQ _ _ _ _,heap_alloc_new w _⟩
  refine ⟨.pointer (some ⟨w.heap.size,0,none⟩),_,.inl ?_,Out.one ⟨_,aQ _ _ _ _,rfl⟩ hnew⟩
  simp only[Sem.run_bind,run_range_nilMap w t kt et hu,Result.andThen_ok]
  rfl
 ·rename_i id
  obtain ⟨p,hp,rfl⟩:=hx
  split
  ·rename_i es clock hg
   obtain ⟨ms,h1,h2⟩:=mW hR hg hp
   intro hnx
   have hnx':H.nx+1≤m:=hnx
   have hne:¬(id=H.nx∧(0:Nat)=0):=by have:=hR.PX hg;omega
   have hnew:=jY hR hm (by omega) (.oth (.iter (some id) clock [] clock)) ⟨w.heap.size,0,0,0⟩ (w':=w.alloc (.mapIter (some p.b) clock #[] clock)) (Nat.le_refl _) (by simp) rfl rfl rfl
    (fun b hb=>RowKit.Below.heap_alloc w _ b hb) (fun g hg=>hg) ⟨_,aQ _ _ _ _,p,by rw[bN _ _ _ _ hne];exact hp,heap_alloc_new w _⟩
   refine ⟨.pointer (some ⟨w.heap.size,0,none⟩),_,.inl ?_,Out.one ⟨_,aQ _ _ _ _,rfl⟩ hnew⟩
   simp only[Sem.run_bind,run_range_map w t kt et p.b ms.toArray clock hu h1,Result.andThen_ok]
   rfl
  ·exact trivial
 ·exact trivial
theorem ERs.filter {f:bO→Bool} {g:MapEntry→Bool} (hfg:∀ e me,me.born=e.born→f e=g me):∀ {l:List bO} {ms:List MapEntry},ERs β l ms→ERs β (l.filter f) (ms.filter g)
 | [],[],_=>trivial
 | a::l,b::ms,h=>by
  have h1:=hfg a b h.1.2.2.2.2
  have ih:=ERs.filter hfg h.2
  rw[List.filter_cons,List.filter_cons,h1]
  cases g b with
  | true=>exact ⟨h.1,ih⟩
  | false=>exact ih
 | [],_::_,h=>h.elim
 | _::_,[],h=>h.elim
theorem ERs.all {f:bO→Bool} {g:MapEntry→Bool} (hfg:∀ e me,me.born=e.born→f e=g me):∀ {l:List bO} {ms:List MapEntry},ERs β l ms→l.all f=ms.all g
 | [],[],_=>rfl
 | a::l,b::ms,h=>by
  rw[List.all_cons,List.all_cons,hfg a b h.1.2.2.2.2,ERs.all hfg h.2]
 | [],_::_,h=>h.elim
 | _::_,[],h=>h.elim
theorem ERs.isEmpty {l:List bO} {ms:List MapEntry} (h:ERs β l ms):l.isEmpty=ms.isEmpty:=by
 have:=h.length
 cases l <;> cases ms <;> first|rfl|simp at this
theorem tr (hR:Rel m β H w) {id:Nat} {mm:Option Nat} {since last:Nat} {seen:List Nat} (h:H.get id=some (.oth (.iter mm since seen last))) {p:Place} (hp:β id 0=some p):
  match mm with
  | none=>w.heap[p.b]?=some (.mapIter none since seen.toArray last)
  | some i=>∃ q,β i 0=some q∧w.heap[p.b]?=some (.mapIter (some q.b) since seen.toArray last):=by
 obtain ⟨q,hq,h1⟩:=hR.obj id _ h
 rw[hp] at hq;cases hq
 cases mm with
 | none=>exact h1
 | some i=>exact h1
theorem nS {r b since last clock:Nat} {seen:List Nat} {ms:List MapEntry} (ty:TypeId) (h1:w.heap[r]?=some (.mapIter (some b) since seen.toArray last)) (h2:w.heap[b]?=some (.map ms.toArray clock))
  (hc:(!seen.isEmpty&&!ms.isEmpty&&ms.all (fun e=>decide (e.born≥last)))=false) (hold:∀ e∈ms.filter (fun e=>!seen.contains e.born),e.born<since):
  (ms.filter (fun e=>!seen.contains e.born)=[]→(Instr.next (.pointer (some ⟨r,0,none⟩)) false ty).run P w=.ok (.tuple #[.bool false]) w) ∧
  (ms.filter (fun e=>!seen.contains e.born)≠[]→∃ (j:Nat) (e:MapEntry) (w1:World),(ms.filter (fun e=>!seen.contains e.born))[j]?=some e∧w1.heap=w.heap∧w1.os=w.os∧w1.tape=w.tape∧w1.output=w.output ∧
   (Instr.next (.pointer (some ⟨r,0,none⟩)) false ty).run P w=.ok (.tuple #[.bool true,e.key,e.val]) { w1 with heap:=w1.heap.setIfInBounds r (.mapIter (some b) since (seen.toArray.push e.born) clock) }):=by
 have hc':(!seen.toArray.isEmpty&&!ms.toArray.isEmpty&&ms.toArray.all (fun e=>decide (e.born≥last)))=false:=by simpa using hc
 have hf:ms.toArray.filter (fun e=>!seen.toArray.contains e.born)=(ms.filter (fun e=>!seen.contains e.born)).toArray:=by simp
 simp only[Instr.next,Sem.run_bind,gK h1,dt h2,Result.andThen_ok,hc',Bool.false_eq_true,if_false,hf]
 generalize ms.filter (fun e=>!seen.contains e.born)=L at hold
 have e1:L.toArray.filter (fun x=>decide (x.born<since))=L.toArray:=Array.filter_eq_self.2 (fun x hx=>by simpa using hold x (by simpa using hx))
 have e2:L.toArray.filter (fun x=>decide (x.born≥since))=#[]:=by
  rw[Array.filter_eq_empty_iff]
  intro x hx
  have:=hold x (by simpa using hx)
  simp
  omega
 simp only[e1,e2,Array.append_empty]
 refine ⟨fun h0=>?_,fun h0=>?_⟩
 ·subst h0
  simp[choose,Sem.run,Question.forced]
 ·have hne:L.toArray.isEmpty=false:=by cases L with|nil=>exact absurd rfl h0|cons a l=>rfl
  have hpos:0<L.length:=by cases L with|nil=>exact absurd rfl h0|cons a l=>simp
  simp only[hne,Bool.false_eq_true,if_false,Array.empty_append,Array.size_map]
  have hch:∃ (j:Nat) (w1:World),j<L.length∧w1.heap=w.heap∧w1.os=w.os∧w1.tape=w.tape∧w1.output=w.output∧(choose (Question.mapNext L.toArray.size)).run P w=.ok j w1:=by
   by_cases hf:L.length≤1
   ·exact ⟨0,w,hpos,rfl,rfl,rfl,rfl,by simp[choose,Sem.run,Question.forced,hf]⟩
   ·exact ⟨_,w.drew,Nat.mod_lt _ hpos,rfl,rfl,rfl,rfl,by
     simp only[choose,Sem.run,Question.forced,List.size_toArray,decide_eq_true_eq,hf,if_false,Question.cut]
     rfl⟩
  obtain ⟨j,w1,hj,a1,a2,a3,a4,hrun⟩:=hch
  refine ⟨j,L[j],w1,List.getElem?_eq_getElem hj,a1,a2,a3,a4,?_⟩
  have hset:∀ o',(setObj r o').run P w1=.ok () { w1 with heap:=w1.heap.setIfInBounds r o' }:=fun o'=>by
   simp only[setObj,Sem.run,a1,h1]
  simp only[hrun,Result.andThen_ok]
  have hget:(L.toArray.map some)[j]?=some (some L[j]):=by simp[hj]
  simp only[hget,Sem.run_bind,hset,Result.andThen_ok]
  rfl
theorem Tz (hR:Rel m β H w) (hm:m≤m) {x:AV} {v:Value} (hx:AR β x v) (ty:TypeId):
  aj P m β H w (qJ H x) ((do let y ←Instr.next v false ty;pure (Next.value y):Sem Next).run P w):=by
 unfold qJ
 split
 ·rename_i r
  obtain ⟨p,hp,rfl⟩:=hx
  split
  ·rename_i a b c hg
   have h1:=tr hR hg hp
   simp only at h1
   refine aj.same hR (v:=.tuple #[.bool false]) ?_ ⟨[.bool false],⟨rfl,trivial⟩,rfl⟩
   simp[Instr.next,gK h1]
  ·rename_i mi since seen last hg
   obtain ⟨q,hq,h1⟩:=tr hR hg hp
   split
   ·rename_i es clock hgm
    obtain ⟨ms,h2,hE⟩:=mW hR hgm hq
    refine aj.guard fun hcond=>?_
    have hc:(!seen.isEmpty&&!ms.isEmpty&&ms.all (fun e=>decide (e.born≥last)))=false:=by
     rw[←hE.isEmpty,←ERs.all (f:=fun e=>Nat.ble last e.born) (g:=fun e=>decide (e.born≥last)) (fun e me hb=>by rw[hb,Bool.eq_iff_iff];simp) hE]
     cases hq:(!seen.isEmpty&&!es.isEmpty&&es.all (fun e=>Nat.ble last e.born)) with
     | false=>rfl
     | true=>rw[hq] at hcond;cases hcond
    have hfE:ERs β (es.filter fun e=>!seen.contains e.born) (ms.filter fun e=>!seen.contains e.born):=hE.filter fun e me hb=>by rw[hb]
    split
    ·rename_i hnil
     rw[hnil] at hfE
     have hnil':ms.filter (fun e=>!seen.contains e.born)=[]:=by
      cases hms:ms.filter (fun e=>!seen.contains e.born) with
      | nil=>rfl
      | cons=>rw[hms] at hfE;exact hfE.elim
     refine aj.same hR (v:=.tuple #[.bool false]) ?_ ⟨[.bool false],⟨rfl,trivial⟩,rfl⟩
     have:=(nS (P:=P) ty h1 h2 hc (by rw[hnil'];intro e he;cases he)).1 hnil'
     simp only[Sem.run_bind,this,Result.andThen_ok]
     rfl
    ·rename_i e l hcons
     refine aj.guard fun hborn=>?_
     rw[←hcons] at hborn ⊢
     intro hnx
     have hold:∀ e∈ms.filter (fun e=>!seen.contains e.born),e.born<since:=by
      have:=ERs.all (f:=fun e=>Nat.blt e.born since) (g:=fun e=>decide (e.born<since)) (fun e me hb=>by rw[hb,Bool.eq_iff_iff,decide_eq_true_eq];exact ⟨fun h=>Nat.le_of_ble_eq_true h,fun h=>Nat.ble_eq_true_of_le h⟩) hfE
      rw[hborn] at this
      intro e he
      simpa using List.all_eq_true.1 this.symm e he
     have hne:ms.filter (fun e=>!seen.contains e.born)≠[]:=by
      intro h
      rw[h,hcons] at hfE
      exact hfE
     obtain ⟨j,me,w1,hj,a1,a2,a3,a4,hrun⟩:=(nS (P:=P) ty h1 h2 hc hold).2 hne
     have hjl:j<(es.filter fun e=>!seen.contains e.born).length:=by rw[←hfE.length];exact (List.getElem?_eq_some_iff.1 hj).1
     have hje:=List.getElem?_eq_getElem hjl
     obtain ⟨b1,b2,b3,b4,b5⟩:=hfE.at hje hj
     have hmem:(vX ((es.filter fun e=>!seen.contains e.born)[j]).key ((es.filter fun e=>!seen.contains e.born)[j]).val,H.mod r (.oth (.iter (some mi) since (seen++[((es.filter fun e=>!seen.contains e.born)[j]).born]) clock))) ∈
       (es.filter fun e=>!seen.contains e.born).map (fun e=>(vX e.key e.val,H.mod r (.oth (.iter (some mi) since (seen++[e.born]) clock)))):=List.mem_map.2 ⟨_,List.getElem_mem hjl,rfl⟩
     have hnx':H.nx≤m:=hnx _ hmem
     refine ⟨.tuple #[.bool true,me.key,me.val],_,by simp only[Sem.run_bind,hrun,Result.andThen_ok];rfl,_,hmem,β,⟨[.bool true,me.key,me.val],⟨rfl,pf b1 b2,pf b3 b4,trivial⟩,rfl⟩,?_⟩
     refine kz hR hm hnx' hg _ hp w1 a1 a2 a3 a4 _ fun w' hw'=>⟨q,hq,?_⟩
     rw[hw',b5]
     simp
   ·exact trivial
  ·exact trivial
 ·exact trivial
theorem ERs.find {st:Nat}:∀ {l:List bO} {ms:List MapEntry},ERs β l ms→∀ {e:bO},l.find? (fun e=>Nat.beq e.born st)=some e →
  ∃ me,ms.find? (fun e=>e.born==st)=some me∧AR β e.key me.key∧e.key.bA=true∧AR β e.val me.val∧e.val.bA=true
 | [],[],_,e,h=>by cases h
 | a::l,b::ms,hE,e,h=>by
  rw[List.find?_cons] at h ⊢
  have hb:(b.born==st)=Nat.beq a.born st:=by rw[hE.1.2.2.2.2,Bool.eq_iff_iff,beq_iff_eq,Nat.beq_eq]
  rw[hb]
  cases hq:Nat.beq a.born st with
  | true=>
   rw[hq] at h
   cases h
   exact ⟨b,rfl,hE.1.1,hE.1.2.1,hE.1.2.2.1,hE.1.2.2.2.1⟩
  | false=>
   rw[hq] at h
   exact ERs.find hE.2 h
 | [],_::_,hE,_,_=>hE.elim
 | _::_,[],hE,_,_=>hE.elim
theorem Qx (hR:Rel m β H w) {x:AV} {v:Value} (hx:AR β x v):
  aj P m β H w (my H x) ((do let y ←Instr.entry v;pure (Next.value y):Sem Next).run P w):=by
 unfold my
 split
 ·rename_i r
  obtain ⟨p,hp,rfl⟩:=hx
  split
  ·rename_i mi since seen stepped hg
   obtain ⟨q,hq,h1⟩:=tr hR hg hp
   split
   ·rename_i es clock hgm
    obtain ⟨ms,h2,hE⟩:=mW hR hgm hq
    split
    ·rename_i st hst
     refine aj.guard fun hcl=>?_
     have hcl:clock=stepped:=Nat.eq_of_beq_eq_true hcl
     subst hcl
     split
     ·rename_i e hfe
      obtain ⟨me,hme,b1,b2,b3,b4⟩:=hE.find hfe
      refine aj.same hR (v:=.tuple #[me.key,me.val]) ?_ ⟨[me.key,me.val],⟨pf b1 b2,pf b3 b4,trivial⟩,rfl⟩
      simp[Instr.entry,gK h1,dt h2,hst,hme]
     ·exact trivial
    ·exact trivial
   ·exact trivial
  ·exact trivial
 ·exact trivial
end
section
variable {P:Program} {m:Nat} {β:Pl} {H:Hp} {w:World} {tm:PT AV} {r:Result Next}
theorem SF.nd {α:Type} {o:Option α} {s:String} {f:α→SF} (h:∀ a,o=some a→aj P m β H w ((f a).run tm H) r):aj P m β H w ((ndF o s f).run tm H) r:=by
 cases o with
 | none=>exact trivial
 | some a=>exact h a rfl
theorem SF.ifE {b:Bool} {s:String} {f:SF} (h:b=true→aj P m β H w (f.run tm H) r):aj P m β H w ((ifE b f (jW s)).run tm H) r:=by
 cases b with
 | false=>exact trivial
 | true=>exact h rfl
theorem kI {α:Type} {a:Array α} {x y:α} (h:a.toList=[x,y]):a=#[x,y]:=by
 apply Array.ext'
 simpa using h
theorem KF {α γ:Type} (f:α→γ) (x y:α):(#[x,y]:Array α).map f=#[f x,f y]:=by simp
theorem Tv {α γ:Type} (f:α→γ) (x:α):(#[x]:Array α).map f=#[f x]:=by simp
theorem ux {α:Type} {a:Array α} {x:α} (h:a.toList=[x]):a=#[x]:=by
 apply Array.ext'
 simpa using h
theorem HU (hR:Rel m β H w) (hm:m≤m) {a:Act} (htm:∀ t,AR β (ay (tm.get t) aG fun v=>v) (a.tmps.getD t undef)) (o:Oper) (c:Call) (b:Builtin) (ho:o.op=.call c) (hc:c.callee=.builtin b):
  aj P m β H w ((iu P o b c.args.toList c.argTypes.toList).run tm H) ((execOp a.eval o).run P w):=by
 obtain ⟨cs,he⟩:∃ cs,execOp a.eval o=builtin b c.argTypes o.type cs (c.args.map a.eval):=by
  refine ⟨c.args.map fun|.const _=>true|_=>false,?_⟩
  obtain ⟨dst,op,type,pos,after,guard⟩:=o
  cases ho
  cases c
  cases hc
  rfl
 have hp:=Ez (P:=P) hR htm o (by intro cs bb h;rw[ho] at h;cases h)
 unfold iu
 split
 ·rename_i s x t t2 h1 h2
  refine SF.ifE fun hq=>?_
  have:=Nat.eq_of_beq_eq_true hq
  subst this
  rw[he,kI h1,kI h2,KF]
  exact My (P:=P) (t:=t) hR hm o.type (bM htm s) (bM htm x)
 ·rename_i d s t t2 h1 h2
  refine SF.ifE fun hq=>?_
  have:=Nat.eq_of_beq_eq_true hq
  subst this
  rw[he,kI h1,kI h2,KF]
  exact TD (P:=P) (t:=t) (ty:=o.type) hR hm (bM htm d) (bM htm s)
 ·rename_i x t h1 h2
  refine SF.nd fun k hk=>?_
  rw[he,ux h1,ux h2,Tv]
  exact UN (P:=P) (t:=t) (ty:=o.type) hR hk (bM htm x)
 ·exact hp
 ·exact hp
 ·exact trivial
theorem RJ (hR:Rel m β H w) (hm:m≤m) {a:Act} (htm:∀ t,AR β (ay (tm.get t) aG fun v=>v) (a.tmps.getD t undef)) (o:Oper) (c:Call) (ho:o.op=.call c):
  aj P m β H w ((rX P o c).run tm H) ((execOp a.eval o).run P w):=by
 unfold rX
 split
 ·rename_i f hc
  have he:execOp a.eval o=(do let d ←Deferred.ofValue (a.eval f) (c.args.toList.map a.eval).toArray;invoke d.target d.args):=by
   obtain ⟨dst,op,type,pos,after,guard⟩:=o
   cases ho
   cases c
   cases hc
   rw[←Array.toList_map,Array.toArray_toList]
   rfl
  rw[he]
  exact Sh (bM htm f) (Is htm c.args.toList)
 ·rename_i b hc
  exact HU hR hm htm o c b ho hc
 ·exact trivial
theorem Td (hR:Rel m β H w) (hm:m≤m) {a:Act} (htm:∀ t,AR β (ay (tm.get t) aG fun v=>v) (a.tmps.getD t undef)) (o:Oper):
  aj P m β H w (Ol P tm H o) ((execOp a.eval o).run P w):=by
 have hp:=fun hs=>Ez (P:=P) hR htm o hs
 have hcl:=fun c hc=>RJ (P:=P) hR hm htm o c hc
 obtain ⟨dst,op,type,pos,after,guard⟩:=o
 unfold Ol
 cases op with
 | move x=>exact Jv hR htm x
 | assign x=>exact Jv hR htm x
 | pick c x y=>exact SQ hR htm c x y
 | alloc e=>exact SF.nd fun z hz=>Pk hR hm hz
 | box e x=>exact Ux hR hm e (bM htm x)
 | build t parts=>exact SF.nd fun z hz=>SF.nd fun pl hpl=>SF.nd fun ps hps=>QD hR htm hz hpl hps
 | buildSlice t len parts=>exact SF.nd fun es hes=>SF.nd fun z hz=>SF.ifE fun hg=>SF.nd fun ps hps=>wx hR hm htm hes hz (Nat.le_of_ble_eq_true (ah hg).1) (by rw[←bq];exact Nat.eq_of_beq_eq_true (ah hg).2) hps
 | load t x=>exact SF.nd fun p hl=>Sa hR (a:=p.1) (n:=p.2) hl (bM htm x)
 | store t x y=>exact SF.nd fun n hn=>Ro hR hm hn (bM htm y) (bM htm x)
 | nilCheck x=>exact GU hR (bM htm x) _ rfl
 | binOp op t x y c=>exact UF hR (bM htm x) (bM htm y) (hp (by simp))
 | unOp op t x=>exact VI hR (bM htm x) (hp (by simp))
 | convert s d x=>exact hp (by simp)
 | fieldAddr s x f=>exact SF.nd fun p hf=>Bk hR (ft:=p.2.1) hf (bM htm x)
 | field t x f=>exact SF.nd fun p hf=>SF.nd fun b hb=>OO hR (ft:=p.2.1) hf hb (bM htm x)
 | indexAddr t x i=>exact SF.nd fun p hf=>BH hR (e:=p.1) hf (bM htm x) (bM htm i)
 | index t x i=>exact PQ hR (bM htm x) (bM htm i) (hp (by simp))
 | slice t x lo hi mx=>
  cases mx with
  | some _=>exact trivial
  | none=>
   cases he:bk P t with
   | none=>
    have:aq P ⟨dst,.slice t x lo hi none,type,pos,after,guard⟩=.mk fun tm h=>ax P tm h ⟨dst,.slice t x lo hi none,type,pos,after,guard⟩:=by
     simp[aq,he]
    rw[this]
    exact hp (by simp)
   | some p=>
    have:aq P ⟨dst,.slice t x lo hi none,type,pos,after,guard⟩=.mk fun tm h=>de h p.2 ((opF x).ev tm) (lo.map (ev tm)) (hi.map (ev tm)) (ax P tm h ⟨dst,.slice t x lo hi none,type,pos,after,guard⟩):=by
     simp[aq,he]
    rw[this]
    exact Ri hR htm (e:=p.1) he (hp (by simp))
 | extract x i=>exact Ir hR (bM htm x) i
 | makeFunc fn first caps=>
  cases fn with
  | func f=>
   refine SF.ifE fun hg=>?_
   have:first=#[]:=by simpa using hg
   subst this
   exact DJ hR htm f caps
  | _=>exact trivial
 | makeMap t r=>
  cases r with
  | some _=>exact trivial
  | none=>exact II hR hm t
 | makeSlice t l c=>exact BX hR hm (bM htm l) (bM htm c)
 | lookup t x k ok=>exact SF.nd fun p ht=>SF.nd fun z hz=>MT hR (kt:=p.1) (et:=p.2) ht hz (bM htm x) (bM htm k) ok
 | mapUpdate t x k y=>exact SF.nd fun p ht=>oQ hR hm (kt:=p.1) (et:=p.2) ht (bM htm x) (bM htm k) (bM htm y)
 | insert t x k y=>exact SF.nd fun p ht=>oQ hR hm (kt:=p.1) (et:=p.2) ht (bM htm x) (bM htm k) (bM htm y)
 | range t x=>exact SF.nd fun p ht=>QX hR hm (kt:=p.1) (et:=p.2) ht (bM htm x)
 | next x b=>
  cases b with
  | true=>exact trivial
  | false=>exact Tz hR hm (bM htm x) type
 | entry x=>exact Qx hR (bM htm x)
 | call c=>exact hcl c rfl
 | _=>exact trivial
end
def lK (β:Pl):List Nat→List Deferred→Prop
 | [],[]=>True
 | i::l,d::ds=>(∃ p,β i 0=some p∧d={ target:=.collected p.b,args:=#[] })∧lK β l ds
 | _,_=>False
structure gA (β:Pl) (A:ab) (a:Act):Prop where
 tm:TmR β A.tm A.nt a.tmps
 df:lK β A.dfr a.defers
def kC (β:Pl) (r:Option Nat) (rB:Option Nat):Prop:=
 match r with
 | none=>rB=none
 | some l=>∃ p,β l 0=some p∧rB=some p.b
def fen (rB:Option Nat):Fence:={ fn:=fun _=>True,depth:=none,alive:=false,round:=rB }
def XR:aE→Exit→Prop
 | .normal,.normal=>True
 | .exit i,.exit j=>i=j
 | .ret,.ret=>True
 | _,_=>False
def fO (m:Nat) (β:Pl) (H:Hp) (w:World) (outs:List (aE×ab×Hp)) (e:Exit) (a':Act) (w':World):Prop:=
 ∃ x,x∈outs∧XR x.1 e∧∃ β',gA β' x.2.1 a'∧Rel m β' x.2.2 w'∧Ext β H w β' x.2.2 w'
def Kr (m:Nat) (β:Pl) (H:Hp) (w:World) (outs:List (ab×Hp)) (a':Act) (w':World):Prop:=
 ∃ x,x∈outs∧∃ β',gA β' x.1 a'∧Rel m β' x.2 w'∧Ext β H w β' x.2 w'
def lT (m:Nat) (β:Pl) (H:Hp) (w:World) (outs:List (AV×Hp)) (e:Ending) (w':World):Prop:=∃ v,e=.returned v∧Out m β H w outs v w'
structure AU (P:Program) (N:Nat) (rec:Rec):Prop where
 code:∀ {m:Nat} {β:Pl} {H:Hp} {w:World} {r rB:Option Nat} {A:ab} {a:Act} {c:Code} {outs:List (aE×ab×Hp)},m≤m→Rel m β H w→gA β A a→kC β r rB →
  rec.code r c A H=.ok outs→(∀ x∈outs,nE x≤m)→c.wpIn (fen rB) 0 P (fO m β H w outs) a w∧∀ x,c=.loop x→Code.roundsIn (fen rB) 0 P x (fO m β H w outs) N a w
 call:∀ {m:Nat} {β:Pl} {H:Hp} {w:World} {f:FuncId} {args:List AV} {vs:List Value} {outs:List (AV×Hp)},m≤m→Rel m β H w→ARs β args vs →
  rec.call f args H=.ok outs→(∀ x∈outs,nV x≤m)→CallsIn Fence.wide 0 P f vs.toArray w (lT m β H w outs)
structure vR (E:Env):Prop where
 name:∀ (f:FuncId) (fn:Func),E.P.funcs[f]?=some fn→fn.body.isSome=true→(fn.name == "runtime.NumGoroutine")=false
 mixed:E.P.follows .mixedOrders=true
 fL:∀ (f:FuncId) (args:List AV) (v:AV),E.fL f args=some v→∀ (β:Pl) (vs:List Value) (w:World),ARs β args vs →
  CallsIn Fence.wide 0 E.P f vs.toArray w fun e w'=>∃ u,e=.returned u∧AR β v u∧w'.os=w.os∧w'.tape=w.tape∧w'.output=w.output∧w.heap.size≤w'.heap.size∧∀ b,b<w.heap.size→w'.heap[b]?=w.heap[b]?
theorem lK.mono {β β':Pl} (hs:Sub β β'):∀ {l:List Nat} {ds:List Deferred},lK β l ds→lK β' l ds
 | [],[],_=>trivial
 | _::_,_::_,h=>⟨by obtain ⟨p,hp,hd⟩:=h.1;exact ⟨p,hs _ _ _ hp,hd⟩,lK.mono hs h.2⟩
 | [],_::_,h=>h.elim
 | _::_,[],h=>h.elim
theorem gA.mono {β β':Pl} (hs:Sub β β') {A:ab} {a:Act} (h:gA β A a):gA β' A a:=⟨h.tm.mono hs,h.df.mono hs⟩
theorem kC.mono {β β':Pl} (hs:Sub β β') {r rB:Option Nat} (h:kC β r rB):kC β' r rB:=by
 cases r with
 | none=>exact h
 | some l=>obtain ⟨p,hp,h⟩:=h;exact ⟨p,hs _ _ _ hp,h⟩
theorem Rel.grown {m:Nat} {β:Pl} {H:Hp} {w w':World} (hR:Rel m β H w) (hw:∀ b,b<w.heap.size→w'.heap[b]?=w.heap[b]?):Rel m β H w' where
 obj:=fun id o ho=>fN.mono (fun _ _ _ h=>h) (hR.obj id o ho) (fun _=>rfl) fun g p hg hp=>hw _ ((hR.obj id o ho).lt hg hp)
 sep:=hR.sep
 wf:=hR.wf
 free:=hR.free
theorem Ext.grown {β:Pl} {H:Hp} {w w':World} (h1:w'.os=w.os) (h2:w'.tape=w.tape) (h3:w'.output=w.output) (h4:w.heap.size≤w'.heap.size) (hw:∀ b,b<w.heap.size→w'.heap[b]?=w.heap[b]?):Ext β H w β H w':=
 { Ext.refl β H w with size:=h4,os:=h1,tape:=h2,output:=h3,frame:=fun b hb _=>hw b hb,far:=fun _ _ b hb _=>hw b hb,prov:=fun id o g p a b c=>.inr ⟨o,g,p,a,b,c,rfl,rfl⟩ }
theorem TmR.put {β:Pl} {tm:PT AV} {nt:Nat} {tmps:Array Value} (h:TmR β tm nt tmps) {d:Nat} (hd:d<nt) {v:AV} {u:Value} (hv:AR β v u):TmR β (tm.set d v) nt (tmps.setIfInBounds d u):=by
 obtain ⟨h1,h2,h3⟩:=h
 refine ⟨by simp[h1],h2,fun t=>?_⟩
 rw[PT.mD _ _ _ _ (by omega)]
 by_cases ht:t=d
 ·subst ht
  rw[if_pos rfl]
  have:(tmps.setIfInBounds t u).getD t undef=u:=by simp[h1,hd]
  rw[this]
  exact hv
 ·rw[if_neg ht]
  have:(tmps.setIfInBounds d u).getD t undef=tmps.getD t undef:=by
   simp only[Array.getD_eq_getD_getElem?]
   rw[Array.getElem?_setIfInBounds_ne (fun h=>ht h.symm)]
  rw[this]
  exact h3 t
theorem gA.put {β:Pl} {A:ab} {a:Act} (h:gA β A a) {v:AV} {u:Value} (hv:AR β v u) {H:Hp} {dst:Option Tmp} {k:ab→Hp→R (ab×Hp)} {outs:List (ab×Hp)} (hk:fK A dst v H k=.ok outs):
  ∃ A',k A' H=.ok outs∧gA β A' (a.put dst u):=by
 cases dst with
 | none=>exact ⟨A,hk,h⟩
 | some d=>
  have hk':ifE (Nat.blt d A.nt) (k (A.put d v) H) (.bad "slot")=.ok outs:=hk
  rw[bV] at hk'
  split at hk'
  ·rename_i hd
   exact ⟨_,hk',h.tm.put (Nat.le_of_ble_eq_true hd) hv,h.df⟩
  ·cases hk'
theorem pJ (β:Pl):AR β aG undef:=⟨[],trivial,rfl⟩
section
variable {E:Env} (hE:vR E) {N:Nat} {rec:Rec} (hrec:AU E.P N rec)
theorem oN {P:Program} (hn:∀ (f:FuncId) (fn:Func),P.funcs[f]?=some fn→fn.body.isSome=true→(fn.name == "runtime.NumGoroutine")=false) {f:FuncId} (hb:al P f=true) (args:Array Value) (w:World):
  (callFunc f args).run P w=.ok (.enter f args) w:=by
 unfold al at hb
 cases hf:P.funcs[f]? with
 | none=>rw[hf] at hb;cases hb
 | some fn=>
  rw[hf] at hb
  have hb':fn.body.isSome=true:=hb
  have h1:=hn f fn hf hb'
  obtain ⟨c,hq⟩:=Option.isSome_iff_exists.1 hb'
  have h1':fn.name ≠ "runtime.NumGoroutine" := by simpa using h1
  simp[callFunc,hf,h1',hq]
include hE hrec
theorem RP {m:Nat} {β:Pl} {H:Hp} {w:World} (hm:m≤m) (hR:Rel m β H w) {f:FuncId} {args:List AV} {vs:List Value} (ha:ARs β args vs) {outs:List (AV×Hp)} (h:mr E rec f args H=.ok outs) (hb:∀ x∈outs,nV x≤m):
  CallsIn Fence.wide 0 E.P f vs.toArray w (lT m β H w outs):=by
 unfold mr at h
 cases hp:E.fL f args with
 | none=>rw[hp] at h;exact hrec.call hm hR ha h hb
 | some v=>
  rw[hp] at h
  cases h
  refine CallsIn.mono (hE.fL f args v hp β vs w ha) fun e w' he=>?_
  obtain ⟨u,rfl,hu,h1,h2,h3,h4,h5⟩:=he
  exact ⟨u,rfl,_,List.mem_singleton.2 rfl,β,hu,hR.grown h5,Ext.grown h1 h2 h3 h4 h5⟩
end
theorem RG.lD {α:Type} {k m:Nat} {nx:α→Nat} {r:R α} (h:RG k nx r) {o outs:List α} (ho:r=.ok o) (hs:∀ y∈o,y∈outs) (hb:∀ x∈outs,nx x≤m):k≤m:=by
 obtain ⟨h1,h2⟩:=h o ho
 cases o with
 | nil=>exact absurd rfl h1
 | cons x l=>exact Nat.le_trans (h2 x (List.mem_cons_self ..)) (hb x (hs x (List.mem_cons_self ..)))
theorem Kr.ext {m:Nat} {β β':Pl} {H H':Hp} {w w':World} (hx:Ext β H w β' H' w') {outs outs':List (ab×Hp)} (hs:∀ y∈outs,y∈outs') {a:Act} {w'':World} (h:Kr m β' H' w' outs a w''):Kr m β H w outs' a w'':=by
 obtain ⟨x,hxm,b,h1,h2,h3⟩:=h
 exact ⟨x,hs x hxm,b,h1,h2,hx.trans h3⟩
theorem fO.ext {m:Nat} {β β':Pl} {H H':Hp} {w w':World} (hx:Ext β H w β' H' w') {outs outs':List (aE×ab×Hp)} (hs:∀ y∈outs,y∈outs') {e:Exit} {a:Act} {w'':World} (h:fO m β' H' w' outs e a w''):fO m β H w outs' e a w'':=by
 obtain ⟨x,hxm,h0,b,h1,h2,h3⟩:=h
 exact ⟨x,hs x hxm,h0,b,h1,h2,hx.trans h3⟩
theorem uD {β:Pl} {tm:PT AV} {nt:Nat} {tmps:Array Value} (htm:TmR β tm nt tmps) {ops:Array Oper} {o:Oper} {yes no:R (ab×Hp)} {outs:List (ab×Hp)} (h:bC tm (gOf ops.toList o.guard) yes no=.ok outs):
  (Region.wanted o (yielded ops tmps)=true∧yes=.ok outs)∨(Region.wanted o (yielded ops tmps)=false∧no=.ok outs):=by
 unfold Region.wanted
 cases hg:o.guard with
 | none=>rw[hg] at h;exact .inl ⟨rfl,h⟩
 | some p=>
  obtain ⟨j,want⟩:=p
  rw[hg] at h
  have key:∀ y:Option Bool,yielded ops tmps j=y→(yielded ops tmps j==some want)=(y==some want):=fun y hy=>by rw[hy]
  unfold gOf at h
  simp only[Array.getElem?_toList] at h
  cases hj:ops[j]? with
  | none=>
   rw[hj] at h
   refine .inr ⟨?_,h⟩
   show (yielded ops tmps j==some want)=false
   rw[key none (by simp[yielded,hj])]
   rfl
  | some oj=>
   rw[hj] at h
   cases hd:oj.dst with
   | none=>
    simp only[hd] at h
    refine .inr ⟨?_,h⟩
    show (yielded ops tmps j==some want)=false
    rw[key none (by simp[yielded,hj,hd])]
    rfl
   | some t=>
    simp only[hd] at h
    have hv:=htm.2.2 t
    have hy:∀ u,tmps.getD t undef=u→(∀ b,u≠.bool b)→(yielded ops tmps j==some want)=false:=by
     intro u hu hb
     rw[key none]
     ·rfl
     ·simp only[yielded,hj,hd,Option.bind_some]
      cases ht:tmps[t]? with
      | none=>rfl
      | some x=>
       have:x=u:=by rw[←hu];simp[Array.getD_eq_getD_getElem?,ht]
       subst this
       cases x <;> first|rfl|exact absurd rfl (hb _)
    have hyb:∀ b,tmps.getD t undef=.bool b→(yielded ops tmps j==some want)=(b==want):=by
     intro b hb
     rw[key (some b)]
     ·rfl
     ·simp only[yielded,hj,hd,Option.bind_some]
      cases ht:tmps[t]? with
      | none=>simp[Array.getD_eq_getD_getElem?,ht,undef] at hb
      | some x=>
       have:x=.bool b:=by rw[←hb];simp[Array.getD_eq_getD_getElem?,ht]
       subst this
       rfl
    show ((yielded ops tmps j==some want)=true∧_)∨((yielded ops tmps j==some want)=false∧_)
    cases ht:tm.get t with
    | none=>
     rw[ht] at hv
     have h':no=.ok outs:=by simpa [bC,ay,ht] using h
     obtain ⟨vs,_,hu⟩:=hv
     exact .inr ⟨hy _ hu (by simp),h'⟩
    | some v=>
     rw[ht] at hv
     have h':AV.rec (motive:=fun _=>R (ab×Hp)) (fun c=>acE c (fun b=>ifE b (ifE want yes no) (ifE want no yes)) (fun _ _=>no) (fun _=>.bad "guard")) (fun _=>no) (fun _=>no) (.bad "guard") v=.ok outs:=by
      simpa [bC,ay,ht] using h
     cases v with
     | one c=>
      cases c with
      | b b=>
       rw[hyb b hv]
       cases b <;> cases want <;> first|exact .inl ⟨rfl,h'⟩|exact .inr ⟨rfl,h'⟩
      | i k n=>
       have hv':tmps.getD t undef=.int k n:=hv
       exact .inr ⟨hy _ hv' (by simp),h'⟩
      | o q=>cases h'
     | agg l=>
      obtain ⟨vs,_,hu⟩:=hv
      exact .inr ⟨hy _ hu (by simp),h'⟩
     | tup l=>
      obtain ⟨vs,_,hu⟩:=hv
      exact .inr ⟨hy _ hu (by simp),h'⟩
     | any=>cases h'
theorem qc {β:Pl} {nt:Nat}:∀ (ps:List Tmp) (args:List AV) (vs:List Value) (tm:PT AV) (tmps:Array Value),TmR β tm nt tmps→ARs β args vs→(∀ p∈ps,p<nt)→args.length=ps.length →
  TmR β (eG ps args tm) nt ((ps.zip vs).foldl (fun tmps (t,a)=>tmps.setIfInBounds t a) tmps)
 | [],[],[],tm,tmps,h,_,_,_=>h
 | p::ps,x::args,v::vs,tm,tmps,h,ha,hp,hl=>by
  refine qc ps args vs _ _ (h.put (hp p (List.mem_cons_self ..)) ha.1) ha.2 (fun q hq=>hp q (List.mem_cons_of_mem _ hq)) (by simpa using hl)
 | _,[],_::_,_,_,_,ha,_,_=>ha.elim
 | _,_::_,[],_,_,_,ha,_,_=>ha.elim
 | [],_::_,_,_,_,_,_,_,hl=>by simp at hl
 | _::_,[],_,_,_,_,_,_,hl=>by simp at hl
theorem dM {P:Program} {w:World} {l:Nat} {r:Loop} (h:w.heap[l]?=some (.loop r)):(Instr.getLoop l).run P w=.ok r w:=by
 simp[Instr.getLoop,getObj,Sem.run,h]
theorem gG {P:Program} {w:World} {l:Nat} {r:Loop} (o:Obj) (h:w.heap[l]?=some (.loop r)):(setObj l o).run P w=.ok () { w with heap:=w.heap.setIfInBounds l o }:=by
 simp[setObj,Sem.run,h]
theorem lV {m:Nat} {β:Pl} {H:Hp} {w:World} (hR:Rel m β H w) {id:Nat} {st:LoopState} {pe:Option Code} {tm:PT AV} {nt:Nat} {ps:List Tmp} {as bo:Code} {d:Nat} (h:H.get id=some (.oth (.loop st pe tm nt ps as bo d))) {p:Place} (hp:β id 0=some p):
  ∃ q fn tmps,β d 0=some q∧TmR β tm nt tmps∧w.heap[p.b]?=some (.loop { state:=st,pending:=pe,fn:=fn,tmps:=tmps,params:=ps.toArray,assign:=as,body:=bo,defers:=q.b }):=by
 obtain ⟨q,hq,h1⟩:=hR.obj id _ h
 rw[hp] at hq;cases hq
 exact h1
section
variable {E:Env} {N:Nat} {rec:Rec} (hrec:AU E.P N rec) (hmon:RecM rec)
include hrec hmon
theorem QC {m:Nat} {β:Pl} {H:Hp} {w:World} (hm:m≤m) (hR:Rel m β H w) {id:Nat} {p:Place} {args:List AV} {vs:List Value} {outs:List (AV×Hp)} (rB:Option Nat) (hp:β id 0=some p) (ha:ARs β args vs)
  (h:fm rec id args H=.ok outs) (hb:∀ x∈outs,nV x≤m):
  ∃ fn tmps as bo,(Instr.yield p.b vs.toArray).run E.P w=.ok (.round p.b fn tmps as bo) w∧RoundIn (fen rB) 0 E.P p.b fn tmps as bo w (lT m β H w outs):=by
 unfold fm at h
 split at h
 ·rename_i pe tm nt ps as bo d hg
  rw[bV] at h
  split at h
  ·rename_i hc
   obtain ⟨q,fn,tmps,hq,htm,hw⟩:=lV hR hg hp
   have hlen:args.length=ps.length:=Nat.eq_of_beq_eq_true (ah hc).1
   have hps:∀ t∈ps,t<nt:=fun t ht=>Nat.le_of_ble_eq_true (List.all_eq_true.1 (ah hc).2 t ht)
   have hvl:vs.length=ps.length:=by rw[ha.length,hlen]
   obtain ⟨l,hl,hmid⟩:=R.dT h
   have hbl:∀ x∈l,nE x≤m:=fun x hx=>by
    obtain ⟨o,ho,hs⟩:=hmid x hx
    exact RG.lD (rS hmon (Nat.le_refl _)) ho hs hb
   refine ⟨fn,(ps.zip vs).foldl (fun tmps (t,a)=>tmps.setIfInBounds t a) tmps,as,bo,?_,?_⟩
   ·have hz:(ps.toArray.zip vs.toArray).foldl (fun tmps (x:Tmp×Value)=>tmps.setIfInBounds x.1 x.2) tmps=(ps.zip vs).foldl (fun tmps (x:Tmp×Value)=>tmps.setIfInBounds x.1 x.2) tmps:=by simp
    simp[Instr.yield,dM hw,hvl]
   ·refine roundIn_of_wpIn trivial ?_
    have htm':=qc ps args vs tm tmps htm ha hps hlen
    have hact:gA β ⟨eG ps args tm,nt,[]⟩ { tmps:=(ps.zip vs).foldl (fun tmps (t,a)=>tmps.setIfInBounds t a) tmps,defers:=[] }:=⟨htm',trivial⟩
    have hround:kC β (some id) (some p.b):=⟨p,hp,rfl⟩
    refine Go.wpIn_mono (hrec.code hm hR hact hround hl hbl).1 ?_
    intro e a1 w1 hpost
    obtain ⟨x,hx,hxr,β1,hact1,hR1,hext1⟩:=hpost
    obtain ⟨o,ho,hs⟩:=hmid x hx
    have hp1:=hext1.sub _ _ _ hp
    unfold eC at ho
    split at ho
    ·rename_i pe1 tm1 nt1 ps1 as1 bo1 d1 hx1 hg1
     have he:e=.normal:=by
      rw[hx1] at hxr
      cases e <;> first|rfl|exact hxr.elim
     subst he
     obtain ⟨q1,fn1,tmps1,hq1,htm1,hw1⟩:=lV hR1 hg1 hp1
     obtain ⟨l2,hl2,hend⟩:=R.dT ho
     have hbl2:∀ y∈l2,nE y≤m:=fun y hy=>by
      obtain ⟨o2,ho2,hs2⟩:=hend y hy
      exact RG.lD (rN (Nat.le_refl _)) ho2 (fun z hz=>hs z (hs2 z hz)) hb
     have hmod:=kz hR1 hm (hbl x hx) hg1 (.loop .busy pe1 tm1 nt1 ps1 as1 bo1 d1) hp1 w1 rfl rfl rfl rfl (.loop { state:=.busy,pending:=pe1,fn:=fn1,tmps:=tmps1,params:=ps1.toArray,assign:=as1,body:=bo1,defers:=q1.b })
      (fun w' hw'=>⟨q1,fn1,tmps1,hq1,htm1,hw'⟩)
     refine ⟨_,by simp only[Instr.beginRound,Sem.run_bind,dM hw1,Result.andThen_ok,gG _ hw1];rfl,?_⟩
     have hround1:kC β1 (some id) (some p.b):=⟨p,hp1,rfl⟩
     refine Go.wpIn_mono (hrec.code hm hmod.1 hact1 hround1 hl2 hbl2).1 ?_
     intro e2 a2 w2 hpost2
     obtain ⟨y,hy,hyr,β2,hact2,hR2,hext2⟩:=hpost2
     obtain ⟨o2,ho2,hs2⟩:=hend y hy
     have hp2:=hext2.sub _ _ _ hp1
     have hext:=hext1.trans (hmod.2.trans hext2)
     unfold iJ at ho2
     split at ho2
     ·rename_i st3 pe3 tm3 nt3 ps3 as3 bo3 d3 hd3 hg3
      obtain ⟨q3,fn3,tmps3,hq3,htm3,hw3⟩:=lV hR2 hg3 hp2
      have hny:nE y≤m:=hbl2 y hy
      have fin:∀ (st:LoopState) (pe:Option Code),Rel m β2 (y.2.2.mod id (.oth (.loop st pe tm3 nt3 ps3 as3 bo3 d3))) { w2 with heap:=w2.heap.setIfInBounds p.b (.loop { state:=st,pending:=pe,fn:=fn3,tmps:=tmps3,params:=ps3.toArray,assign:=as3,body:=bo3,defers:=q3.b }) } ∧
        Ext β2 y.2.2 w2 β2 (y.2.2.mod id (.oth (.loop st pe tm3 nt3 ps3 as3 bo3 d3))) { w2 with heap:=w2.heap.setIfInBounds p.b (.loop { state:=st,pending:=pe,fn:=fn3,tmps:=tmps3,params:=ps3.toArray,assign:=as3,body:=bo3,defers:=q3.b }) }:=fun st pe=>
       kz hR2 hm hny hg3 (.loop st pe tm3 nt3 ps3 as3 bo3 d3) hp2 w2 rfl rfl rfl rfl _ (fun w' hw'=>⟨q3,fn3,tmps3,hq3,htm3,hw'⟩)
      split at ho2
      ·rename_i hy1
       cases ho2
       have he2:e2=.normal:=by
        rw[hy1] at hyr
        cases e2 <;> first|rfl|exact hyr.elim
       subst he2
       have hf:=fin .ready none
       refine ⟨.bool true,_,by simp only[Instr.endRound,Sem.run_bind,dM hw3,Result.andThen_ok,gG _ hw3];rfl,?_⟩
       exact ⟨.bool true,rfl,_,hs _ (hs2 _ (List.mem_singleton.2 rfl)),β2,rfl,hf.1,hext.trans hf.2⟩
      ·rename_i hy1
       cases ho2
       have he2:e2=.ret:=by
        rw[hy1] at hyr
        cases e2 <;> first|rfl|exact hyr.elim
       subst he2
       have hf:=fin .done (some .ret)
       refine ⟨.bool false,_,by simp only[Instr.endRound,Sem.run_bind,dM hw3,Result.andThen_ok,gG _ hw3];rfl,?_⟩
       exact ⟨.bool false,rfl,_,hs _ (hs2 _ (List.mem_singleton.2 rfl)),β2,rfl,hf.1,hext.trans hf.2⟩
      ·rename_i k hy1
       cases ho2
       have he2:e2=.exit k:=by
        rw[hy1] at hyr
        cases e2 with
        | exit j=>have:k=j:=hyr;rw[this]
        | _=>exact hyr.elim
       subst he2
       have hf:=fin .done (some (.exit k))
       refine ⟨.bool false,_,by simp only[Instr.endRound,Sem.run_bind,dM hw3,Result.andThen_ok,gG _ hw3];rfl,?_⟩
       exact ⟨.bool false,rfl,_,hs _ (hs2 _ (List.mem_singleton.2 rfl)),β2,rfl,hf.1,hext.trans hf.2⟩
     ·cases ho2
    ·cases ho
  ·cases h
 ·cases h
end
theorem Rc (E:Env) (rec:Rec) (a:ab) (dst:Option Tmp) (h:Hp) (k:ab→Hp→R (ab×Hp)) (n:ae):nz E rec a dst h k n=(ig E rec h n).bind fun x=>fK a dst x.1 x.2 k:=by
 cases n <;> rfl
theorem uw {P:Program} {o:Oper} {c:Call} (ho:o.op=.defer c):aq P o=jW "operation" := by
 obtain ⟨dst,op,type,pos,after,guard⟩:=o
 cases ho
 rfl
section
variable {E:Env} (hE:vR E) {N:Nat} {rec:Rec} (hrec:AU E.P N rec) (hmon:RecM rec)
include hE hrec hmon
theorem TJ {m:Nat} {β:Pl} {H:Hp} {w:World} (hm:m≤m) (hR:Rel m β H w) {n:ae} {r:Result Next} (hn:aj E.P m β H w n r) {outs:List (AV×Hp)} (h:ig E rec H n=.ok outs) (hb:∀ x∈outs,nV x≤m)
  {o:Oper} {a:Act} {rB:Option Nat} {next:Act→World→Prop} {Q:Exit→Act→World→Prop} (hnext:∀ v w',Out m β H w outs v w'→next (a.put o.dst v) w'):o.uponIn (fen rB) 0 E.P a next Q r:=by
 have hcall:∀ {e:Ending} {w':World},lT m β H w outs e w'→(match e,w' with
   | .returned v,w''=>next (a.put o.dst v) w''
   | .panicked chain,w''=>Q (.panic chain) a w''
   | .outgrown,_=>LetsOut Q):=by
  rintro e w' ⟨v,rfl,hv⟩
  exact hnext v w' hv
 cases n with
 | val av H'=>
  cases h
  obtain ⟨v,w',hr,ho⟩:=hn (hb _ (List.mem_singleton.2 rfl))
  rcases hr with rfl|⟨rfl,rfl⟩
  ·exact hnext v w' ho
  ·exact hnext undef w' ho
 | vals l=>
  cases h
  obtain ⟨v,w',rfl,ho⟩:=hn hb
  exact hnext v w' ho
 | enter f args=>
  obtain ⟨vs,rfl,ha,hbody⟩:=hn
  rw[oN hE.name hbody]
  refine ⟨fun h=>by simp[fen] at h,CallsIn.mono (RP hE hrec hm hR ha h hb) fun e w' he=>hcall he⟩
 | round id args=>
  obtain ⟨p,vs,hp,ha,rfl⟩:=hn
  obtain ⟨fn,tmps,as,bo,hy,hround⟩:=QC hrec hmon hm hR rB hp ha h hb
  rw[hy]
  exact ⟨fun h=>by simp[fen] at h,RoundIn.mono hround fun e w' he=>hcall he⟩
 | bad s=>cases h
theorem Km {m:Nat} {β:Pl} {H:Hp} {w:World} (hm:m≤m) (hR:Rel m β H w) {A:ab} {a:Act} (hA:gA β A a) {o:Oper} {outs:List (AV×Hp)} (h:ig E rec H ((aq E.P o).run A.tm H)=.ok outs) (hb:∀ x∈outs,nV x≤m)
  {rB:Option Nat} {next:Act→World→Prop} {Q:Exit→Act→World→Prop} (hnext:∀ v w',Out m β H w outs v w'→next (a.put o.dst v) w'):o.wpIn (fen rB) 0 E.P a w next Q:=by
 refine ⟨fun _ _=>trivial,?_⟩
 have hs:o.semAt (fen rB).round a.eval=execOp a.eval o:=by
  refine Oper.semAt_eq _ _ _ fun c hc=>?_
  rw[uw hc] at h
  cases h
 rw[hs]
 exact TJ hE hrec hmon hm hR (Td hR hm hA.tm.2.2 o) h hb hnext
theorem Hx {ops:Array Oper} {Q:Exit→Act→World→Prop} {rB:Option Nat}:∀ (l pre:List Oper),ops.toList=pre++l→∀ {m:Nat} {β:Pl} {H:Hp} {w:World} {A:ab} {a:Act} {outs:List (ab×Hp)},m≤m→Rel m β H w→gA β A a →
  fE E rec (fB E.P ops.toList l) A H=.ok outs→(∀ x∈outs,nA x≤m)→(∀ a' w',Kr m β H w outs a' w'→Q .normal a' w')→wpOpsIn (fen rB) 0 E.P ops Q (List.range' pre.length l.length) a w
 | [],pre,hpre,m,β,H,w,A,a,outs,hm,hR,hA,h,hb,hQ=>by
  cases h
  exact hQ a w ⟨_,List.mem_singleton.2 rfl,β,hA,hR,Ext.refl _ _ _⟩
 | o::l,pre,hpre,m,β,H,w,A,a,outs,hm,hR,hA,h,hb,hQ=>by
  have ho:ops[pre.length]?=some o:=by
   rw[←Array.getElem?_toList,hpre,List.getElem?_append_right (Nat.le_refl _)]
   simp
  have hnextpre:ops.toList=(pre++[o])++l:=by rw[hpre];simp
  have hlen:(pre++[o]).length=pre.length+1:=by simp
  have h':bC A.tm (gOf ops.toList o.guard) (nz E rec A o.dst H (fE E rec (fB E.P ops.toList l)) ((aq E.P o).run A.tm H)) (fK A o.dst aG H (fE E rec (fB E.P ops.toList l)))=.ok outs:=h
  rw[List.length_cons,List.range'_succ]
  unfold wpOpsIn
  rw[ho]
  simp only
  rcases uD hA.tm h' with ⟨hw,hy⟩|⟨hw,hy⟩
  ·rw[if_pos hw]
   rw[Rc] at hy
   obtain ⟨ys,hys,hk⟩:=R.dT hy
   have hbys:∀ x∈ys,nV x≤m:=fun x hx=>by
    obtain ⟨o',ho',hs⟩:=hk x hx
    exact RG.lD (jj fun a=>pD hmon l a x.2) ho' hs hb
   refine Km hE hrec hmon hm hR hA hys hbys fun v w' hv=>?_
   obtain ⟨x,hx,β',hv',hR',hext⟩:=hv
   obtain ⟨o',ho',hs⟩:=hk x hx
   obtain ⟨A',hA',hact⟩:=(hA.mono hext.sub).put hv' ho'
   have:=Hx (rB:=rB) (Q:=Q) l (pre++[o]) hnextpre hm hR' hact hA' (fun y hy=>hb y (hs y hy)) (fun a' w'' hp=>hQ a' w'' (hp.ext hext hs))
   rw[hlen] at this
   exact this
  ·rw[if_neg (by rw[hw];exact Bool.false_ne_true)]
   refine ⟨fun _ _=>trivial,?_⟩
   obtain ⟨A',hA',hact⟩:=hA.put (pJ β) hy
   have:=Hx (rB:=rB) (Q:=Q) l (pre++[o]) hnextpre hm hR hact hA' hb hQ
   rw[hlen] at this
   exact this
theorem MA {m:Nat} {β:Pl} {H:Hp} {w:World} (hm:m≤m) (hR:Rel m β H w) {A:ab} {a:Act} (hA:gA β A a) {id:Nat} {ops:Array Oper} {rB:Option Nat} {outs:List (aE×ab×Hp)}
  (h:(fE E rec (rp E.P ops) A H).bind fI=.ok outs) (hb:∀ x∈outs,nE x≤m):(Code.region id ops false).wpIn (fen rB) 0 E.P (fO m β H w outs) a w:=by
 obtain ⟨l,hl,hk⟩:=R.dT h
 have hbl:∀ x∈l,nA x≤m:=fun x hx=>by
  obtain ⟨o,ho,hs⟩:=hk x hx
  cases ho
  exact hb _ (hs _ (List.mem_singleton.2 rfl))
 refine wpIn_region ?_
 have:=Hx (Q:=fO m β H w outs) (rB:=rB) hE hrec hmon ops.toList [] rfl hm hR hA hl hbl (fun a' w' hp=>?_)
 ·rw[List.range_eq_range']
  simpa using this
 ·obtain ⟨x,hx,β',h1,h2,h3⟩:=hp
  obtain ⟨o,ho,hs⟩:=hk x hx
  cases ho
  exact ⟨_,hs _ (List.mem_singleton.2 rfl),trivial,β',h1,h2,h3⟩
end
section scope
variable {P:Program} {b:Frame} {a:Act} {k:List Item} {cs:List Frame} {w:World} {F:Fence} {n:Nat} {Q:Exit→Act→World→Prop}
theorem fe {c:Code}:step P (lone (b.atR a (.code (.scope c)::k)) cs w)=.next (lone (b.atR a (.code c::.inScope c::k)) cs w):=
 step_lone_go (by simp[stepG,stepG.exec,Frame.atR])
theorem wm {c:Code}:step P (lone (b.atR a (.inScope c::k)) cs w)=.next (lone (b.atR a k) cs w):=
 step_lone_go (by simp[stepG,stepG.exec,Frame.atR])
theorem HE {c:Code} (h:c.wpIn F n P Q a w) (hg:∀ l a w,¬Q (.goto l) a w):(Code.scope c).wpIn F n P Q a w:=by
 intro b k cs hro hb hr
 have h0:(lone (b.atR a (.code (.scope c)::k)) cs w).fenced P F:=fenced_calm hb hr rfl
 obtain ⟨e,a₁,w₁,hq,harr⟩:=h b (.inScope c::k) cs hro hb hr
 have hx:∀ id,exitTo id (.inScope c::k)=exitTo id k:=fun id=>by simp[exitTo]
 cases e with
 | normal=>exact ⟨.normal,a₁,w₁,hq,.head h0 fe (StepsIn.trans harr (.one (fenced_calm hb hr rfl) wm))⟩
 | exit id=>
  exact ⟨.exit id,a₁,w₁,hq,fun k' hk=>.head h0 fe (harr.1 k' (by rw[hx];exact hk)),
   fun hr' hk=>let ⟨k₁,h1,h2⟩:=harr.2 hr' (by rw[hx];exact hk);⟨k₁,h1,.head h0 fe h2⟩⟩
 | goto l=>exact absurd hq (hg l _ _)
 | ret=>exact ⟨_,a₁,w₁,hq,.of_steps (.one h0 fe) harr⟩
 | panic ch=>exact ⟨_,a₁,w₁,hq,.of_steps (.one h0 fe) harr⟩
 | outgrown=>exact ⟨_,a₁,w₁,hq,.of_steps (.one h0 fe) harr⟩
end scope
theorem fO.noGoto {m:Nat} {β:Pl} {H:Hp} {w:World} {outs:List (aE×ab×Hp)} (l:Nat) (a:Act) (w':World):¬fO m β H w outs (.goto l) a w':=by
 rintro ⟨x,_,hx,_⟩
 cases h:x.1 <;> rw[h] at hx <;> exact hx
section
variable {E:Env} (hE:vR E) {N:Nat} {rec:Rec} (hrec:AU E.P N rec) (hmon:RecM rec)
theorem Dg {m:Nat} {β β1:Pl} {H:Hp} {w:World} (hm:m≤m) {A1:ab} {a1:Act} {l:Nat} {p:Place} {x:AV×Hp} {w3:World} (hact:gA β1 A1 a1) (hR:Rel m β1 x.2 w3) (hp:β1 l 0=some p) (hnx:nV x≤m) (hext:Ext β H w β1 x.2 w3)
  {o outs:List (aE×ab×Hp)} (ho:eB l A1 x=.ok o) (hs:∀ y∈o,y∈outs) (rB:Option Nat):
  ∃ jump w4,(Instr.endLoop p.b).run E.P w3=.ok jump w4 ∧
   (match jump with
    | none=>fO m β H w outs .normal a1 w4
    | some c=>c.wpIn (fen rB) 0 E.P (fO m β H w outs) a1 w4):=by
 unfold eB at ho
 split at ho
 ·rename_i st pe tm nt ps as bo d hg
  obtain ⟨q,fn,tmps,hq,htm,hw⟩:=lV hR hg hp
  have hmod:=kz hR hm hnx hg (.loop .exhausted pe tm nt ps as bo d) hp w3 rfl rfl rfl rfl (.loop { state:=.exhausted,pending:=pe,fn:=fn,tmps:=tmps,params:=ps.toArray,assign:=as,body:=bo,defers:=q.b })
   (fun w' hw'=>⟨q,fn,tmps,hq,htm,hw'⟩)
  have hrun:st≠.busy→(Instr.endLoop p.b).run E.P w3=.ok pe { w3 with heap:=w3.heap.setIfInBounds p.b (.loop { state:=.exhausted,pending:=pe,fn:=fn,tmps:=tmps,params:=ps.toArray,assign:=as,body:=bo,defers:=q.b }) }:=by
   intro hst
   have h1:(st==LoopState.busy)=false:=by cases st <;> first|rfl|exact absurd rfl hst
   simp only[Instr.endLoop,Sem.run_bind,dM hw,Result.andThen_ok,h1,Bool.false_eq_true,if_false,gG _ hw]
   rfl
  split at ho
  ·cases ho
  ·rename_i hst
   have hst':st≠.busy:=fun h=>hst h
   split at ho
   ·cases ho
    exact ⟨none,_,hrun hst',_,hs _ (List.mem_singleton.2 rfl),trivial,β1,hact,hmod.1,hext.trans hmod.2⟩
   ·cases ho
    exact ⟨some .ret,_,hrun hst',wpIn_ret ⟨_,hs _ (List.mem_singleton.2 rfl),trivial,β1,hact,hmod.1,hext.trans hmod.2⟩⟩
   ·rename_i k
    cases ho
    exact ⟨some (.exit k),_,hrun hst',wpIn_exit ⟨_,hs _ (List.mem_singleton.2 rfl),rfl,β1,hact,hmod.1,hext.trans hmod.2⟩⟩
   ·cases ho
 ·cases ho
theorem wy {m:Nat} {β:Pl} {H:Hp} {w:World} (hm:m≤m) (hR:Rel m β H w) {A:ab} {a:Act} (hA:gA β A a) {r rB:Option Nat} (hr:kC β r rB) {d:Nat} {H1:Hp} {A1:ab} (h:ky r A H=some (d,H1,A1)) (hnx:H1.nx+1≤m)
  (ps:Array Tmp) (as bo:Code) (fn:FuncId):
  ∃ (p:Place) (mark:List Deferred) (w1:World) (β1:Pl),(Instr.enterLoop fn a.tmps ps as bo rB).run E.P w=.ok (p.b,mark) w1∧β1 H1.nx 0=some p ∧
   gA β1 A1 { a with defers:=mark++a.defers }∧Rel m β1 (H1.new (.oth (.loop .ready none A.tm A.nt ps.toList as bo d))) w1∧Ext β H w β1 (H1.new (.oth (.loop .ready none A.tm A.nt ps.toList as bo d))) w1:=by
 unfold ky at h
 cases r with
 | none=>
  have hr':rB=none:=hr
  subst hr'
  cases h
  have hnx':H.nx+1+1≤m:=hnx
  have n1:=jY hR hm (by omega) (.oth (.dfr true)) ⟨w.heap.size,0,0,0⟩ (w':=w.alloc (.deferred (some []))) (Nat.le_refl _) (by simp) rfl rfl rfl
   (fun b hb=>RowKit.Below.heap_alloc w _ b hb) (fun g hg=>hg) ⟨_,aQ _ _ _ _,heap_alloc_new w _⟩
  have hsz:(w.alloc (.deferred (some []))).heap.size=w.heap.size+1:=by simp
  have hA1:gA (plus β H.nx 0 ⟨w.heap.size,0,0,0⟩) A a:=hA.mono n1.2.sub
  have hne:¬(H.nx=H.nx+1∧(0:Nat)=0):=by omega
  have n2:=jY n1.1 hm (show H.nx+1<m by omega) (.oth (.loop .ready none A.tm A.nt ps.toList as bo H.nx)) ⟨w.heap.size+1,0,0,0⟩
   (w':=(w.alloc (.deferred (some []))).alloc (.loop { state:=.ready,pending:=none,fn:=fn,tmps:=a.tmps,params:=ps,assign:=as,body:=bo,defers:=w.heap.size }))
   (by rw[hsz];exact Nat.le_refl _) (by simp) rfl rfl rfl
   (fun b hb=>RowKit.Below.heap_alloc _ _ b hb) (fun g hg=>hg)
   ⟨_,aQ _ _ _ _,⟨w.heap.size,0,0,0⟩,fn,a.tmps,(bN (plus β H.nx 0 ⟨w.heap.size,0,0,0⟩) (H.nx+1) 0 ⟨w.heap.size+1,0,0,0⟩ hne).trans (aQ _ _ _ _),(hA1.mono (iR (n1.1.free _ 0 (Nat.le_refl _) (show H.nx+1<m by omega)))).tm,by
    rw[←hsz]
    simpa using heap_alloc_new (w.alloc (.deferred (some []))) (.loop { state:=.ready,pending:=none,fn:=fn,tmps:=a.tmps,params:=ps,assign:=as,body:=bo,defers:=w.heap.size })⟩
  have hA2:=hA1.mono n2.2.sub
  refine ⟨⟨w.heap.size+1,0,0,0⟩,[{ target:=.collected w.heap.size,args:=#[] }],_,_,?_,aQ _ _ _ _,⟨hA2.tm,⟨⟨w.heap.size,0,0,0⟩,n2.2.sub _ _ _ (aQ _ _ _ _),rfl⟩,hA2.df⟩,n2.1,n1.2.trans n2.2⟩
  rw[←hsz]
  rfl
 | some l=>
  obtain ⟨pl,hpl,rfl⟩:=hr
  simp only at h
  split at h
  ·rename_i st pe tm nt ps0 as0 bo0 d0 hg
   cases h
   obtain ⟨q,fn0,tmps0,hq,_,hw⟩:=lV hR hg hpl
   have hne:¬(d=H.nx∧(0:Nat)=0):=by
    intro hh
    have:=hR.free H.nx 0 (Nat.le_refl _) (by omega)
    rw[hh.1,this] at hq
    cases hq
   have n2:=jY hR hm (show H.nx<m by omega) (.oth (.loop .ready none A.tm A.nt ps.toList as bo d)) ⟨w.heap.size,0,0,0⟩
    (w':=w.alloc (.loop { state:=.ready,pending:=none,fn:=fn,tmps:=a.tmps,params:=ps,assign:=as,body:=bo,defers:=q.b }))
    (Nat.le_refl _) (by simp) rfl rfl rfl
    (fun b hb=>RowKit.Below.heap_alloc _ _ b hb) (fun g hg=>hg)
    ⟨_,aQ _ _ _ _,q,fn,a.tmps,by rw[bN _ _ _ _ hne];exact hq,(hA.mono (iR (hR.free _ 0 (Nat.le_refl _) (show H.nx<m by omega)))).tm,by simpa using heap_alloc_new w _⟩
   have hA2:=hA.mono n2.2.sub
   refine ⟨⟨w.heap.size,0,0,0⟩,[],_,_,?_,aQ _ _ _ _,hA2,n2.1,n2.2⟩
   simp only[Instr.enterLoop,Sem.run_bind,dM hw,Result.andThen_ok]
   rfl
  ·cases h
include hE hrec hmon in
theorem Nk {m:Nat} {β:Pl} {H:Hp} {w:World} (hm:m≤m) (hR:Rel m β H w) {A:ab} {a:Act} (hA:gA β A a) {r rB:Option Nat} (hr:kC β r rB) {g:Operand} {ps:Array Tmp} {as bo:Code} {outs:List (aE×ab×Hp)}
  (h:gb E rec r (opF g) ps.toList as bo A H=.ok outs) (hb:∀ x∈outs,nE x≤m):(Code.rangeFunc g ps as bo).wpIn (fen rB) 0 E.P (fO m β H w outs) a w:=by
 unfold gb at h
 split at h
 ·cases h
 ·rename_i d H1 A1 hs
  split at h
  ·rename_i gf caps hg
   rw[bV] at h
   split at h
   ·rename_i hbody
    obtain ⟨l,hl,hk⟩:=R.dT h
    have hbl:∀ x∈l,nV x≤m:=fun x hx=>by
     obtain ⟨o,ho,hss⟩:=hk x hx
     exact RG.lD (sj (Nat.le_refl _)) ho hss hb
    have hnx:H1.nx+1≤m:=RG.lD (hmon.call _ _ _) hl (fun _ h=>h) hbl
    refine wpIn_rangeFunc fun fn _=>?_
    obtain ⟨p,mark,w1,β1,he,hp,hA1,hR1,hext⟩:=wy (E:=E) hm hR hA hr hs hnx ps as bo fn
    have hgv:=(bM hA.tm.2.2 g)
    have hg':ev A.tm g=.one (.o (.clo gf caps)):=hg
    rw[hg'] at hgv
    obtain ⟨cs,hgv,hcl,hcc⟩:=hgv
    refine ⟨p.b,mark,w1,{ target:=.fn (.func gf) cs.toArray,args:=#[.func (.yield p.b) #[] #[]] },w1,gf,(.func (.yield p.b) #[] #[]::cs).toArray,w1,he,?_,fun _ _=>trivial,?_,fun h=>by simp[fen] at h,?_⟩
    ·have hcst:a.eval (.const (.func (.yield p.b) #[] #[]))=.func (.yield p.b) #[] #[]:=rfl
     simp[resolve,hgv,Deferred.ofValue,hcst]
    ·have:=oN (w:=w1) hE.name hbody (.func (.yield p.b) #[] #[]::cs).toArray
     simpa [invoke] using this
    ·have hargs:ARs β1 (.one (.o (.yl H1.nx))::eD caps) (.func (.yield p.b) #[] #[]::cs):=
      ⟨⟨p,hp,rfl⟩,(od hcl hcc).mono hext.sub⟩
     have hcall:=hrec.call hm hR1 hargs hl hbl
     refine CallsIn.mono hcall fun e w3 he3=>?_
     obtain ⟨v,rfl,x,hx,β3,_,hR3,hext3⟩:=he3
     obtain ⟨o,ho,hss⟩:=hk x hx
     exact Dg (E:=E) hm (hA1.mono hext3.sub) hR3 (hext3.sub _ _ _ hp) (hbl x hx) (hext.trans hext3) ho hss rB
   ·cases h
  ·cases h
end
def RI (E:Env):Prop:=
 ∀ (N:Nat) (rec:Rec),AU E.P N rec→RecM rec→∀ {m:Nat} {β:Pl} {H:Hp} {w:World} {A:ab} {a:Act} {id:Nat} {ops:Array Oper} {rB:Option Nat} {outs:List (aE×ab×Hp)},m≤m→Rel m β H w→gA β A a→dY ops=true →
  (cW E rec (rp E.P ops) 0 (dV [] 0 ops.toList) [] A H).bind fI=.ok outs→(∀ x∈outs,nE x≤m)→(Code.region id ops true).wpIn (fen rB) 0 E.P (fO m β H w outs) a w
section
variable {E:Env} (hE:vR E) (hD:RI E) {N:Nat} {rec:Rec} (hrec:AU E.P N rec) (hmon:RecM rec)
theorem MY {k id:Nat} {z:aE×ab×Hp} (hz:k≤nE z):RG k nE (tX id z):=
 lR (RG.one hz) (fun _=>RG.ifE (RG.one (x:=(aE.normal,z.2)) hz) (RG.one hz)) (RG.one hz)
theorem mQ {e:aE} {n r:R (aE×ab×Hp)} {x:Nat→R (aE×ab×Hp)} {o:List (aE×ab×Hp)} (h:exE e n x r=.ok o):
  (e=.normal∧n=.ok o)∨(∃ i,e=.exit i∧x i=.ok o)∨(e=.ret∧r=.ok o):=by
 cases e with
 | normal=>exact .inl ⟨rfl,h⟩
 | exit i=>exact .inr (.inl ⟨i,rfl,h⟩)
 | ret=>exact .inr (.inr ⟨rfl,h⟩)
theorem XR.normal {x:aE} {e:Exit} (h:XR x e) (hx:x=.normal):e=.normal:=by
 subst hx;cases e <;> first|rfl|exact h.elim
theorem XR.exit {x:aE} {e:Exit} {i:Nat} (h:XR x e) (hx:x=.exit i):e=.exit i:=by
 subst hx
 cases e with
 | exit j=>have:i=j:=h;rw[this]
 | _=>exact h.elim
theorem XR.ret {x:aE} {e:Exit} (h:XR x e) (hx:x=.ret):e=.ret:=by
 subst hx;cases e <;> first|rfl|exact h.elim
theorem nH {F:Fence} {n:Nat} {P:Program} {c:Code} {Q Q':Exit→Act→World→Prop} (hq:∀ e a w,Q e a w→Q' e a w):∀ {k:Nat} {a:Act} {w:World},Code.roundsIn F n P c Q k a w→Code.roundsIn F n P c Q' k a w
 | 0,_,_,h=>h.elim
 | k+1,a,w,h=>by
  rw[roundsIn_succ] at h ⊢
  refine Go.wpIn_mono h fun e a1 w1 h1=>?_
  cases e with
  | normal=>exact nH hq h1
  | exit _=>exact hq _ _ _ h1
  | goto _=>exact hq _ _ _ h1
  | ret=>exact hq _ _ _ h1
  | panic _=>exact hq _ _ _ h1
  | outgrown=>exact hq _ _ _ h1
include hE hD hrec hmon
theorem pF:∀ (c:Code) {m:Nat} {β:Pl} {H:Hp} {w:World} {r rB:Option Nat} {A:ab} {a:Act} {outs:List (aE×ab×Hp)},m≤m→Rel m β H w→gA β A a→kC β r rB →
  (codeF E c).run rec r A H=.ok outs→(∀ x∈outs,nE x≤m)→c.wpIn (fen rB) 0 E.P (fO m β H w outs) a w∧∀ x,c=.loop x→Code.roundsIn (fen rB) 0 E.P x (fO m β H w outs) (N+1) a w:=by
 intro c
 induction c with
 | skip=>
  intro m β H w r rB A a outs hm hR hA hr h hb
  cases h
  exact ⟨wpIn_skip ⟨_,List.mem_singleton.2 rfl,trivial,β,hA,hR,Ext.refl _ _ _⟩,fun x hx=>by cases hx⟩
 | region id ops draw=>
  intro m β H w r rB A a outs hm hR hA hr h hb
  refine ⟨?_,fun x hx=>by cases hx⟩
  cases draw with
  | false=>exact MA hE hrec hmon hm hR hA h hb
  | true=>
   have h':(Eng.ifE (dY ops) (CF.mk fun rec _ a h=>(cW E rec (rp E.P ops) 0 (dV [] 0 ops.toList) [] a h).bind fI) (CF.mk fun _ _ _ _=>.bad "draw - slots")).run rec r A H=.ok outs:=h
   cases hs:dY ops with
   | false=>rw[hs] at h';cases h'
   | true=>rw[hs] at h';exact hD N rec hrec hmon hm hR hA hs h' hb
 | seq x y hx hy=>
  intro m β H w r rB A a outs hm hR hA hr h hb
  refine ⟨?_,fun x hx=>by cases hx⟩
  obtain ⟨l,hl,hk⟩:=R.dT (r:=(codeF E x).run rec r A H) (f:=vQ (codeF E y) rec r) h
  have hkr:∀ z:aE×ab×Hp,RG (nE z) nE (vQ (codeF E y) rec r z):=fun z=>lR (oY hmon y r _ _) (fun _=>RG.one (Nat.le_refl _)) (RG.one (Nat.le_refl _))
  have hbl:∀ z∈l,nE z≤m:=fun z hz=>by
   obtain ⟨o,ho,hs⟩:=hk z hz
   exact RG.lD (hkr z) ho hs hb
  refine wpIn_seq (Go.wpIn_mono (hx hm hR hA hr hl hbl).1 fun e a1 w1 hp=>?_)
  obtain ⟨z,hz,hxr,β1,hA1,hR1,hext⟩:=hp
  obtain ⟨o,ho,hs⟩:=hk z hz
  rcases mQ ho with ⟨hz1,h1⟩|⟨i,hz1,h1⟩|⟨hz1,h1⟩
  ·rw[hxr.normal hz1]
   exact Go.wpIn_mono (hy hm hR1 hA1 (hr.mono hext.sub) h1 (fun q hq=>hb q (hs q hq))).1 fun e a2 w2 hp2=>hp2.ext hext hs
  ·cases h1
   rw[hxr.exit hz1]
   exact ⟨z,hs z (List.mem_singleton.2 rfl),by rw[hz1];rfl,β1,hA1,hR1,hext⟩
  ·cases h1
   rw[hxr.ret hz1]
   exact ⟨z,hs z (List.mem_singleton.2 rfl),by rw[hz1];trivial,β1,hA1,hR1,hext⟩
 | cond c x y hx hy=>
  intro m β H w r rB A a outs hm hR hA hr h hb
  refine ⟨?_,fun x hx=>by cases hx⟩
  have h':dP (ev A.tm c) (.bad "cond") (fun b=>Eng.ifE b ((codeF E x).run rec r A H) ((codeF E y).run rec r A H))=.ok outs:=h
  have hv:=bM hA.tm.2.2 c
  cases hc:ev A.tm c with
  | one q=>
   rw[hc] at h' hv
   cases q with
   | b t=>
    have hv':a.eval c=.bool t:=hv
    refine wpIn_cond hv' ?_
    cases t with
    | true=>exact (hx hm hR hA hr h' hb).1
    | false=>exact (hy hm hR hA hr h' hb).1
   | i _ _=>cases h'
   | o _=>cases h'
  | agg _=>rw[hc] at h';cases h'
  | tup _=>rw[hc] at h';cases h'
  | any=>rw[hc] at h';cases h'
 | block id x hx=>
  intro m β H w r rB A a outs hm hR hA hr h hb
  refine ⟨?_,fun x hx=>by cases hx⟩
  obtain ⟨l,hl,hk⟩:=R.dT (r:=(codeF E x).run rec r A H) (f:=tX id) h
  have hbl:∀ z∈l,nE z≤m:=fun z hz=>by
   obtain ⟨o,ho,hs⟩:=hk z hz
   exact RG.lD (MY (Nat.le_refl _)) ho hs hb
  refine wpIn_block (Go.wpIn_mono (hx hm hR hA hr hl hbl).1 fun e a1 w1 hp=>?_)
  obtain ⟨z,hz,hxr,β1,hA1,hR1,hext⟩:=hp
  obtain ⟨o,ho,hs⟩:=hk z hz
  rcases mQ ho with ⟨hz1,h1⟩|⟨i,hz1,h1⟩|⟨hz1,h1⟩
  ·cases h1
   rw[hxr.normal hz1]
   exact ⟨z,hs z (List.mem_singleton.2 rfl),by rw[hz1];trivial,β1,hA1,hR1,hext⟩
  ·rw[hxr.exit hz1]
   rw[bV] at h1
   show if i=id then _ else _
   split at h1
   ·rename_i hi
    cases h1
    rw[if_pos (Nat.eq_of_beq_eq_true hi)]
    exact ⟨_,hs _ (List.mem_singleton.2 rfl),trivial,β1,hA1,hR1,hext⟩
   ·rename_i hi
    cases h1
    rw[if_neg (fun hh=>hi (by rw[hh];exact Nat.beq_refl _))]
    exact ⟨z,hs z (List.mem_singleton.2 rfl),by rw[hz1];rfl,β1,hA1,hR1,hext⟩
  ·cases h1
   rw[hxr.ret hz1]
   exact ⟨z,hs z (List.mem_singleton.2 rfl),by rw[hz1];trivial,β1,hA1,hR1,hext⟩
 | loop x hx=>
  intro m β H w r rB A a outs hm hR hA hr h hb
  obtain ⟨l,hl,hk⟩:=R.dT (r:=(codeF E x).run rec r A H) (f:=CM rec r x) h
  have hbl:∀ z∈l,nE z≤m:=fun z hz=>by
   obtain ⟨o,ho,hs⟩:=hk z hz
   exact RG.lD (k:=nE z) (nx:=nE) (lR (hmon.code _ _ _ _) (fun _=>RG.one (Nat.le_refl _)) (RG.one (Nat.le_refl _))) ho hs hb
  have hone:=(hx hm hR hA hr hl hbl).1
  have hrounds:Code.roundsIn (fen rB) 0 E.P x (fO m β H w outs) (N+1) a w:=by
   rw[roundsIn_succ]
   refine Go.wpIn_mono hone fun e a1 w1 hp=>?_
   obtain ⟨z,hz,hxr,β1,hA1,hR1,hext⟩:=hp
   obtain ⟨o,ho,hs⟩:=hk z hz
   rcases mQ ho with ⟨hz1,h1⟩|⟨i,hz1,h1⟩|⟨hz1,h1⟩
   ·rw[hxr.normal hz1]
    have:=(hrec.code hm hR1 hA1 (hr.mono hext.sub) h1 (fun q hq=>hb q (hs q hq))).2 x rfl
    exact nH (fun e a2 w2 hp2=>hp2.ext hext hs) this
   ·cases h1
    rw[hxr.exit hz1]
    exact ⟨z,hs z (List.mem_singleton.2 rfl),by rw[hz1];rfl,β1,hA1,hR1,hext⟩
   ·cases h1
    rw[hxr.ret hz1]
    exact ⟨z,hs z (List.mem_singleton.2 rfl),by rw[hz1];trivial,β1,hA1,hR1,hext⟩
  exact ⟨wpIn_loop_rounds _ hrounds,fun y hy=>by cases hy;exact hrounds⟩
 | rangeFunc f ps as bo _ _=>
  intro m β H w r rB A a outs hm hR hA hr h hb
  exact ⟨Nk hE hrec hmon hm hR hA hr h hb,fun x hx=>by cases hx⟩
 | exit id=>
  intro m β H w r rB A a outs hm hR hA hr h hb
  cases h
  exact ⟨wpIn_exit ⟨_,List.mem_singleton.2 rfl,rfl,β,hA,hR,Ext.refl _ _ _⟩,fun x hx=>by cases hx⟩
 | scope x hx=>
  intro m β H w r rB A a outs hm hR hA hr h hb
  exact ⟨HE (hx hm hR hA hr h hb).1 fun l a w=>fO.noGoto l a w,fun x hx=>by cases hx⟩
 | label l=>
  intro m β H w r rB A a outs hm hR hA hr h hb
  cases h
  exact ⟨wpIn_label ⟨_,List.mem_singleton.2 rfl,trivial,β,hA,hR,Ext.refl _ _ _⟩,fun x hx=>by cases hx⟩
 | goto l=>intro m β H w r rB A a outs hm hR hA hr h hb;cases h
 | ret=>
  intro m β H w r rB A a outs hm hR hA hr h hb
  cases h
  exact ⟨wpIn_ret ⟨_,List.mem_singleton.2 rfl,trivial,β,hA,hR,Ext.refl _ _ _⟩,fun x hx=>by cases hx⟩
 | refuse x=>intro m β H w r rB A a outs hm hR hA hr h hb;cases h
end
end Go.Eng
