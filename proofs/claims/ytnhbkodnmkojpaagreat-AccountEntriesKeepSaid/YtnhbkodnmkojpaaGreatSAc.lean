/- A part of the proof: EngOps5, EngOps6, EngOps7, EngOps8, EngStep, EngSound1, EngSound2, EngSound3, EngSound4, EngSound5, EngSound6. No conditions. -/
import Derived.Test.YtnhbkodnmkojpaaGreatSAb
import Derived.Orders
import Derived.Laws.MakeOwn
import Derived.LoopNIn
set_option maxRecDepth 100000
set_option maxHeartbeats 64000000
set_option linter.unusedVariables false
set_option linter.unusedSimpArgs false
namespace Go.Eng
open Go
section
variable {P:Program} {m:Nat} {β:Pl} {H:Hp} {w:World}
theorem Fa (hR:Rel m β H w) {tm:PT AV} {a:Act} (Q0:∀ t,AR β (ay (tm.get t) aF fun v=>v) (a.tmps.getD t undef)) (o:Oper) (hs:∀ cs b,o.op≠.select cs b):
  ah P m β H w (an P tm H o) ((execOp a.eval o).run P w):=by
 unfold an;refine ah.guard fun hg=>?_;have he:execOp (fun x=>aY (ev tm x)) o=execOp a.eval o:=by
  refine execOp_congr o hs fun x hx=>?_;have h1:=List.all_eq_true.1 hg x (by simpa using hx);have h2:=bH Q0 x;cases hv:(ev tm x).val? with
  | none=>rw[hv] at h1;cases h1
  | some v=>
   show aY (ev tm x)=_;unfold aY;rw[hv];exact (AV.iN hv h2).symm
 rw[he];split
 ·rename_i v hv
  refine ah.guard fun hk=>?_;exact ah.same hR (pj hv w) (dD hk)
 exact trivial
theorem wV (a b:Int):iLe a b=decide (a≤b):=by
 cases a with
 | ofNat m=>
  cases b with
  | ofNat n=>
   show Nat.ble m n=_;rw[Bool.eq_iff_iff];simp
  | negSucc n=>
   show false=_;symm
   rw[decide_eq_false_iff_not,Int.ofNat_eq_natCast];omega
 | negSucc m=>
  cases b with
  | ofNat n=>
   show true=_;symm
   rw[decide_eq_true_eq,Int.ofNat_eq_natCast];omega
  | negSucc n=>
   show Nat.ble n m=_;rw[Bool.eq_iff_iff];simp
   omega
theorem sF (a b:Int):iEq a b=(a==b):=by
 cases a with
 | ofNat m=>
  cases b with
  | ofNat n=>
   show Nat.beq m n=_;rw[Bool.eq_iff_iff,Nat.beq_eq,beq_iff_eq];exact ⟨fun h=>by rw[h],fun h=>Int.ofNat.inj h⟩
  | negSucc n=>
   show false=_;symm
   rw[beq_eq_false_iff_ne,Int.ofNat_eq_natCast];omega
 | negSucc m=>
  cases b with
  | ofNat n=>
   show false=_;symm
   rw[beq_eq_false_iff_ne,Int.ofNat_eq_natCast];omega
  | negSucc n=>
   show Nat.beq m n=_;rw[Bool.eq_iff_iff,Nat.beq_eq,beq_iff_eq];exact ⟨fun h=>by rw[h],fun h=>Int.negSucc.inj h⟩
theorem jJ {a b:IntKind} (h:sameKind a b=true):a=b:=by
 cases a <;> cases b <;> first|rfl|cases h
theorem qy (k:IntKind) (n:Int):pR k n=k.wrap n:=by
 unfold pR;rw[bM];split
 ·rename_i hk
  have S2:k=.i64:=by cases k <;> first|rfl|cases hk
  subst S2;cases n with
  | ofNat m=>
   show ifE (Nat.ble 9223372036854775808 m) _ _=_;rw[bM];split
   ·rfl
   rename_i h
   have h':m<9223372036854775808:=by
    rcases Nat.lt_or_ge m 9223372036854775808 with h1|h1
    ·exact h1
    exact absurd (zA5 h1) h
   rw[IntKind.wrap_i64];have e:Int.ofNat m=(m:Int):=rfl;rw[e];omega
  | negSucc m=>
   show ifE (Nat.ble 9223372036854775808 m) _ _=_;rw[bM];split
   ·rfl
   rename_i h
   have h':m<9223372036854775808:=by
    rcases Nat.lt_or_ge m 9223372036854775808 with h1|h1
    ·exact h1
    exact absurd (zA5 h1) h
   rw[IntKind.wrap_i64];omega
 rfl
theorem QO (a b:UInt8):bEq a b=(a==b):=by
 rw[Bool.eq_iff_iff,beq_iff_eq];unfold bEq;rw[Nat.beq_eq];exact ⟨fun h=>UInt8.toNat_inj.1 h,fun h=>by rw[h]⟩
theorem cM:∀ (x y:List UInt8),lEq x y=(x==y)
 | [],[]=>rfl
 | [],_::_=>rfl
 | _::_,[]=>rfl
 | a::x,b::y=>by
  show both (bEq a b) (lEq x y)=_;rw[ck,QO,cM x y];rfl
theorem FE:∀ (x y:List UInt8),aW x y=Op.bytesLess x y
 | [],[]=>rfl
 | [],_::_=>rfl
 | _::_,[]=>rfl
 | a::x,b::y=>by
  show ifE (Nat.blt a.toNat b.toNat) true (both (bEq a b) (aW x y))=(decide (a<b)||(a==b&&Op.bytesLess x y));rw[bM,ck,QO,FE x y];have:Nat.blt a.toNat b.toNat=decide (a<b):=by
   rw[Bool.eq_iff_iff,decide_eq_true_eq,UInt8.lt_iff_toNat_lt];exact ⟨fun h=>zA4 h,fun h=>zA5 h⟩
  rw[this];cases decide (a<b) <;> rfl
theorem mw (op:BinOp) (t:TypeId) (x y:Operand) (a b:Value) (h1:a≠.nilIface) (h2:∀ cs,a≠.agg cs):(eqGuard op t x y a b).run P w=.ok () w:=by
 unfold eqGuard;cases a <;> first|exact absurd rfl h1|exact absurd rfl (h2 _)|(cases op <;> rfl)
theorem IZ (a b:Int):decide (a<b)=!decide (b≤a):=by
 rw[Bool.eq_iff_iff];simp
theorem Ny (hR:Rel m β H w) {op:BinOp} {t:TypeId} {x y:Operand} {k k':IntKind} {a b:Int} {alt:ad}
  (halt:ah P m β H w alt ((do let z ←(do eqGuard op t x y (.int k a) (.int k' b);binOp op t (.int k a) (.int k' b));pure (Next.value z):Sem Next).run P w)):
  ah P m β H w (kD H (dV op) k a k' b alt) ((do let z ←(do eqGuard op t x y (.int k a) (.int k' b);binOp op t (.int k a) (.int k' b));pure (Next.value z):Sem Next).run P w):=by
 unfold kD;rw[bM];split
 ·rename_i hk
  have hk:=jJ hk;subst hk;have hg:=mw (P:=P) (w:=w) op t x y (.int k a) (.int k b) (by simp) (by simp);cases op <;> first
   | exact halt
   | (refine ah.same hR (v:=.int k (pR k _)) ?_ rfl
      rw[qy];simp only[Sem.run_bind,hg,Result.andThen_ok];simp[binOp,Op.intArith];try rfl)
   | (refine ah.same hR (v:=.bool _) ?_ rfl
      simp only[Sem.run_bind,hg,Result.andThen_ok];simp[binOp,Op.intCmp,wV,sF];try first|rfl|exact IZ _ _)
 exact halt
theorem ON (hR:Rel m β H w) {op:BinOp} {t:TypeId} {x y:Operand} {a b:List UInt8} {alt:ad}
  (halt:ah P m β H w alt ((do let z ←(do eqGuard op t x y (.string ⟨a.toArray⟩) (.string ⟨b.toArray⟩);binOp op t (.string ⟨a.toArray⟩) (.string ⟨b.toArray⟩));pure (Next.value z):Sem Next).run P w)):
  ah P m β H w (ay (Yu op) alt fun f=>.val (.one (.b (f a b))) H)
   ((do let z ←(do eqGuard op t x y (.string ⟨a.toArray⟩) (.string ⟨b.toArray⟩);binOp op t (.string ⟨a.toArray⟩) (.string ⟨b.toArray⟩));pure (Next.value z):Sem Next).run P w):=by
 have hg:=mw (P:=P) (w:=w) op t x y (.string ⟨a.toArray⟩) (.string ⟨b.toArray⟩) (by simp) (by simp);cases op <;> first
  | exact halt
  | (refine ah.same hR (v:=.bool _) ?_ rfl
     simp only[Sem.run_bind,hg,Result.andThen_ok];simp[binOp,Op.stringOp,cM,FE];try rfl)
def Aof (k:Nat) (v:Value):Prop:=
 match k with
 | 0=>∃ a,v=.pointer (some a)
 | 1=>∃ a n c,v=.slice (some a) n c
 | 2=>∃ b,v=.map (some b)
 | 3=>∃ f c,v=.func f #[] c
 | _=>True
def Nof (k:Nat) (v:Value):Prop:=
 match k with
 | 0=>v=.pointer none
 | 1=>v=.slice none 0 0
 | 2=>v=.map none
 | 3=>v=.nilFunc
 | _=>True
theorem yB {x:AO} {v:Value} (hx:CRO β x v):Aof (uK x) v:=by
 cases x <;> first
  | exact trivial
  | (obtain ⟨p,_,_,h⟩:=hx;exact ⟨_,h⟩)
  | (obtain ⟨p,_,_,_,_,_,h,_⟩:=hx;exact ⟨_,_,_,h⟩)
  | (obtain ⟨p,_,h⟩:=hx;exact ⟨_,h⟩)
  | (obtain ⟨cs,h,_⟩:=hx;exact ⟨_,_,h⟩)
theorem yW {x:AO} {v:Value} (hx:CRO β x v):Nof (uR x) v:=by
 cases x <;> first|exact trivial|exact hx
theorem TI {t:TypeId}:
  match aP P t with
  | 0=>∃ e,P.underlying t=some (.pointer e)
  | 1=>∃ e,P.underlying t=some (.slice e)
  | 2=>∃ k e,P.underlying t=some (.map k e)
  | 3=>∃ a b c,P.underlying t=some (.func a b c)
  | _=>True:=by
 unfold aP;cases P.underlying t with
 | none=>exact trivial
 | some d=>cases d <;> first|exact trivial|exact ⟨_,rfl⟩|exact ⟨_,_,rfl⟩|exact ⟨_,_,_,rfl⟩
theorem tZ (d:Nat) {t:TypeId} {k:Nat} (hk:aP P t=k) (h4:k<4) {v u:Value} (h:(Aof k v∧Nof k u)∨(Nof k v∧Aof k u)):(Op.equalIn (d+1) t v u).run P w=.ok false w:=by
 have ht:=TI (P:=P) (t:=t);rw[hk] at ht;match k,h4 with
 | 0,_=>
  obtain ⟨e,ht⟩:=ht;rcases h with ⟨⟨a,rfl⟩,h⟩|⟨h,⟨a,rfl⟩⟩ <;> cases h <;> simp[Op.equalIn,run_underlying ht]
 | 1,_=>
  obtain ⟨e,ht⟩:=ht;rcases h with ⟨⟨a,n,c,rfl⟩,h⟩|⟨h,⟨a,n,c,rfl⟩⟩ <;> cases h <;> simp[Op.equalIn,run_underlying ht]
 | 2,_=>
  obtain ⟨e,e',ht⟩:=ht;rcases h with ⟨⟨a,rfl⟩,h⟩|⟨h,⟨a,rfl⟩⟩ <;> cases h <;> simp[Op.equalIn,run_underlying ht]
 | 3,_=>
  obtain ⟨e,e',e'',ht⟩:=ht;rcases h with ⟨⟨a,c,rfl⟩,h⟩|⟨h,⟨a,c,rfl⟩⟩ <;> cases h <;> simp[Op.equalIn,run_underlying ht]
theorem Ju {t:TypeId} {k:Nat} (h4:k<4) {v u:Value} (h:(Aof k v∧Nof k u)∨(Nof k v∧Aof k u)):
  v≠.nilIface∧(∀ cs,v≠.agg cs)∧binOp .eql t v u=(do let z ←Op.equal t v u;pure (.bool z))∧binOp .neq t v u=(do let z ←Op.equal t v u;pure (.bool (!z))):=by
 match k,h4 with
 | 0,_=>rcases h with ⟨⟨a,rfl⟩,h⟩|⟨h,⟨a,rfl⟩⟩ <;> cases h <;> exact ⟨by simp,by simp,rfl,rfl⟩
 | 1,_=>rcases h with ⟨⟨a,n,c,rfl⟩,h⟩|⟨h,⟨a,n,c,rfl⟩⟩ <;> cases h <;> exact ⟨by simp,by simp,rfl,rfl⟩
 | 2,_=>rcases h with ⟨⟨a,rfl⟩,h⟩|⟨h,⟨a,rfl⟩⟩ <;> cases h <;> exact ⟨by simp,by simp,rfl,rfl⟩
 | 3,_=>rcases h with ⟨⟨a,c,rfl⟩,h⟩|⟨h,⟨a,c,rfl⟩⟩ <;> cases h <;> exact ⟨by simp,by simp,rfl,rfl⟩
theorem Te {t:TypeId} {x y:AV} {v u:Value} (hx:AR β x v) (hy:AR β y u) {b:Bool} (h:Nk (aP P t) x y=some b):
  b=false∧aP P t<4∧((Aof (aP P t) v∧Nof (aP P t) u)∨(Nof (aP P t) v∧Aof (aP P t) u)):=by
 unfold Nk at h;split at h
 ·rename_i a b'
  cases hc:(Nat.blt (aP P t) 4&&((Nat.beq (uK a) (aP P t)&&Nat.beq (uR b') (aP P t))||(Nat.beq (uR a) (aP P t)&&Nat.beq (uK b') (aP P t)))) with
  | false=>rw[hc] at h;cases h
  | true=>
   rw[hc] at h;cases h
   simp only[Bool.and_eq_true,Bool.or_eq_true] at hc;refine ⟨rfl,zA4 hc.1,?_⟩;rcases hc.2 with ⟨h1,h2⟩|⟨h1,h2⟩
   ·have a1:=zA3 h1;have a2:=zA3 h2;exact .inl ⟨by rw[←a1];exact yB hx,by rw[←a2];exact yW hy⟩
   have a1:=zA3 h1;have a2:=zA3 h2;exact .inr ⟨by rw[←a1];exact yW hx,by rw[←a2];exact yB hy⟩
 cases h
theorem Xo (hR:Rel m β H w) {op:BinOp} {t:TypeId} {x y:Operand} {a b:AV} {v u:Value} (hx:AR β a v) (hy:AR β b u) {alt:ad}
  (halt:ah P m β H w alt ((do let z ←(do eqGuard op t x y v u;binOp op t v u);pure (Next.value z):Sem Next).run P w)):
  ah P m β H w (bp H (aP P t) op (dV op) a b alt) ((do let z ←(do eqGuard op t x y v u;binOp op t v u);pure (Next.value z):Sem Next).run P w):=by
 cases a with
 | agg _=>exact halt
 | tup _=>exact halt
 | any=>exact halt
 | one c=>
  cases c with
  | b _=>exact halt
  | i k n=>
   show ah P m β H w (eF b alt fun k' b'=>kD H (dV op) k n k' b' alt) _;refine pW hy halt fun k' n' hu=>?_;have hv:v=.int k n:=hx;subst hu hv;exact Ny hR halt
  | o q=>
   show ah P m β H w (kF H (aP P t) op (.one (.o q)) b alt) _;unfold kF;refine ue hx ?_ fun s hs=>?_
   ·unfold nR;split
    ·rename_i b' hn
     obtain ⟨rfl,h4,hh⟩:=Te hx hy hn;have h1:(Op.equal t v u).run P w=.ok false w:=tZ 9999 rfl h4 hh;obtain ⟨h2,h3,h5,h6⟩:=Ju (t:=t) h4 hh;have hg:=mw (P:=P) (w:=w) op t x y v u h2 h3;split
     ·refine ah.same hR (v:=.bool false) ?_ rfl;simp[Sem.run_bind,hg,h5,h1]
     ·refine ah.same hR (v:=.bool true) ?_ rfl;simp[Sem.run_bind,hg,h6,h1]
     exact trivial
    exact halt
   refine ue hy halt fun s' a7=>?_;subst hs a7;exact ON hR halt
theorem YY (hR:Rel m β H w) {op:UnOp} {x:AV} {v:Value} (hx:AR β x v) {alt:ad} (halt:ah P m β H w alt ((do let z ←Op.unary op v;pure (Next.value z):Sem Next).run P w)):
  ah P m β H w (Jg H op x alt) ((do let z ←Op.unary op v;pure (Next.value z):Sem Next).run P w):=by
 cases op <;> first
  | exact halt
  | (refine GQ hx halt fun b hb=>?_
     subst hb;exact ah.same hR (v:=.bool (!b)) rfl rfl)
theorem Qa (hR:Rel m β H w) {t:TypeId} {x i:AV} {v u:Value} (hx:AR β x v) (hi:AR β i u) {alt:ad} (halt:ah P m β H w alt ((do let z ←Instr.index t v u;pure (Next.value z):Sem Next).run P w)):
  ah P m β H w (iI H (mz P t) x i alt) ((do let z ←Instr.index t v u;pure (Next.value z):Sem Next).run P w):=by
 unfold iI;rw[bM];split
 ·rename_i ht
  have hu:P.underlying t=some .string:=by
   unfold mz at ht;split at ht
   ·assumption
   cases ht
  refine ue hx halt fun s hs=>pW hi halt fun k n hn=>ah.nd fun j hj=>ah.nd fun b hb=>?_;have hj:=ny hj;subst hs hn hj;rw[Mw] at hb;refine ah.same hR (v:=.int .u8 b.toNat) ?_ rfl;have D0:j<s.length:=(List.getElem?_eq_some_iff.1 hb).1;have hg:(ByteArray.mk s.toArray)[j]?=some b:=by
   have h1:j<(ByteArray.mk s.toArray).size:=by show j<s.toArray.size;simpa using D0
   rw[getElem?_pos (ByteArray.mk s.toArray) j h1];have:(ByteArray.mk s.toArray)[j]=s.toArray[j]'(by simpa using D0):=rfl;rw[this];rw[zB4 D0] at hb;simpa using hb
  simp[Instr.index,asIntOf,run_underlying hu,hg]
 exact halt
theorem UH {t:TypeId}:
  match eu P t with
  | none=>True
  | some 0=>P.underlying t=some .string
  | some 1=>∃ e,P.underlying t=some (.slice e)
  | some (_+2)=>∃ k e,P.underlying t=some (.map k e):=by
 unfold eu;cases h:P.underlying t with
 | none=>exact trivial
 | some d=>cases d <;> first|exact trivial|exact ⟨_,rfl⟩|exact ⟨_,_,rfl⟩|rfl
theorem NF {x:AV} {v:Value} (hx:AR β x v) (h:Ta x=true):v=.slice none 0 0:=by
 cases x with
 | one c=>
  cases c with
  | o q=>cases q <;> first|exact hx|cases h
  | b _=>cases h
  | i _ _=>cases h
 | agg _=>cases h
 | tup _=>cases h
 | any=>cases h
theorem ERs.length {l:List bF} {ms:List MapEntry} (h:ERs β l ms):ms.length=l.length:=(ERs.get h).symm
theorem nU (hR:Rel m β H w) {id:Nat} {es:List bF} {clock:Nat} (h:H.get id=some (.oth (.map es clock))) {p:Place} (hp:β id 0=some p):
  ∃ ms:List MapEntry,w.heap[p.b]?=some (.map ms.toArray clock)∧ERs β es ms:=by
 obtain ⟨q,hq,ms,h1,h2⟩:=hR.obj id _ h;rw[hp] at hq;cases hq;exact ⟨ms,h1,h2⟩
theorem cY {b:Nat} {es:Array MapEntry} {c:Nat} (h:w.heap[b]?=some (.map es c)):(getObj b).run P w=.ok (.map es c) w:=by
 simp[getObj,Sem.run,h]
theorem im {b:Nat} {m:Option Nat} {s t:Nat} {a:Array Nat} (h:w.heap[b]?=some (.mapIter m s a t)):(getObj b).run P w=.ok (.mapIter m s a t) w:=by
 simp[getObj,Sem.run,h]
theorem Xl (hR:Rel m β H w) {t ty:TypeId} {k:Nat} (ht:eu P t=some k) {x:AV} {v:Value} (hx:AR β x v):
  ah P m β H w (cG H k x) ((do let z ←Builtin.len_ #[t] ty #[v];pure (Next.value z):Sem Next).run P w):=by
 have hu:=UH (P:=P) (t:=t);rw[ht] at hu;match k with
 | 0=>
  refine ue hx ⟨⟩ fun s hs=>?_;subst hs;rw[BR];refine ah.same hR (v:=.int .i64 s.length) ?_ rfl;have:(ByteArray.mk s.toArray).size=s.length:=by show s.toArray.size=_;simp
  simp[Builtin.len_,run_underlying hu,goInt,this]
 | 1=>
  obtain ⟨e,hu⟩:=hu;refine IP hx (ah.guard fun hn=>?_) fun id g off len sz p cap o' _ _ _ _ hv _=>?_
  ·have:=NF hx hn;subst this;refine ah.same hR (v:=.int .i64 0) ?_ rfl;simp[Builtin.len_,run_underlying hu,goInt]
  subst hv;refine ah.same hR (v:=.int .i64 len) ?_ rfl;simp[Builtin.len_,run_underlying hu,goInt]
 | k+2=>
  obtain ⟨a,e,hu⟩:=hu;show ah P m β H w (dQ H x) _;unfold dQ;split
  ·have hv:v=.map none:=hx;subst hv;refine ah.same hR (v:=.int .i64 0) ?_ rfl;simp[Builtin.len_,run_underlying hu,goInt]
  ·rename_i id
   obtain ⟨p,hp,rfl⟩:=hx;split
   ·rename_i es clock hg
    obtain ⟨ms,h1,h2⟩:=nU hR hg hp;refine ah.same hR (v:=.int .i64 es.length) ?_ rfl;simp[Builtin.len_,run_underlying hu,goInt,cY h1,h2.length]
   exact trivial
  exact trivial
theorem Mc (hR:Rel m β H w) {tm:PT AV} {a:Act} (Q0:∀ t,AR β (ay (tm.get t) aF fun v=>v) (a.tmps.getD t undef)) (x:Operand):ah P m β H w ((Pv (opF x)).run tm H) ((pure (Next.value (a.eval x)):Sem Next).run P w):=by
 have h:=bH Q0 x;cases x <;> exact ah.same hR rfl h
theorem UG (hR:Rel m β H w) {tm:PT AV} {a:Act} (Q0:∀ t,AR β (ay (tm.get t) aF fun v=>v) (a.tmps.getD t undef)) (c x y:Operand):
  ah P m β H w ((Wy (opF c) (opF x) (opF y)).run tm H) ((do pure (Next.value (if ←asBool (a.eval c) then a.eval x else a.eval y)):Sem Next).run P w):=by
 refine GQ (bH Q0 c) trivial fun b hb=>?_;refine ah.same hR (v:=if b=true then a.eval x else a.eval y) ?_ ?_
 ·simp[hb,asBool]
 rw[bM];cases b
 ·exact bH Q0 y
 exact bH Q0 x
theorem HG (hR:Rel m β H w) {ρ:Operand→Value} {y:Operand} {x:AV} (hx:AR β x (ρ y)) (o:Oper) (ho:o.op=.nilCheck y):ah P m β H w (fX H x) ((execOp ρ o).run P w):=by
 obtain ⟨dst,op,type,pos,after,guard⟩:=o;cases ho
 generalize hv:ρ y=v at hx;cases x with
 | one c=>
  cases c with
  | o q=>
   cases q <;> first
    | exact trivial
    | (obtain ⟨p,h1,h2,h3⟩:=hx
       subst h3;exact ah.same hR (v:=.pointer (some _)) (by simp only[execOp,hv];rfl) ⟨p,h1,h2,rfl⟩)
    | (obtain ⟨cs,h1,h2⟩:=hx
       subst h1;exact ah.same hR (v:=.func _ #[] _) (by simp only[execOp,hv];rfl) ⟨cs,rfl,h2⟩)
  | b _=>exact trivial
  | i _ _=>exact trivial
 | agg _=>exact trivial
 | tup _=>exact trivial
 | any=>exact trivial
end
section
variable {P:Program} {m:Nat} {β:Pl} {H:Hp} {w:World}
theorem wU (a b:Nat):ifE (Nat.ble a b) a b=Nat.min a b:=by
 rw[bM];show _=min a b;by_cases h:a≤b
 ·rw[zB0 (zA5 h)];omega
 rw[zB1 (fun hh=>h (zA4 hh))];omega
theorem UP (hR:Rel m β H w) (hm:m≤m) {t ty:TypeId} {x y:AV} {v u:Value} (hx:AR β x v) (hy:AR β y u):
  ah P m β H w (BU P H t x y) ((do let z ←Builtin.copy_ #[t,t] ty #[v,u];pure (Next.value z):Sem Next).run P w):=by
 unfold BU;refine ah.nd fun es hes=>?_;obtain ⟨e,sz⟩:=es;obtain ⟨hu,hs⟩:=kX hes;obtain ⟨it,Z2,G1⟩:=iM hs;split
 ·rename_i id g off len sz1 id2 g2 off2 len2 sz2
  refine ah.guard fun hc=>ah.nd fun c X4=>?_;have c1:sz1=sz:=zA3 (ag hc).1;have c2:sz2=sz:=zA3 (ag hc).2;subst c1 c2;rw[wU] at X4;obtain ⟨p,cap,o1,hp,hlen,B8,rfl,hex⟩:=hx;obtain ⟨p2,cap2,o2,P4,h_,hcap2,rfl,hex2⟩:=hy;obtain ⟨cells2,hD2,a3,a4,rfl⟩:=nZ X4;have I0:=hD2 hR P4;have hmin1:Nat.min len2 len≤len2:=Nat.min_le_left _ _;have hmin2:Nat.min len2 len≤len:=Nat.min_le_right _ _;have g_:Nat.min len2 len*sz2≤len2*sz2:=Nat.mul_le_mul_right _ hmin1;have Y8:Nat.min len2 len*sz2≤len*sz2:=Nat.mul_le_mul_right _ hmin2;obtain ⟨vs,E6,N4,J2⟩:=nH I0 off2 (Nat.mul (Nat.min len2 len) sz2) (by show off2+Nat.min len2 len*sz2≤_;omega);have P_:vs.length=Nat.min len2 len*sz2:=E6;have R0:((cells2.drop off2).take (Nat.mul (Nat.min len2 len) sz2)).length=Nat.min len2 len*sz2:=by rw[←P_];exact N4.length.symm
  unfold mE;cases P5:H.get id with
  | none=>exact trivial
  | some ob=>
   cases ob with
   | oth q=>exact trivial
   | ro q=>exact trivial
   | arr cells e' lo gen=>
    refine ah.guard fun hd=>?_;have d1:g=gen:=zA3 (ag hd).1;have d2:=zA4 (ag (ag hd).2).1;rw[wU,bj] at d2;have d2':off+Nat.min len2 len*sz2≤cells.length:=d2;have d3:lo≤gen:=zA4 (ag (ag hd).2).2;subst d1;rw[wU];intro W0;obtain ⟨B1,I_⟩:=oh hR P5 d3 (zA1 _) hp;obtain ⟨cur,hg,F2,Q2⟩:=uJ B1 (I_ rfl) N4 (by rw[R0];exact d2');have Y3:(Builtin.firstCells it.size (Nat.min len2 len) (.slice (some o2) len2 cap2)).run P w=.ok vs.toArray w:=by
     refine fN (by rw[G1];exact P_) (fun j q hj=>?_) len2;have D0:=(List.getElem?_eq_some_iff.1 hj).1;have Z1:o2=⟨p2.b,p2.o+off2,none⟩:=by
      rcases hex2 with h|h
      ·have z':len2=0:=by omega
       rw[P_,z'] at D0;have:Nat.min 0 len=0:=Nat.zero_min _;rw[this] at D0;omega
      exact h.1
     rw[Z1];exact J2 j q hj
    have O2:(storeCells o1 vs).run P w=.ok () (w.setRow p.b (cur.toList.take (p.o+off+0)++vs++cur.toList.drop (p.o+off+0+vs.length)).toArray):=by
     by_cases h0:vs=[]
     ·subst h0;simp only[List.append_nil,List.length_nil,Nat.add_zero,List.take_append_drop,Array.toArray_toList];rw[setRow_self w p.b cur e' (0,0) hg];rfl
     have Z1:o1=⟨p.b,p.o+off,none⟩:=by
      rcases hex with h|h
      ·exfalso;apply h0
       apply List.eq_nil_of_length_eq_zero
       rw[P_];have z':len=0:=by omega
       rw[z'];have:Nat.min len2 0=0:=Nat.min_zero _;rw[this,Nat.zero_mul]
      exact h.1
     rw[Z1];exact run_storeCells_at P p.b (p.o+off) e' vs 0 cur w hg F2 N4.lN
    have T1:=lO hR hm W0 P5 (.arr (eQ cells off ((cells2.drop off2).take (Nat.mul (Nat.min len2 len) sz2))) e' g g) (β':=β)
     (w':=w.setRow p.b (cur.toList.take (p.o+off+0)++vs++cur.toList.drop (p.o+off+0+vs.length)).toArray)
     (fun _ _ _ h=>h) (fun _ _ _=>rfl) (by simp) (by simp) (by simp) (by simp)
     (fun b _ hb=>setRow_other w p.b b _ (fun hh=>hb g p ⟨d3,zA1 _⟩ hp hh.symm))
     (by rw[fz];exact Ml (hR.obj id _ P5) hp Q2 (by rw[ff _ _ _ (by rw[R0];exact d2')];exact I_ rfl))
     (fun g0 p0 W6 U9=>.inr ⟨g,p,⟨d3,zA1 _⟩,hp,by
      have:g0=g:=by have:=W6.1;have:=W6.2;omega
      subst this;rw[hp] at U9;cases U9;rfl⟩)
    refine ⟨.int .i64 (Nat.min len2 len),_,.inl ?_,Out.one rfl T1⟩;simp[Builtin.copy_,run_underlying hu,Builtin.lenOf,sizeOf,typeInfo,Z2,Y3,O2,goInt]
 ·rename_i id g off len sz1
  obtain ⟨p,cap,o1,hp,hlen,B8,rfl,hex⟩:=hx;have hv:u=.slice none 0 0:=hy;subst hv;refine ah.same hR (v:=.int .i64 0) ?_ rfl;simp[Builtin.copy_,run_underlying hu,Builtin.lenOf,Builtin.firstCells,sizeOf,typeInfo,Z2,storeCells,goInt]
 ·rename_i id2 g2 off2 len2 sz2
  obtain ⟨p2,cap2,o2,P4,h_,hcap2,rfl,hex2⟩:=hy;have hv:v=.slice none 0 0:=hx;subst hv;refine ah.same hR (v:=.int .i64 0) ?_ rfl;have h0:Nat.min len2 0=0:=Nat.min_zero _;simp[Builtin.copy_,run_underlying hu,Builtin.lenOf,Builtin.firstCells,sizeOf,typeInfo,Z2,goInt,loadCells,loadCellsFrom]
 ·have hv:v=.slice none 0 0:=hx;have X2:u=.slice none 0 0:=hy;subst hv X2;refine ah.same hR (v:=.int .i64 0) ?_ rfl;simp[Builtin.copy_,run_underlying hu,Builtin.lenOf,Builtin.firstCells,sizeOf,typeInfo,Z2,goInt]
 exact trivial
theorem Ca (hR:Rel m β H w) (hm:m≤m) {t:TypeId} {l c:AV} {v u:Value} (hl:AR β l v) (hc:AR β c u):
  ah P m β H w (gU P H t l c) ((do let z ←Instr.makeSlice t v u;pure (Next.value z):Sem Next).run P w):=by
 unfold gU;refine ah.nd fun es hes=>ah.nd fun by_ hby=>ah.nd fun z hz=>pW hl trivial fun kl n hn=>pW hc trivial fun kc j hj=>ah.nd fun n' E_=>ah.nd fun j' V6=>ah.guard fun hg=>?_;obtain ⟨e,sz⟩:=es;obtain ⟨hu,hs⟩:=kX hes;obtain ⟨ho,B0,it,Z2,G_⟩:=jc hz;obtain ⟨it2,y8,G1⟩:=iM hs;obtain ⟨it3,x8,R5⟩:=oF hby;simp only at Z2 y8 x8
 rw[Z2] at y8 x8;cases y8;cases x8
 have E_:=ny E_;have V6:=ny V6;subst hn hj E_ V6;have g1:n'≤j':=zA4 (ag hg).1;have g2:j'≤1073741824:=zA4 (ag (ag hg).2).1;have g3:j'*by_≤140737488355328:=zA4 (ag (ag (ag hg).2).2).1;have g4:bw (ofValue z).cells=sz:=zA3 (ag (ag (ag hg).2).2).2;intro W0;have M6:H.nx+1≤m:=W0;have hzc:CRs β (ofValue z).cells z.cells.toList:=(dD ho).cells (mX B0);have hzs:z.cells.size=sz:=by rw[←g4,bj];simpa using hzc.length
 have P1:=run_make (P:=P) w t e it z hu Z2 G_ kl kc n' j' (by omega) (by omega) (by rw[R5,←Int.natCast_mul,Nat.mul_comm];omega) (by omega);have W2:CRs β (nq (ofValue z).cells j') (madeCells z.cells (j'*it.size)).toList:=by
  have:=Kz hzc j';rw[hzs] at this;unfold madeCells;rw[G1,hzs];exact this
 have C3:=ud hR hm (by omega) (nq (ofValue z).cells j') (madeCells z.cells (j'*it.size)) e W2 w rfl rfl rfl rfl #[];refine ⟨.slice (some ⟨w.heap.size,0,none⟩) n' j',_,.inl ?_,Out.one ?_ (by simpa using C3)⟩
 ·simp only[Sem.run_bind,P1,Result.andThen_ok,Int.toNat_natCast];rfl
 refine ⟨_,j',_,aO _ _ _ _,?_,g1,rfl,.inr ⟨rfl,?_⟩⟩
 ·show 0+n'*sz≤(nq (ofValue z).cells j').length;have:n'*sz≤j'*sz:=Nat.mul_le_mul_right _ g1;rw[uN,←bj,g4];omega
 show 0+0+j'*sz≤(madeCells z.cells (j'*it.size)).size+0;rw[size_madeCells,G1];omega
theorem Ap:∀ {l:List AV} {vs:List Value} {cs:List (Nat×Nat×Nat×Nat)},ia l=some cs→ARs β l vs →
  vs.length=cs.length∧∀ (k:Nat) (c:Nat×Nat×Nat×Nat) (v:Value),cs[k]?=some c→vs[k]?=some v→∃ p,β c.1 c.2.1=some p∧c.2.2.1+c.2.2.2≤p.hi∧v=.pointer (some ⟨p.b,p.o+c.2.2.1,none⟩)
 | [],vs,cs,h,hr=>by
  cases h
  cases vs with
  | nil=>exact ⟨rfl,fun k c v hc _=>by simp at hc⟩
  | cons=>exact hr.elim
 | x::l,vs,cs,h,hr=>by
  cases vs with
  | nil=>exact hr.elim
  | cons v vs=>
   unfold ia at h;split at h
   ·rename_i heq
    cases heq
   ·rename_i id g off lim l' heq
    cases heq
    split at h
    ·rename_i r Y2
     cases h
     obtain ⟨h1,h2⟩:=Ap Y2 hr.2;refine ⟨by simp[h1],fun k c u hc hu=>?_⟩;cases k with
     | zero=>
      simp at hc hu
      subst hc hu;exact hr.1
     | succ k=>exact h2 k c u (by simpa using hc) (by simpa using hu)
    cases h
   cases h
theorem Jo {tm:PT AV} {a:Act} (Q0:∀ t,AR β (ay (tm.get t) aF fun v=>v) (a.tmps.getD t undef)):∀ (l:List Operand),ARs β (evs l tm) (l.map a.eval)
 | []=>trivial
 | x::l=>⟨bH Q0 x,Jo Q0 l⟩
theorem oZ:∀ {cs:List (Nat×Nat×Nat×Nat)} {vs:List Value},vs.length=cs.length →
  (∀ (k:Nat) (c:Nat×Nat×Nat×Nat) (v:Value),cs[k]?=some c→vs[k]?=some v→∃ p,β c.1 c.2.1=some p∧c.2.2.1+c.2.2.2≤p.hi∧v=.pointer (some ⟨p.b,p.o+c.2.2.1,none⟩))→ARs β (dX cs) vs
 | [],[],_,_=>trivial
 | (id,g,off,lim)::cs,v::vs,hl,h=>⟨h 0 _ _ rfl rfl,oZ (by simpa using hl) fun k c u hc hu=>h (k+1) c u (by simpa using hc) (by simpa using hu)⟩
 | [],_::_,hl,_=>by simp at hl
 | _::_,[],hl,_=>by simp at hl
theorem EN (hR:Rel m β H w) {tm:PT AV} {a:Act} (Q0:∀ t,AR β (ay (tm.get t) aF fun v=>v) (a.tmps.getD t undef)) (f:FuncId) (caps:Array Operand):
  ah P m β H w (nd (ia (evs caps.toList tm)) "makeFunc - captured" fun cs=>.val (.one (.o (.clo f cs))) H) ((do let z ←Instr.makeFunc (.func f) (#[].map a.eval) (caps.map a.eval);pure (Next.value z):Sem Next).run P w):=by
 refine ah.nd fun cs W2=>?_;obtain ⟨h1,h2⟩:=Ap W2 (Jo Q0 caps.toList);refine ah.same hR (v:=.func (.func f) #[] (caps.map a.eval)) (by simp[Instr.makeFunc]) ⟨caps.toList.map a.eval,by rw[←Array.toList_map,Array.toArray_toList],h1,h2⟩
theorem JV (hR:Rel m β H w) (hm:m≤m) (t:TypeId):
  ah P m β H w (.val (.one (.o (.mp H.nx))) (H.new (.oth (.map [] 0)))) ((do let z ←Instr.makeMap t none;pure (Next.value z):Sem Next).run P w):=by
 intro W0;have M6:H.nx+1≤m:=W0;have C3:=lf hR hm (by omega) (.oth (.map [] 0)) ⟨w.heap.size,0,0,0⟩ (w':=w.alloc (.map #[] 0)) (zA1 _) (by simp) rfl rfl rfl
  (fun b hb=>RowKit.Below.heap_alloc w _ b hb) (fun g hg=>hg) ⟨_,aO _ _ _ _,[],heap_alloc_new w _,trivial⟩
 exact ⟨.map (some w.heap.size),_,.inl rfl,Out.one ⟨_,aO _ _ _ _,rfl⟩ C3⟩
theorem Wh {f:AV} {args:List AV} {v:Value} {vs:List Value} (hf:AR β f v) (A0:ARs β args vs):
  ah P m β H w (lG P f args) ((do let d ←Deferred.ofValue v vs.toArray;invoke d.target d.args:Sem Next).run P w):=by
 cases f with
 | one c=>
  cases c with
  | o q=>
   cases q <;> first
    | exact trivial
    | skip
   ·rename_i g caps
    obtain ⟨cs,rfl,hl,hc⟩:=hf;refine ah.guard fun hb=>?_;refine ⟨vs++cs,?_,A0.append (oZ hl hc),hb⟩;simp[Deferred.ofValue,invoke]
   rename_i id
   obtain ⟨p,hp,rfl⟩:=hf;exact ⟨p,vs,hp,A0,by simp[Deferred.ofValue,invoke]⟩
  | b _=>exact trivial
  | i _ _=>exact trivial
 | agg _=>exact trivial
 | tup _=>exact trivial
 | any=>exact trivial
end
theorem yX {α:Type} {x:AV} {f:List UInt8→Option α} {r:α} (h:ij x none f=some r):∃ s,x=.one (.o (.str s))∧f s=some r:=by
 cases x with
 | one c=>
  cases c with
  | o q=>cases q <;> first|exact ⟨_,rfl,h⟩|cases h
  | b _=>cases h
  | i _ _=>cases h
 | agg _=>cases h
 | tup _=>cases h
 | any=>cases h
theorem ym {x:AV} {f:List UInt8→Bool} (h:ij x false f=true):∃ s,x=.one (.o (.str s))∧f s=true:=by
 cases x with
 | one c=>
  cases c with
  | o q=>cases q <;> first|exact ⟨_,rfl,h⟩|cases h
  | b _=>cases h
  | i _ _=>cases h
 | agg _=>cases h
 | tup _=>cases h
 | any=>cases h
theorem yz {α:Type} {x:AV} {f:IntKind→Int→Option α} {r:α} (h:eF x none f=some r):∃ k n,x=.one (.i k n)∧f k n=some r:=by
 cases x with
 | one c=>
  cases c with
  | o q=>cases h
  | b _=>cases h
  | i _ _=>exact ⟨_,_,rfl,h⟩
 | agg _=>cases h
 | tup _=>cases h
 | any=>cases h
theorem yI {x:AV} {f:IntKind→Int→Bool} (h:eF x false f=true):∃ k n,x=.one (.i k n)∧f k n=true:=by
 cases x with
 | one c=>
  cases c with
  | o q=>cases h
  | b _=>cases h
  | i _ _=>exact ⟨_,_,rfl,h⟩
 | agg _=>cases h
 | tup _=>cases h
 | any=>cases h
theorem cZ {α γ:Type} {x:Option α} {f:α→Option γ} {r:γ} (h:ay x none f=some r):∃ a,x=some a∧f a=some r:=by
 cases x with
 | none=>cases h
 | some a=>exact ⟨a,rfl,h⟩
theorem Ao {α:Type} {x:Option α} {f:α→Bool} (h:ay x false f=true):∃ a,x=some a∧f a=true:=by
 cases x with
 | none=>cases h
 | some a=>exact ⟨a,rfl,h⟩
section
variable {P:Program} {m:Nat} {β:Pl} {H:Hp} {w:World}
theorem pD (kt:TypeId):
  match bA P kt with
  | 0=>P.underlying kt=some .string
  | 1=>∃ k,P.underlying kt=some (.int k)
  | 2=>∃ d,P.underlying kt=some d∧∀ a b,Instr.sameNow d a b=none
  | _=>True:=by
 unfold bA;cases h:P.underlying kt with
 | none=>exact trivial
 | some d=>cases d <;> first|exact trivial|rfl|exact ⟨_,rfl⟩|exact ⟨_,rfl,fun a b=>by cases a <;> cases b <;> rfl⟩
theorem mA (empty:Bool) (d:Nat) {t:TypeId} (v:Value) (h:P.underlying t=some .string∨∃ k,P.underlying t=some (.int k)):(Instr.checkKey empty (d+1) t v).run P w=.ok () w:=by
 rcases h with h|⟨k,h⟩ <;> simp[Instr.checkKey,run_underlying h]
theorem wN {empty:Bool} {kt:TypeId} {k:AV} {v:Value} (hk:AR β k v) (h:iy P empty kt k=some ()):(Instr.checkKey empty 10000 kt v).run P w=.ok () w:=by
 have G3:=pD (P:=P) kt;unfold iy at h;match hn:bA P kt with
 | 0=>rw[hn] at G3;exact mA empty 9999 v (.inl G3)
 | 1=>rw[hn] at G3;exact mA empty 9999 v (.inr G3)
 | 2=>
  rw[hn] at h;obtain ⟨u,hu,hr⟩:=cZ h;rw[AV.iN hu hk];exact pj hr w
 | n+3=>rw[hn] at h;cases h
def EqR (P:Program) (kt:TypeId) (v u:Value) (b:Bool):Prop:=
 match bA P kt with
 | 0=>∃ x y,v=.string x∧u=.string y∧b=(x==y)
 | 1=>∃ k x y,v=.int k x∧u=.int k y∧b=(x==y)
 | 2=>aw P (Op.equal kt v u)=some b
 | _=>False
theorem bytes_beq (x y:List UInt8):(ByteArray.mk x.toArray==ByteArray.mk y.toArray)=(x==y):=by
 show (x.toArray==y.toArray)=_;simp
theorem Gk {kt:TypeId} {a b:AV} {v u:Value} (ha:AR β a v) (hb:AR β b u) {r:Bool} (h:jF P kt a b=some r):EqR P kt v u r:=by
 unfold jF at h;unfold EqR;match hn:bA P kt with
 | 0=>
  rw[hn] at h;obtain ⟨x,hx,h1⟩:=yX h;obtain ⟨y,hy,h2⟩:=yX h1;subst hx hy;cases h2
  exact ⟨_,_,ha,hb,by rw[cM,bytes_beq]⟩
 | 1=>
  rw[hn] at h;obtain ⟨k,x,hx,h1⟩:=yz h;obtain ⟨k',y,hy,h2⟩:=yz h1;subst hx hy;rw[bM] at h2;split at h2
  ·rename_i hk
   have:=jJ hk;subst this;cases h2
   exact ⟨k,x,y,ha,hb,sF _ _⟩
  cases h2
 | 2=>
  rw[hn] at h;obtain ⟨x,hx,h1⟩:=cZ h;obtain ⟨y,hy,h2⟩:=cZ h1;rw[AV.iN hx ha,AV.iN hy hb];exact h2
 | n+3=>rw[hn] at h;cases h
inductive Scan (P:Program) (kt:TypeId) (v:Value):List MapEntry→Option Nat→Prop
 | nil:Scan P kt v [] none
 | Z2 {e:MapEntry} {es:List MapEntry}:EqR P kt v e.key true→Scan P kt v (e::es) (some 0)
 | miss {e:MapEntry} {es:List MapEntry} {r:Option Nat}:EqR P kt v e.key false→Scan P kt v es r→Scan P kt v (e::es) (r.map (·+1))
theorem Scan.now {kt:TypeId} {v:Value} {d:TypeDesc} (hd:P.underlying kt=some d) (hk:bA P kt<2) {ms:List MapEntry} {r:Option Nat} (h:Scan P kt v ms r):∀ j,
  match r with
  | none=>Instr.findNow d v ms j=some none
  | some i=>∃ e,ms[i]?=some e∧Instr.findNow d v ms j=some (some (j+i,e.val)):=by
 have key:∀ u b,EqR P kt v u b→Instr.sameNow d v u=some b:=by
  intro u b hb;have G3:=pD (P:=P) kt;unfold EqR at hb;match hn:bA P kt with
  | 0=>
   rw[hn] at hb G3;rw[hd] at G3;cases G3;obtain ⟨x,y,rfl,rfl,rfl⟩:=hb;rfl
  | 1=>
   rw[hn] at hb G3;obtain ⟨k,G3⟩:=G3;rw[hd] at G3;cases G3;obtain ⟨k,x,y,rfl,rfl,rfl⟩:=hb;simp[Instr.sameNow]
  | n+2=>omega
 induction h with
 | nil=>intro j;rfl
 | Z2 he=>intro j;exact ⟨_,rfl,by simp[Instr.findNow,key _ _ he]⟩
 | miss he _ ih=>
  rename_i e es r _
  intro j;have:=ih (j+1);cases r with
  | none=>simpa [Instr.findNow,key _ _ he] using this
  | some i=>
   obtain ⟨e',h1,h2⟩:=this;refine ⟨e',by simpa using h1,?_⟩;simp only[Instr.findNow,key _ _ he,h2];congr 3
   omega
theorem Scan.Xz {kt:TypeId} {v:Value} (hk:bA P kt=2) {ms:List MapEntry} {r:Option Nat} (h:Scan P kt v ms r):∀ j,
  match r with
  | none=>(Instr.findAsking kt v ms j).run P w=.ok none w
  | some i=>∃ e,ms[i]?=some e∧(Instr.findAsking kt v ms j).run P w=.ok (some (j+i,e.val)) w:=by
 have key:∀ u b,EqR P kt v u b→(Op.equal kt v u).run P w=.ok b w:=by
  intro u b hb;unfold EqR at hb;rw[hk] at hb;exact pj hb w
 induction h with
 | nil=>intro j;rfl
 | Z2 he=>intro j;exact ⟨_,rfl,by simp[Instr.findAsking,key _ _ he]⟩
 | miss he _ ih=>
  rename_i e es r _
  intro j;have:=ih (j+1);cases r with
  | none=>simpa [Instr.findAsking,key _ _ he] using this
  | some i=>
   obtain ⟨e',h1,h2⟩:=this;refine ⟨e',by simpa using h1,?_⟩;simp only[Instr.findAsking,Sem.run_bind,key _ _ he,Result.andThen_ok,h2,Bool.false_eq_true,if_false];congr 3
   omega
theorem Scan.run {kt:TypeId} {v:Value} {ms:List MapEntry} {r:Option Nat} (h:Scan P kt v ms r) (hk:bA P kt≤2):
  match r with
  | none=>(Instr.findKey kt v ms).run P w=.ok none w
  | some i=>∃ e,ms[i]?=some e∧(Instr.findKey kt v ms).run P w=.ok (some (i,e.val)) w:=by
 have G3:=pD (P:=P) kt;obtain ⟨d,hd⟩:∃ d,P.underlying kt=some d:=by
  match hn:bA P kt with
  | 0=>rw[hn] at G3;exact ⟨_,G3⟩
  | 1=>rw[hn] at G3;obtain ⟨k,G3⟩:=G3;exact ⟨_,G3⟩
  | 2=>rw[hn] at G3;obtain ⟨d,G3,_⟩:=G3;exact ⟨_,G3⟩
  | n+3=>omega
 rcases Nat.lt_or_ge (bA P kt) 2 with h2|h2
 ·have:=Scan.now hd h2 h 0;cases r with
  | none=>simp only at this ⊢;simp[Instr.findKey,run_underlying hd,this]
  | some i=>
   obtain ⟨e,h1,h3⟩:=this;exact ⟨e,h1,by simp[Instr.findKey,run_underlying hd,h3]⟩
 have W4:bA P kt=2:=by omega
 rw[W4] at G3;obtain ⟨d',M_,f_⟩:=G3;rw[hd] at M_;cases M_;cases ms with
 | nil=>
  cases h
  simp[Instr.findKey,run_underlying hd,Instr.findNow]
 | cons e es=>
  have hn:Instr.findNow d v (e::es) 0=none:=by simp[Instr.findNow,f_]
  have:=Scan.Xz (w:=w) W4 h 0;cases r with
  | none=>simp only at this ⊢;simp[Instr.findKey,run_underlying hd,hn,this]
  | some i=>
   obtain ⟨e,h1,h3⟩:=this;exact ⟨e,h1,by simp[Instr.findKey,run_underlying hd,hn,h3]⟩
theorem iW {kt:TypeId} {empty:Bool} {k:AV} (h:iy P empty kt k=some ()):bA P kt≤2:=by
 unfold iy at h;match hn:bA P kt with
 | 0=>omega
 | 1=>omega
 | 2=>omega
 | n+3=>rw[hn] at h;cases h
theorem vL {kt:TypeId} {k:AV} {v:Value} (hk:AR β k v):∀ {l:List bF} {ms:List MapEntry},ERs β l ms→∀ {r:Option bF},jO P kt k l=some r →
  ∃ i,Scan P kt v ms i∧match r with
   | none=>i=none
   | some e=>∃ j,i=some j∧l[j]?=some e
 | [],[],_,r,h=>by cases h;exact ⟨none,.nil,rfl⟩
 | a::l,b::ms,hE,r,h=>by
  have h':ay (jF P kt k a.key) none (fun b=>ifE b (some (some a)) (jO P kt k l))=some r:=h;obtain ⟨q,hq,h'⟩:=cZ h';have he:=Gk hk hE.1.1 hq;rw[bM] at h';cases q with
  | true=>
   cases h'
   exact ⟨some 0,.Z2 he,0,rfl,rfl⟩
  | false=>
   obtain ⟨i,hs,hi⟩:=vL hk hE.2 h';refine ⟨_,.miss he hs,?_⟩;cases r with
   | none=>simp only at hi ⊢;rw[hi];rfl
   | some e=>
    obtain ⟨j,rfl,hj⟩:=hi;exact ⟨j+1,rfl,by simpa using hj⟩
 | [],_::_,hE,_,_=>hE.elim
 | _::_,[],hE,_,_=>hE.elim
theorem ERs.at {l:List bF} {ms:List MapEntry} (h:ERs β l ms) {i:Nat} {e:bF} {me:MapEntry} (h1:l[i]?=some e) (h2:ms[i]?=some me):
  AR β e.key me.key∧e.key.bz=true∧AR β e.val me.val∧e.val.bz=true∧me.born=e.born:=by
 induction l generalizing ms i with
 | nil=>simp at h1
 | cons a l ih=>
  cases ms with
  | nil=>exact h.elim
  | cons b ms=>
   cases i with
   | zero=>simp at h1 h2;subst h1 h2;exact h.1
   | succ i=>exact ih h.2 (by simpa using h1) (by simpa using h2)
theorem rf {v:AV} {u:Value} (h:AR β v u) (hn:v.bz=true):TR β (Oj v) u:=by
 cases v with
 | one c=>exact h
 | agg l=>exact h
 | tup l=>cases hn
 | any=>cases hn
theorem pk (hR:Rel m β H w) {ok:Bool} {v:AV} {u:Value} {b:Bool} (hv:AR β v u) {r:Result Next} (hr:r=.ok (.value (if ok then .tuple #[u,.bool b] else u)) w):ah P m β H w (bC H ok v b) r:=by
 cases ok with
 | false=>exact ah.same hR hr hv
 | true=>
  refine ah.guard fun hn=>ah.same hR hr ⟨[u,.bool b],⟨rf hv hn,rfl,trivial⟩,rfl⟩
theorem Ot (hR:Rel m β H w) {t kt et:TypeId} (ht:ic P t=some (kt,et)) {z:Value} (hz:aB P et=some z) {mp k:AV} {v u:Value} (hm:AR β mp v) (hk:AR β k u) (ok:Bool):
  ah P m β H w (bk P H kt (ofValue z) mp k ok) ((do let y ←Instr.lookup t v u ok;pure (Next.value y):Sem Next).run P w):=by
 have hu:=Bv ht;obtain ⟨ho,B0,it,Z2,G_⟩:=jc hz;unfold bk;split
 ·refine ah.nd fun _ b6=>?_;have hc:=wN (P:=P) (w:=w) hk b6;have hv:v=.map none:=hm;subst hv;have hf:(Instr.findKey kt u []).run P w=.ok none w:=Scan.run .nil (iW b6);refine pk hR (u:=z) (dD ho) ?_;simp[Instr.lookup,run_underlying hu,hc,hf,eO hz]
 ·rename_i id
  obtain ⟨p,hp,rfl⟩:=hm;split
  ·rename_i es clock hg
   obtain ⟨ms,h1,h2⟩:=nU hR hg hp;refine ah.nd fun _ b6=>?_;have K_:es.isEmpty=ms.isEmpty:=by
    have:=h2.length;cases es <;> cases ms <;> first|rfl|simp at this
   have hc:=wN (P:=P) (w:=w) hk b6;rw[K_] at hc;split
   ·rename_i e hf
    obtain ⟨i,hs,j,rfl,hj⟩:=vL hk h2 hf;obtain ⟨me,hme,P1⟩:=Scan.run (w:=w) hs (iW b6);refine pk hR (u:=me.val) (h2.at hj hme).2.2.1 ?_;simp[Instr.lookup,run_underlying hu,cY h1,hc,P1]
   ·rename_i hf
    obtain ⟨i,hs,rfl⟩:=vL hk h2 hf;have P1:=Scan.run (w:=w) hs (iW b6);simp only at P1
    refine pk hR (u:=z) (dD ho) ?_;simp[Instr.lookup,run_underlying hu,cY h1,hc,P1,eO hz]
   exact trivial
  exact trivial
 exact trivial
end
section
variable {P:Program} {m:Nat} {β:Pl} {H:Hp} {w:World}
theorem lF (hR:Rel m β H w) (hm:m≤m) (W0:H.nx≤m) {id:Nat} {x:Nt} (ho:H.get id=some (.oth x)) (x':Nt) {p:Place} (hp:β id 0=some p) (w0:World) (h0:w0.heap=w.heap) (hos:w0.os=w.os) (G5:w0.tape=w.tape) (W3:w0.output=w.output)
  (o:Obj) (hx:∀ w':World,w'.heap[p.b]?=some o→Ed β w' p x'):
  Rel m β (H.mod id (.oth x')) { w0 with heap:=w0.heap.setIfInBounds p.b o }∧Ext β H w β (H.mod id (.oth x')) { w0 with heap:=w0.heap.setIfInBounds p.b o }:=by
 have D0:p.b<w.heap.size:=by
  obtain ⟨q,hq,hqx⟩:=hR.obj id _ ho;rw[hp] at hq;cases hq;exact hqx.lt
 refine lO hR hm W0 ho (.oth x') (fun _ _ _ h=>h) (fun _ _ _=>rfl) (by simp[h0]) hos G5 W3 ?_ ?_ ?_
 ·intro b hb hn;have:p.b≠b:=hn 0 p rfl hp;show (w0.heap.setIfInBounds p.b o)[b]?=_;rw[Array.getElem?_setIfInBounds_ne this,h0]
 ·refine ⟨p,hp,hx _ ?_⟩;show (w0.heap.setIfInBounds p.b o)[p.b]?=_;rw[Array.getElem?_setIfInBounds_self,h0,zB0 D0]
 intro g q hg hq;have M1:g=0:=hg;subst M1;exact .inr ⟨0,p,rfl,hp,by rw[hp] at hq;cases hq;rfl⟩
theorem Cn (n:Nat) (x y:ByteArray):Instr.sameBits n (.string x) (.string y)=(x==y):=by cases n <;> rfl
theorem CH (n:Nat) (k k':IntKind) (x y:Int):Instr.sameBits n (.int k x) (.int k' y)=(k==k'&&x==y):=by cases n <;> rfl
theorem Ji {kt:TypeId} {a b:AV} {v u:Value} (ha:AR β a v) (hb:AR β b u) (h:sameKey P kt a b=true):Instr.sameBits 10000 v u=true:=by
 unfold sameKey at h;match hn:bA P kt with
 | 0=>
  rw[hn] at h;obtain ⟨x,hx,h1⟩:=ym h;obtain ⟨y,hy,h2⟩:=ym h1;subst hx hy;have ha':v=.string ⟨x.toArray⟩:=ha;have D5:u=.string ⟨y.toArray⟩:=hb;subst ha' D5;rw[Cn,bytes_beq,←cM];exact h2
 | 1=>
  rw[hn] at h;obtain ⟨k,x,hx,h1⟩:=yI h;obtain ⟨k',y,hy,h2⟩:=yI h1;subst hx hy;have ha':v=.int k x:=ha;have D5:u=.int k' y:=hb;subst ha' D5;obtain ⟨h3,h4⟩:=ag h2;have:=jJ h3;subst this;rw[sF] at h4;rw[CH];simpa using h4
 | n+2=>
  rw[hn] at h;obtain ⟨x,hx,h1⟩:=Ao h;obtain ⟨y,hy,h2⟩:=Ao h1;rw[AV.iN hx ha,AV.iN hy hb];exact h2
theorem Me {kt:TypeId} {k x:AV} {v u:Value} (hk:AR β k v) (V9:k.bz=true) (hx:AR β x u) (hxn:x.bz=true):∀ {l:List bF} {ms:List MapEntry},ERs β l ms→∀ {r:Bool×List bF},my P kt k x l=some r →
  match r.1 with
  | false=>Scan P kt v ms none
  | true=>∃ i me,Scan P kt v ms (some i)∧ms[i]?=some me∧Instr.sameBits 10000 me.key v=true∧ERs β r.2 (ms.modify i fun e=>{ e with key:=v,val:=u })
 | [],[],_,r,h=>by cases h;exact .nil
 | a::l,b::ms,hE,r,h=>by
  have h':ay (jF P kt k a.key) none (fun b=>ifE b (ifE (sameKey P kt a.key k) (some (true,⟨k,x,a.born⟩::l)) none) (ay (my P kt k x l) none fun r=>some (r.1,a::r.2)))=some r:=h;obtain ⟨q,hq,h1⟩:=cZ h';have he:=Gk hk hE.1.1 hq;rw[bM] at h1;cases q with
  | true=>
   rw[zB0 rfl,bM] at h1;split at h1
   ·rename_i hs
    cases h1
    refine ⟨0,b,.Z2 he,rfl,Ji hE.1.1 hk hs,?_⟩;exact ⟨⟨hk,V9,hx,hxn,hE.1.2.2.2.2⟩,hE.2⟩
   cases h1
  | false=>
   obtain ⟨r',Y2,h2⟩:=cZ h1;cases h2
   have:=Me hk V9 hx hxn hE.2 Y2;obtain ⟨b1,l1⟩:=r';cases b1 with
   | false=>exact .miss he this
   | true=>
    obtain ⟨i,me,h3,h4,h5,h6⟩:=this;refine ⟨i+1,me,.miss he h3,by simpa using h4,h5,?_⟩;simp only[List.modify_succ_cons];exact ⟨hE.1,h6⟩
 | [],_::_,hE,_,_=>hE.elim
 | _::_,[],hE,_,_=>hE.elim
theorem ERs.append {l l':List bF} {ms ms':List MapEntry} (h:ERs β l ms) (h':ERs β l' ms'):ERs β (l++l') (ms++ms'):=by
 induction l generalizing ms with
 | nil=>cases ms with|nil=>exact h'|cons=>exact h.elim
 | cons c l ih=>cases ms with|nil=>exact h.elim|cons v ms=>exact ⟨h.1,ih h.2⟩
theorem rH (hR:Rel m β H w) (hm:m≤m) {t kt et:TypeId} (ht:ic P t=some (kt,et)) {mp k x:AV} {v u y:Value} (hmp:AR β mp v) (hk:AR β k u) (hx:AR β x y):
  ah P m β H w (aT P H kt mp k x) ((do Instr.mapUpdate t v u y;pure Next.skip:Sem Next).run P w):=by
 have hu:=Bv ht;unfold aT;split
 ·rename_i id
  obtain ⟨p,hp,rfl⟩:=hmp;split
  ·rename_i es clock hg
   obtain ⟨ms,h1,h2⟩:=nU hR hg hp;refine ah.nd fun _ b6=>ah.guard fun B0=>ah.nd fun r hr=>?_;have hc:=wN (P:=P) (w:=w) hk b6;have hput:=Me hk (ag B0).1 hx (ag B0).2 h2 hr;obtain ⟨b,l⟩:=r;cases b with
   | false=>
    have P1:=Scan.run (w:=w) hput (iW b6);simp only at P1
    intro W0;have J6:∀ o,(setObj p.b o).run P w=_:=fun o=>MapKept.run_setObj_map o h1;refine ⟨undef,_,.inr ⟨?_,rfl⟩,Out.one ⟨[],trivial,rfl⟩ (lF hR hm W0 hg _ hp w rfl rfl rfl rfl (.map (ms.toArray.push { key:=u,val:=y,born:=clock }) (clock+1)) ?_)⟩
    ·simp[Instr.mapUpdate,run_underlying hu,cY h1,hc,P1,J6]
    intro w' U1;refine ⟨ms++[{ key:=u,val:=y,born:=clock }],by rw[U1];simp,?_⟩;exact h2.append ⟨⟨hk,(ag B0).1,hx,(ag B0).2,rfl⟩,trivial⟩
   | true=>
    obtain ⟨i,me,h3,h4,h5,h6⟩:=hput;obtain ⟨me',hme',P1⟩:=Scan.run (w:=w) h3 (iW b6);intro W0;have J6:∀ o,(setObj p.b o).run P w=_:=fun o=>MapKept.run_setObj_map o h1;refine ⟨undef,_,.inr ⟨?_,rfl⟩,Out.one ⟨[],trivial,rfl⟩ (lF hR hm W0 hg _ hp w rfl rfl rfl rfl (.map (ms.toArray.modify i fun e=>{ e with key:=u,val:=y }) clock) ?_)⟩
    ·simp[Instr.mapUpdate,run_underlying hu,cY h1,hc,P1,h4,Instr.keyThatStays,h5,J6]
    intro w' U1;exact ⟨ms.modify i fun e=>{ e with key:=u,val:=y },by rw[U1];simp,h6⟩
  exact trivial
 exact trivial
theorem Py (hR:Rel m β H w) (hm:m≤m) {t kt et:TypeId} (ht:ic P t=some (kt,et)) {x:AV} {v:Value} (hx:AR β x v):
  ah P m β H w (iH H x) ((do let y ←Instr.range t v;pure (Next.value y):Sem Next).run P w):=by
 have hu:=Bv ht;unfold iH;split
 ·have hv:v=.map none:=hx;subst hv;intro W0;have M6:H.nx+1≤m:=W0;have C3:=lf hR hm (by omega) (.oth (.iter none 0 [] 0)) ⟨w.heap.size,0,0,0⟩ (w':=w.alloc (.mapIter none 0 #[] 0)) (zA1 _) (by simp) rfl rfl rfl
   (fun b hb=>RowKit.Below.heap_alloc w _ b hb) (fun g hg=>hg) ⟨_,aO _ _ _ _,heap_alloc_new w _⟩
  refine ⟨.pointer (some ⟨w.heap.size,0,none⟩),_,.inl ?_,Out.one ⟨_,aO _ _ _ _,rfl⟩ C3⟩;simp only[Sem.run_bind,run_range_nilMap w t kt et hu,Result.andThen_ok];rfl
 ·rename_i id
  obtain ⟨p,hp,rfl⟩:=hx;split
  ·rename_i es clock hg
   obtain ⟨ms,h1,h2⟩:=nU hR hg hp;intro W0;have M6:H.nx+1≤m:=W0;have Y0:¬(id=H.nx∧(0:Nat)=0):=by have:=hR.PJ hg;omega
   have C3:=lf hR hm (by omega) (.oth (.iter (some id) clock [] clock)) ⟨w.heap.size,0,0,0⟩ (w':=w.alloc (.mapIter (some p.b) clock #[] clock)) (zA1 _) (by simp) rfl rfl rfl
    (fun b hb=>RowKit.Below.heap_alloc w _ b hb) (fun g hg=>hg) ⟨_,aO _ _ _ _,p,by rw[bI _ _ _ _ Y0];exact hp,heap_alloc_new w _⟩
   refine ⟨.pointer (some ⟨w.heap.size,0,none⟩),_,.inl ?_,Out.one ⟨_,aO _ _ _ _,rfl⟩ C3⟩;simp only[Sem.run_bind,run_range_map w t kt et p.b ms.toArray clock hu h1,Result.andThen_ok];rfl
  exact trivial
 exact trivial
theorem ERs.filter {f:bF→Bool} {g:MapEntry→Bool} (hfg:∀ e me,me.born=e.born→f e=g me):∀ {l:List bF} {ms:List MapEntry},ERs β l ms→ERs β (l.filter f) (ms.filter g)
 | [],[],_=>trivial
 | a::l,b::ms,h=>by
  have h1:=hfg a b h.1.2.2.2.2;have ih:=ERs.filter hfg h.2;rw[List.filter_cons,List.filter_cons,h1];cases g b with
  | true=>exact ⟨h.1,ih⟩
  | false=>exact ih
 | [],_::_,h=>h.elim
 | _::_,[],h=>h.elim
theorem ERs.all {f:bF→Bool} {g:MapEntry→Bool} (hfg:∀ e me,me.born=e.born→f e=g me):∀ {l:List bF} {ms:List MapEntry},ERs β l ms→l.all f=ms.all g
 | [],[],_=>rfl
 | a::l,b::ms,h=>by
  rw[List.all_cons,List.all_cons,hfg a b h.1.2.2.2.2,ERs.all hfg h.2]
 | [],_::_,h=>h.elim
 | _::_,[],h=>h.elim
theorem ERs.isEmpty {l:List bF} {ms:List MapEntry} (h:ERs β l ms):l.isEmpty=ms.isEmpty:=by
 have:=h.length;cases l <;> cases ms <;> first|rfl|simp at this
theorem uP (hR:Rel m β H w) {id:Nat} {mm:Option Nat} {since last:Nat} {seen:List Nat} (h:H.get id=some (.oth (.iter mm since seen last))) {p:Place} (hp:β id 0=some p):
  match mm with
  | none=>w.heap[p.b]?=some (.mapIter none since seen.toArray last)
  | some i=>∃ q,β i 0=some q∧w.heap[p.b]?=some (.mapIter (some q.b) since seen.toArray last):=by
 obtain ⟨q,hq,h1⟩:=hR.obj id _ h;rw[hp] at hq;cases hq;cases mm with
 | none=>exact h1
 | some i=>exact h1
theorem oI {r b since last clock:Nat} {seen:List Nat} {ms:List MapEntry} (ty:TypeId) (h1:w.heap[r]?=some (.mapIter (some b) since seen.toArray last)) (h2:w.heap[b]?=some (.map ms.toArray clock))
  (hc:(!seen.isEmpty&&!ms.isEmpty&&ms.all (fun e=>decide (e.born≥last)))=false) (hold:∀ e∈ms.filter (fun e=>!seen.contains e.born),e.born<since):
  (ms.filter (fun e=>!seen.contains e.born)=[]→(Instr.next (.pointer (some ⟨r,0,none⟩)) false ty).run P w=.ok (.tuple #[.bool false]) w) ∧
  (ms.filter (fun e=>!seen.contains e.born)≠[]→∃ (j:Nat) (e:MapEntry) (w1:World),(ms.filter (fun e=>!seen.contains e.born))[j]?=some e∧w1.heap=w.heap∧w1.os=w.os∧w1.tape=w.tape∧w1.output=w.output ∧
   (Instr.next (.pointer (some ⟨r,0,none⟩)) false ty).run P w=.ok (.tuple #[.bool true,e.key,e.val]) { w1 with heap:=w1.heap.setIfInBounds r (.mapIter (some b) since (seen.toArray.push e.born) clock) }):=by
 have hc':(!seen.toArray.isEmpty&&!ms.toArray.isEmpty&&ms.toArray.all (fun e=>decide (e.born≥last)))=false:=by simpa using hc
 have hf:ms.toArray.filter (fun e=>!seen.toArray.contains e.born)=(ms.filter (fun e=>!seen.contains e.born)).toArray:=by simp
 simp only[Instr.next,Sem.run_bind,im h1,cY h2,Result.andThen_ok,hc',Bool.false_eq_true,if_false,hf];generalize ms.filter (fun e=>!seen.contains e.born)=L at hold;have e1:L.toArray.filter (fun x=>decide (x.born<since))=L.toArray:=Array.filter_eq_self.2 (fun x hx=>by simpa using hold x (by simpa using hx));have e2:L.toArray.filter (fun x=>decide (x.born≥since))=#[]:=by
  rw[Array.filter_eq_empty_iff];intro x hx;have:=hold x (by simpa using hx);simp
  omega
 simp only[e1,e2,Array.append_empty];refine ⟨fun h0=>?_,fun h0=>?_⟩
 ·subst h0;simp[choose,Sem.run,Question.forced]
 have Y0:L.toArray.isEmpty=false:=by cases L with|nil=>exact absurd rfl h0|cons a l=>rfl
 have V3:0<L.length:=by cases L with|nil=>exact absurd rfl h0|cons a l=>simp
 simp only[Y0,Bool.false_eq_true,if_false,Array.empty_append,Array.size_map];have hch:∃ (j:Nat) (w1:World),j<L.length∧w1.heap=w.heap∧w1.os=w.os∧w1.tape=w.tape∧w1.output=w.output∧(choose (Question.mapNext L.toArray.size)).run P w=.ok j w1:=by
  by_cases hf:L.length≤1
  ·exact ⟨0,w,V3,rfl,rfl,rfl,rfl,by simp[choose,Sem.run,Question.forced,hf]⟩
  exact ⟨_,w.drew,Nat.mod_lt _ V3,rfl,rfl,rfl,rfl,by
   simp only[choose,Sem.run,Question.forced,List.size_toArray,decide_eq_true_eq,hf,if_false,Question.cut];rfl⟩
 obtain ⟨j,w1,hj,a1,a2,a3,a4,P1⟩:=hch;refine ⟨j,L[j],w1,zB4 hj,a1,a2,a3,a4,?_⟩;have J6:∀ o',(setObj r o').run P w1=.ok () { w1 with heap:=w1.heap.setIfInBounds r o' }:=fun o'=>by
  simp only[setObj,Sem.run,a1,h1]
 simp only[P1,Result.andThen_ok];have S0:(L.toArray.map some)[j]?=some (some L[j]):=by simp[hj]
 simp only[S0,Sem.run_bind,J6,Result.andThen_ok];rfl
theorem UZ (hR:Rel m β H w) (hm:m≤m) {x:AV} {v:Value} (hx:AR β x v) (ty:TypeId):
  ah P m β H w (gF H x) ((do let y ←Instr.next v false ty;pure (Next.value y):Sem Next).run P w):=by
 unfold gF;split
 ·rename_i r
  obtain ⟨p,hp,rfl⟩:=hx;split
  ·rename_i a b c hg
   have h1:=uP hR hg hp;simp only at h1
   refine ah.same hR (v:=.tuple #[.bool false]) ?_ ⟨[.bool false],⟨rfl,trivial⟩,rfl⟩;simp[Instr.next,im h1]
  ·rename_i mi since seen last hg
   obtain ⟨q,hq,h1⟩:=uP hR hg hp;split
   ·rename_i es clock hgm
    obtain ⟨ms,h2,hE⟩:=nU hR hgm hq;refine ah.guard fun hcond=>?_;have hc:(!seen.isEmpty&&!ms.isEmpty&&ms.all (fun e=>decide (e.born≥last)))=false:=by
     rw[←hE.isEmpty,←ERs.all (f:=fun e=>Nat.ble last e.born) (g:=fun e=>decide (e.born≥last)) (fun e me hb=>by rw[hb,Bool.eq_iff_iff];simp) hE];cases hq:(!seen.isEmpty&&!es.isEmpty&&es.all (fun e=>Nat.ble last e.born)) with
     | false=>rfl
     | true=>rw[hq] at hcond;cases hcond
    have R8:ERs β (es.filter fun e=>!seen.contains e.born) (ms.filter fun e=>!seen.contains e.born):=hE.filter fun e me hb=>by rw[hb]
    split
    ·rename_i F5
     rw[F5] at R8;have hnil':ms.filter (fun e=>!seen.contains e.born)=[]:=by
      cases hms:ms.filter (fun e=>!seen.contains e.born) with
      | nil=>rfl
      | cons=>rw[hms] at R8;exact R8.elim
     refine ah.same hR (v:=.tuple #[.bool false]) ?_ ⟨[.bool false],⟨rfl,trivial⟩,rfl⟩;have:=(oI (P:=P) ty h1 h2 hc (by rw[hnil'];intro e he;cases he)).1 hnil';simp only[Sem.run_bind,this,Result.andThen_ok];rfl
    rename_i e l hcons
    refine ah.guard fun hborn=>?_;rw[←hcons] at hborn ⊢;intro W0;have hold:∀ e∈ms.filter (fun e=>!seen.contains e.born),e.born<since:=by
     have:=ERs.all (f:=fun e=>Nat.blt e.born since) (g:=fun e=>decide (e.born<since)) (fun e me hb=>by rw[hb,Bool.eq_iff_iff,decide_eq_true_eq];exact ⟨fun h=>zA4 h,fun h=>zA5 h⟩) R8;rw[hborn] at this;intro e he;simpa using List.all_eq_true.1 this.symm e he
    have Y0:ms.filter (fun e=>!seen.contains e.born)≠[]:=by
     intro h;rw[h,hcons] at R8;exact R8
    obtain ⟨j,me,w1,hj,a1,a2,a3,a4,P1⟩:=(oI (P:=P) ty h1 h2 hc hold).2 Y0;have hjl:j<(es.filter fun e=>!seen.contains e.born).length:=by rw[←R8.length];exact (List.getElem?_eq_some_iff.1 hj).1
    have hje:=zB4 hjl;obtain ⟨b1,b2,b3,b4,b5⟩:=R8.at hje hj;have N0:(nG ((es.filter fun e=>!seen.contains e.born)[j]).key ((es.filter fun e=>!seen.contains e.born)[j]).val,H.mod r (.oth (.iter (some mi) since (seen++[((es.filter fun e=>!seen.contains e.born)[j]).born]) clock))) ∈
      (es.filter fun e=>!seen.contains e.born).map (fun e=>(nG e.key e.val,H.mod r (.oth (.iter (some mi) since (seen++[e.born]) clock)))):=List.mem_map.2 ⟨_,List.getElem_mem hjl,rfl⟩
    have M6:H.nx≤m:=W0 _ N0;refine ⟨.tuple #[.bool true,me.key,me.val],_,by simp only[Sem.run_bind,P1,Result.andThen_ok];rfl,_,N0,β,⟨[.bool true,me.key,me.val],⟨rfl,rf b1 b2,rf b3 b4,trivial⟩,rfl⟩,?_⟩;refine lF hR hm M6 hg _ hp w1 a1 a2 a3 a4 _ fun w' U1=>⟨q,hq,?_⟩;rw[U1,b5];simp
   exact trivial
  exact trivial
 exact trivial
theorem ERs.find {st:Nat}:∀ {l:List bF} {ms:List MapEntry},ERs β l ms→∀ {e:bF},l.find? (fun e=>Nat.beq e.born st)=some e →
  ∃ me,ms.find? (fun e=>e.born==st)=some me∧AR β e.key me.key∧e.key.bz=true∧AR β e.val me.val∧e.val.bz=true
 | [],[],_,e,h=>by cases h
 | a::l,b::ms,hE,e,h=>by
  rw[List.find?_cons] at h ⊢;have hb:(b.born==st)=Nat.beq a.born st:=by rw[hE.1.2.2.2.2,Bool.eq_iff_iff,beq_iff_eq,Nat.beq_eq]
  rw[hb];cases hq:Nat.beq a.born st with
  | true=>
   rw[hq] at h;cases h
   exact ⟨b,rfl,hE.1.1,hE.1.2.1,hE.1.2.2.1,hE.1.2.2.2.1⟩
  | false=>
   rw[hq] at h;exact ERs.find hE.2 h
 | [],_::_,hE,_,_=>hE.elim
 | _::_,[],hE,_,_=>hE.elim
theorem QW (hR:Rel m β H w) {x:AV} {v:Value} (hx:AR β x v):
  ah P m β H w (gJ H x) ((do let y ←Instr.entry v;pure (Next.value y):Sem Next).run P w):=by
 unfold gJ;split
 ·rename_i r
  obtain ⟨p,hp,rfl⟩:=hx;split
  ·rename_i mi since seen stepped hg
   obtain ⟨q,hq,h1⟩:=uP hR hg hp;split
   ·rename_i es clock hgm
    obtain ⟨ms,h2,hE⟩:=nU hR hgm hq;split
    ·rename_i st O2
     refine ah.guard fun R0=>?_;have R0:clock=stepped:=zA3 R0;subst R0;split
     ·rename_i e hfe
      obtain ⟨me,hme,b1,b2,b3,b4⟩:=hE.find hfe;refine ah.same hR (v:=.tuple #[me.key,me.val]) ?_ ⟨[me.key,me.val],⟨rf b1 b2,rf b3 b4,trivial⟩,rfl⟩;simp[Instr.entry,im h1,cY h2,O2,hme]
     exact trivial
    exact trivial
   exact trivial
  exact trivial
 exact trivial
end
section
variable {P:Program} {m:Nat} {β:Pl} {H:Hp} {w:World} {tm:PT AV} {r:Result Next}
theorem SF.nd {α:Type} {o:Option α} {s:String} {f:α→SF} (h:∀ a,o=some a→ah P m β H w ((f a).run tm H) r):ah P m β H w ((ndF o s f).run tm H) r:=by
 cases o with
 | none=>exact trivial
 | some a=>exact h a rfl
theorem SF.ifE {b:Bool} {s:String} {f:SF} (h:b=true→ah P m β H w (f.run tm H) r):ah P m β H w ((ifE b f (kW s)).run tm H) r:=by
 cases b with
 | false=>exact trivial
 | true=>exact h rfl
theorem lE {α:Type} {a:Array α} {x y:α} (h:a.toList=[x,y]):a=#[x,y]:=by
 apply Array.ext'
 simpa using h
theorem LH {α γ:Type} (f:α→γ) (x y:α):(#[x,y]:Array α).map f=#[f x,f y]:=by simp
theorem Vo {α γ:Type} (f:α→γ) (x:α):(#[x]:Array α).map f=#[f x]:=by simp
theorem vd {α:Type} {a:Array α} {x:α} (h:a.toList=[x]):a=#[x]:=by
 apply Array.ext'
 simpa using h
theorem Iu (hR:Rel m β H w) (hm:m≤m) {a:Act} (Q0:∀ t,AR β (ay (tm.get t) aF fun v=>v) (a.tmps.getD t undef)) (o:Oper) (c:Call) (b:Builtin) (ho:o.op=.call c) (hc:c.callee=.builtin b):
  ah P m β H w ((jd P o b c.args.toList c.argTypes.toList).run tm H) ((execOp a.eval o).run P w):=by
 obtain ⟨cs,he⟩:∃ cs,execOp a.eval o=builtin b c.argTypes o.type cs (c.args.map a.eval):=by
  refine ⟨c.args.map fun|.const _=>true|_=>false,?_⟩;obtain ⟨dst,op,type,pos,after,guard⟩:=o;cases ho
  cases c
  cases hc
  rfl
 have hp:=Fa (P:=P) hR Q0 o (by intro cs bb h;rw[ho] at h;cases h);unfold jd;split
 ·rename_i s x t t2 h1 h2
  refine SF.ifE fun hq=>?_;have:=zA3 hq;subst this;rw[he,lE h1,lE h2,LH];exact OE (P:=P) (t:=t) hR hm o.type (bH Q0 s) (bH Q0 x)
 ·rename_i d s t t2 h1 h2
  refine SF.ifE fun hq=>?_;have:=zA3 hq;subst this;rw[he,lE h1,lE h2,LH];exact UP (P:=P) (t:=t) (ty:=o.type) hR hm (bH Q0 d) (bH Q0 s)
 ·rename_i x t h1 h2
  refine SF.nd fun k hk=>?_;rw[he,vd h1,vd h2,Vo];exact Xl (P:=P) (t:=t) (ty:=o.type) hR hk (bH Q0 x)
 ·exact hp
 ·exact hp
 exact trivial
theorem Uj (hR:Rel m β H w) (hm:m≤m) {a:Act} (Q0:∀ t,AR β (ay (tm.get t) aF fun v=>v) (a.tmps.getD t undef)) (o:Oper) (c:Call) (ho:o.op=.call c):
  ah P m β H w ((tg P o c).run tm H) ((execOp a.eval o).run P w):=by
 unfold tg;split
 ·rename_i f hc
  have he:execOp a.eval o=(do let d ←Deferred.ofValue (a.eval f) (c.args.toList.map a.eval).toArray;invoke d.target d.args):=by
   obtain ⟨dst,op,type,pos,after,guard⟩:=o;cases ho
   cases c
   cases hc
   rw[←Array.toList_map,Array.toArray_toList];rfl
  rw[he];exact Wh (bH Q0 f) (Jo Q0 c.args.toList)
 ·rename_i b hc
  exact Iu hR hm Q0 o c b ho hc
 exact trivial
theorem Wb (hR:Rel m β H w) (hm:m≤m) {a:Act} (Q0:∀ t,AR β (ay (tm.get t) aF fun v=>v) (a.tmps.getD t undef)) (o:Oper):
  ah P m β H w (SH P tm H o) ((execOp a.eval o).run P w):=by
 have hp:=fun hs=>Fa (P:=P) hR Q0 o hs;have R0:=fun c hc=>Uj (P:=P) hR hm Q0 o c hc;obtain ⟨dst,op,type,pos,after,guard⟩:=o;unfold SH;cases op with
 | move x=>exact Mc hR Q0 x
 | assign x=>exact Mc hR Q0 x
 | pick c x y=>exact UG hR Q0 c x y
 | alloc e=>exact SF.nd fun z hz=>Sy hR hm hz
 | box e x=>exact Xk hR hm e (bH Q0 x)
 | build t parts=>exact SF.nd fun z hz=>SF.nd fun pl T6=>SF.nd fun ps S6=>Rm hR Q0 hz T6 S6
 | buildSlice t len parts=>exact SF.nd fun es hes=>SF.nd fun z hz=>SF.ifE fun hg=>SF.nd fun ps S6=>xw hR hm Q0 hes hz (zA4 (ag hg).1) (by rw[←bj];exact zA3 (ag hg).2) S6
 | load t x=>exact SF.nd fun p hl=>VV hR (a:=p.1) (n:=p.2) hl (bH Q0 x)
 | store t x y=>exact SF.nd fun n hn=>PH hR hm hn (bH Q0 y) (bH Q0 x)
 | nilCheck x=>exact HG hR (bH Q0 x) _ rfl
 | binOp op t x y c=>exact Xo hR (bH Q0 x) (bH Q0 y) (hp (by simp))
 | unOp op t x=>exact YY hR (bH Q0 x) (hp (by simp))
 | convert s d x=>exact hp (by simp)
 | fieldAddr s x f=>exact SF.nd fun p hf=>Dj hR (ft:=p.2.1) hf (bH Q0 x)
 | field t x f=>exact SF.nd fun p hf=>SF.nd fun b hb=>PW hR (ft:=p.2.1) hf hb (bH Q0 x)
 | indexAddr t x i=>exact SF.nd fun p hf=>CI hR (e:=p.1) hf (bH Q0 x) (bH Q0 i)
 | index t x i=>exact Qa hR (bH Q0 x) (bH Q0 i) (hp (by simp))
 | slice t x lo hi mx=>
  cases mx with
  | some _=>exact trivial
  | none=>
   cases he:bm P t with
   | none=>
    have:ao P ⟨dst,.slice t x lo hi none,type,pos,after,guard⟩=.mk fun tm h=>an P tm h ⟨dst,.slice t x lo hi none,type,pos,after,guard⟩:=by
     simp[ao,he]
    rw[this];exact hp (by simp)
   | some p=>
    have:ao P ⟨dst,.slice t x lo hi none,type,pos,after,guard⟩=.mk fun tm h=>cN h p.2 ((opF x).ev tm) (lo.map (ev tm)) (hi.map (ev tm)) (an P tm h ⟨dst,.slice t x lo hi none,type,pos,after,guard⟩):=by
     simp[ao,he]
    rw[this];exact QJ hR Q0 (e:=p.1) he (hp (by simp))
 | extract x i=>exact IC hR (bH Q0 x) i
 | makeFunc fn first caps=>
  cases fn with
  | func f=>
   refine SF.ifE fun hg=>?_;have:first=#[]:=by simpa using hg
   subst this;exact EN hR Q0 f caps
  | _=>exact trivial
 | makeMap t r=>
  cases r with
  | some _=>exact trivial
  | none=>exact JV hR hm t
 | makeSlice t l c=>exact Ca hR hm (bH Q0 l) (bH Q0 c)
 | lookup t x k ok=>exact SF.nd fun p ht=>SF.nd fun z hz=>Ot hR (kt:=p.1) (et:=p.2) ht hz (bH Q0 x) (bH Q0 k) ok
 | mapUpdate t x k y=>exact SF.nd fun p ht=>rH hR hm (kt:=p.1) (et:=p.2) ht (bH Q0 x) (bH Q0 k) (bH Q0 y)
 | insert t x k y=>exact SF.nd fun p ht=>rH hR hm (kt:=p.1) (et:=p.2) ht (bH Q0 x) (bH Q0 k) (bH Q0 y)
 | range t x=>exact SF.nd fun p ht=>Py hR hm (kt:=p.1) (et:=p.2) ht (bH Q0 x)
 | next x b=>
  cases b with
  | true=>exact trivial
  | false=>exact UZ hR hm (bH Q0 x) type
 | entry x=>exact QW hR (bH Q0 x)
 | call c=>exact R0 c rfl
 | _=>exact trivial
end
def nr (β:Pl):List Nat→List Deferred→Prop
 | [],[]=>True
 | i::l,d::ds=>(∃ p,β i 0=some p∧d={ target:=.collected p.b,args:=#[] })∧nr β l ds
 | _,_=>False
structure gO (β:Pl) (A:ab) (a:Act):Prop where
 tm:TmR β A.tm A.nt a.tmps
 df:nr β A.dfr a.defers
def ld (β:Pl) (r:Option Nat) (rB:Option Nat):Prop:=
 match r with
 | none=>rB=none
 | some l=>∃ p,β l 0=some p∧rB=some p.b
def fen (rB:Option Nat):Fence:={ fn:=fun _=>True,depth:=none,alive:=false,round:=rB }
def XR:ax→Exit→Prop
 | .normal,.normal=>True
 | .exit i,.exit j=>i=j
 | .ret,.ret=>True
 | _,_=>False
def fV (m:Nat) (β:Pl) (H:Hp) (w:World) (outs:List (ax×ab×Hp)) (e:Exit) (a':Act) (w':World):Prop:=
 ∃ x,x∈outs∧XR x.1 e∧∃ β',gO β' x.2.1 a'∧Rel m β' x.2.2 w'∧Ext β H w β' x.2.2 w'
def Ko (m:Nat) (β:Pl) (H:Hp) (w:World) (outs:List (ab×Hp)) (a':Act) (w':World):Prop:=
 ∃ x,x∈outs∧∃ β',gO β' x.1 a'∧Rel m β' x.2 w'∧Ext β H w β' x.2 w'
def mB (m:Nat) (β:Pl) (H:Hp) (w:World) (outs:List (AV×Hp)) (e:Ending) (w':World):Prop:=∃ v,e=.returned v∧Out m β H w outs v w'
structure BJ (P:Program) (N:Nat) (rec:Rec):Prop where
 code:∀ {m:Nat} {β:Pl} {H:Hp} {w:World} {r rB:Option Nat} {A:ab} {a:Act} {c:Code} {outs:List (ax×ab×Hp)},m≤m→Rel m β H w→gO β A a→ld β r rB →
  rec.code r c A H=.ok outs→(∀ x∈outs,nE x≤m)→c.wpIn (fen rB) 0 P (fV m β H w outs) a w∧∀ x,c=.loop x→Code.roundsIn (fen rB) 0 P x (fV m β H w outs) N a w
 call:∀ {m:Nat} {β:Pl} {H:Hp} {w:World} {f:FuncId} {args:List AV} {vs:List Value} {outs:List (AV×Hp)},m≤m→Rel m β H w→ARs β args vs →
  rec.call f args H=.ok outs→(∀ x∈outs,nV x≤m)→CallsIn Fence.wide 0 P f vs.toArray w (mB m β H w outs)
structure vY (E:Env):Prop where
 name:∀ (f:FuncId) (fn:Func),E.P.funcs[f]?=some fn→fn.body.isSome=true→(fn.name == "runtime.NumGoroutine")=false
 mixed:E.P.follows .mixedOrders=true
 fE:∀ (f:FuncId) (args:List AV) (v:AV),E.fE f args=some v→∀ (β:Pl) (vs:List Value) (w:World),ARs β args vs →
  CallsIn Fence.wide 0 E.P f vs.toArray w fun e w'=>∃ u,e=.returned u∧AR β v u∧w'.os=w.os∧w'.tape=w.tape∧w'.output=w.output∧w.heap.size≤w'.heap.size∧∀ b,b<w.heap.size→w'.heap[b]?=w.heap[b]?
theorem nr.mono {β β':Pl} (hs:Sub β β'):∀ {l:List Nat} {ds:List Deferred},nr β l ds→nr β' l ds
 | [],[],_=>trivial
 | _::_,_::_,h=>⟨by obtain ⟨p,hp,hd⟩:=h.1;exact ⟨p,hs _ _ _ hp,hd⟩,nr.mono hs h.2⟩
 | [],_::_,h=>h.elim
 | _::_,[],h=>h.elim
theorem gO.mono {β β':Pl} (hs:Sub β β') {A:ab} {a:Act} (h:gO β A a):gO β' A a:=⟨h.tm.mono hs,h.df.mono hs⟩
theorem ld.mono {β β':Pl} (hs:Sub β β') {r rB:Option Nat} (h:ld β r rB):ld β' r rB:=by
 cases r with
 | none=>exact h
 | some l=>obtain ⟨p,hp,h⟩:=h;exact ⟨p,hs _ _ _ hp,h⟩
theorem Rel.grown {m:Nat} {β:Pl} {H:Hp} {w w':World} (hR:Rel m β H w) (hw:∀ b,b<w.heap.size→w'.heap[b]?=w.heap[b]?):Rel m β H w' where
 obj:=fun id o ho=>fS.mono (fun _ _ _ h=>h) (hR.obj id o ho) (fun _=>rfl) fun g p hg hp=>hw _ ((hR.obj id o ho).lt hg hp)
 sep:=hR.sep
 wf:=hR.wf
 free:=hR.free
theorem Ext.grown {β:Pl} {H:Hp} {w w':World} (h1:w'.os=w.os) (h2:w'.tape=w.tape) (h3:w'.output=w.output) (h4:w.heap.size≤w'.heap.size) (hw:∀ b,b<w.heap.size→w'.heap[b]?=w.heap[b]?):Ext β H w β H w':=
 { Ext.refl β H w with size:=h4,os:=h1,tape:=h2,output:=h3,frame:=fun b hb _=>hw b hb,far:=fun _ _ b hb _=>hw b hb,prov:=fun id o g p a b c=>.inr ⟨o,g,p,a,b,c,rfl,rfl⟩ }
theorem TmR.put {β:Pl} {tm:PT AV} {nt:Nat} {tmps:Array Value} (h:TmR β tm nt tmps) {d:Nat} (hd:d<nt) {v:AV} {u:Value} (hv:AR β v u):TmR β (tm.set d v) nt (tmps.setIfInBounds d u):=by
 obtain ⟨h1,h2,h3⟩:=h;refine ⟨by simp[h1],h2,fun t=>?_⟩;rw[PT.ov _ _ _ _ (by omega)];by_cases ht:t=d
 ·subst ht;rw[zB0 rfl];have:(tmps.setIfInBounds t u).getD t undef=u:=by simp[h1,hd]
  rw[this];exact hv
 rw[zB1 ht];have:(tmps.setIfInBounds d u).getD t undef=tmps.getD t undef:=by
  simp only[Array.getD_eq_getD_getElem?];rw[Array.getElem?_setIfInBounds_ne (fun h=>ht h.symm)]
 rw[this];exact h3 t
theorem gO.put {β:Pl} {A:ab} {a:Act} (h:gO β A a) {v:AV} {u:Value} (hv:AR β v u) {H:Hp} {dst:Option Tmp} {k:ab→Hp→R (ab×Hp)} {outs:List (ab×Hp)} (hk:fC A dst v H k=.ok outs):
  ∃ A',k A' H=.ok outs∧gO β A' (a.put dst u):=by
 cases dst with
 | none=>exact ⟨A,hk,h⟩
 | some d=>
  have S2:ifE (Nat.blt d A.nt) (k (A.put d v) H) (.bad "slot")=.ok outs:=hk
  rw[bM] at S2;split at S2
  ·rename_i hd
   exact ⟨_,S2,h.tm.put (zA4 hd) hv,h.df⟩
  cases S2
theorem rF (β:Pl):AR β aF undef:=⟨[],trivial,rfl⟩
section
variable {E:Env} (hE:vY E) {N:Nat} {rec:Rec} (K0:BJ E.P N rec)
theorem rK {P:Program} (hn:∀ (f:FuncId) (fn:Func),P.funcs[f]?=some fn→fn.body.isSome=true→(fn.name == "runtime.NumGoroutine")=false) {f:FuncId} (hb:al P f=true) (args:Array Value) (w:World):
  (callFunc f args).run P w=.ok (.enter f args) w:=by
 unfold al at hb;cases hf:P.funcs[f]? with
 | none=>rw[hf] at hb;cases hb
 | some fn=>
  rw[hf] at hb;have D5:fn.body.isSome=true:=hb;have h1:=hn f fn hf D5;obtain ⟨c,hq⟩:=Option.isSome_iff_exists.1 D5;have u7:fn.name ≠ "runtime.NumGoroutine" := by simpa using h1
  simp[callFunc,hf,u7,hq]
include hE K0
theorem TM {m:Nat} {β:Pl} {H:Hp} {w:World} (hm:m≤m) (hR:Rel m β H w) {f:FuncId} {args:List AV} {vs:List Value} (ha:ARs β args vs) {outs:List (AV×Hp)} (h:mZ E rec f args H=.ok outs) (hb:∀ x∈outs,nV x≤m):
  CallsIn Fence.wide 0 E.P f vs.toArray w (mB m β H w outs):=by
 unfold mZ at h;cases hp:E.fE f args with
 | none=>rw[hp] at h;exact K0.call hm hR ha h hb
 | some v=>
  rw[hp] at h;cases h
  refine CallsIn.mono (hE.fE f args v hp β vs w ha) fun e w' he=>?_;obtain ⟨u,rfl,hu,h1,h2,h3,h4,h5⟩:=he;exact ⟨u,rfl,_,List.mem_singleton.2 rfl,β,hu,hR.grown h5,Ext.grown h1 h2 h3 h4 h5⟩
end
theorem RG.nJ {α:Type} {k m:Nat} {nx:α→Nat} {r:R α} (h:RG k nx r) {o outs:List α} (ho:r=.ok o) (hs:∀ y∈o,y∈outs) (hb:∀ x∈outs,nx x≤m):k≤m:=by
 obtain ⟨h1,h2⟩:=h o ho;cases o with
 | nil=>exact absurd rfl h1
 | cons x l=>exact zA2 (h2 x (List.mem_cons_self ..)) (hb x (hs x (List.mem_cons_self ..)))
theorem Ko.ext {m:Nat} {β β':Pl} {H H':Hp} {w w':World} (hx:Ext β H w β' H' w') {outs outs':List (ab×Hp)} (hs:∀ y∈outs,y∈outs') {a:Act} {w'':World} (h:Ko m β' H' w' outs a w''):Ko m β H w outs' a w'':=by
 obtain ⟨x,hxm,b,h1,h2,h3⟩:=h;exact ⟨x,hs x hxm,b,h1,h2,hx.trans h3⟩
theorem fV.ext {m:Nat} {β β':Pl} {H H':Hp} {w w':World} (hx:Ext β H w β' H' w') {outs outs':List (ax×ab×Hp)} (hs:∀ y∈outs,y∈outs') {e:Exit} {a:Act} {w'':World} (h:fV m β' H' w' outs e a w''):fV m β H w outs' e a w'':=by
 obtain ⟨x,hxm,h0,b,h1,h2,h3⟩:=h;exact ⟨x,hs x hxm,h0,b,h1,h2,hx.trans h3⟩
theorem vS {β:Pl} {tm:PT AV} {nt:Nat} {tmps:Array Value} (Q0:TmR β tm nt tmps) {ops:Array Oper} {o:Oper} {yes no:R (ab×Hp)} {outs:List (ab×Hp)} (h:bu tm (gOf ops.toList o.guard) yes no=.ok outs):
  (Region.wanted o (yielded ops tmps)=true∧yes=.ok outs)∨(Region.wanted o (yielded ops tmps)=false∧no=.ok outs):=by
 unfold Region.wanted;cases hg:o.guard with
 | none=>rw[hg] at h;exact .inl ⟨rfl,h⟩
 | some p=>
  obtain ⟨j,want⟩:=p;rw[hg] at h;have key:∀ y:Option Bool,yielded ops tmps j=y→(yielded ops tmps j==some want)=(y==some want):=fun y hy=>by rw[hy]
  unfold gOf at h;simp only[Array.getElem?_toList] at h;cases hj:ops[j]? with
  | none=>
   rw[hj] at h;refine .inr ⟨?_,h⟩;show (yielded ops tmps j==some want)=false;rw[key none (by simp[yielded,hj])];rfl
  | some oj=>
   rw[hj] at h;cases hd:oj.dst with
   | none=>
    simp only[hd] at h;refine .inr ⟨?_,h⟩;show (yielded ops tmps j==some want)=false;rw[key none (by simp[yielded,hj,hd])];rfl
   | some t=>
    simp only[hd] at h;have hv:=Q0.2.2 t;have hy:∀ u,tmps.getD t undef=u→(∀ b,u≠.bool b)→(yielded ops tmps j==some want)=false:=by
     intro u hu hb;rw[key none]
     ·rfl
     simp only[yielded,hj,hd,Option.bind_some];cases ht:tmps[t]? with
     | none=>rfl
     | some x=>
      have:x=u:=by rw[←hu];simp[Array.getD_eq_getD_getElem?,ht]
      subst this;cases x <;> first|rfl|exact absurd rfl (hb _)
    have hyb:∀ b,tmps.getD t undef=.bool b→(yielded ops tmps j==some want)=(b==want):=by
     intro b hb;rw[key (some b)]
     ·rfl
     simp only[yielded,hj,hd,Option.bind_some];cases ht:tmps[t]? with
     | none=>simp[Array.getD_eq_getD_getElem?,ht,undef] at hb
     | some x=>
      have:x=.bool b:=by rw[←hb];simp[Array.getD_eq_getD_getElem?,ht]
      subst this;rfl
    show ((yielded ops tmps j==some want)=true∧_)∨((yielded ops tmps j==some want)=false∧_);cases ht:tm.get t with
    | none=>
     rw[ht] at hv;have h':no=.ok outs:=by simpa [bu,ay,ht] using h
     obtain ⟨vs,_,hu⟩:=hv;exact .inr ⟨hy _ hu (by simp),h'⟩
    | some v=>
     rw[ht] at hv;have h':AV.rec (motive:=fun _=>R (ab×Hp)) (fun c=>acE c (fun b=>ifE b (ifE want yes no) (ifE want no yes)) (fun _ _=>no) (fun _=>.bad "guard")) (fun _=>no) (fun _=>no) (.bad "guard") v=.ok outs:=by
      simpa [bu,ay,ht] using h
     cases v with
     | one c=>
      cases c with
      | b b=>
       rw[hyb b hv];cases b <;> cases want <;> first|exact .inl ⟨rfl,h'⟩|exact .inr ⟨rfl,h'⟩
      | i k n=>
       have X2:tmps.getD t undef=.int k n:=hv;exact .inr ⟨hy _ X2 (by simp),h'⟩
      | o q=>cases h'
     | agg l=>
      obtain ⟨vs,_,hu⟩:=hv;exact .inr ⟨hy _ hu (by simp),h'⟩
     | tup l=>
      obtain ⟨vs,_,hu⟩:=hv;exact .inr ⟨hy _ hu (by simp),h'⟩
     | any=>cases h'
theorem rU {β:Pl} {nt:Nat}:∀ (ps:List Tmp) (args:List AV) (vs:List Value) (tm:PT AV) (tmps:Array Value),TmR β tm nt tmps→ARs β args vs→(∀ p∈ps,p<nt)→args.length=ps.length →
  TmR β (eM ps args tm) nt ((ps.zip vs).foldl (fun tmps (t,a)=>tmps.setIfInBounds t a) tmps)
 | [],[],[],tm,tmps,h,_,_,_=>h
 | p::ps,x::args,v::vs,tm,tmps,h,ha,hp,hl=>by
  refine rU ps args vs _ _ (h.put (hp p (List.mem_cons_self ..)) ha.1) ha.2 (fun q hq=>hp q (List.mem_cons_of_mem _ hq)) (by simpa using hl)
 | _,[],_::_,_,_,_,ha,_,_=>ha.elim
 | _,_::_,[],_,_,_,ha,_,_=>ha.elim
 | [],_::_,_,_,_,_,_,_,hl=>by simp at hl
 | _::_,[],_,_,_,_,_,_,hl=>by simp at hl
theorem dE {P:Program} {w:World} {l:Nat} {r:Loop} (h:w.heap[l]?=some (.loop r)):(Instr.getLoop l).run P w=.ok r w:=by
 simp[Instr.getLoop,getObj,Sem.run,h]
theorem gS {P:Program} {w:World} {l:Nat} {r:Loop} (o:Obj) (h:w.heap[l]?=some (.loop r)):(setObj l o).run P w=.ok () { w with heap:=w.heap.setIfInBounds l o }:=by
 simp[setObj,Sem.run,h]
theorem ns {m:Nat} {β:Pl} {H:Hp} {w:World} (hR:Rel m β H w) {id:Nat} {st:LoopState} {pe:Option Code} {tm:PT AV} {nt:Nat} {ps:List Tmp} {as bo:Code} {d:Nat} (h:H.get id=some (.oth (.loop st pe tm nt ps as bo d))) {p:Place} (hp:β id 0=some p):
  ∃ q fn tmps,β d 0=some q∧TmR β tm nt tmps∧w.heap[p.b]?=some (.loop { state:=st,pending:=pe,fn:=fn,tmps:=tmps,params:=ps.toArray,assign:=as,body:=bo,defers:=q.b }):=by
 obtain ⟨q,hq,h1⟩:=hR.obj id _ h;rw[hp] at hq;cases hq;exact h1
section
variable {E:Env} {N:Nat} {rec:Rec} (K0:BJ E.P N rec) (G0:RecM rec)
include K0 G0
theorem Qg {m:Nat} {β:Pl} {H:Hp} {w:World} (hm:m≤m) (hR:Rel m β H w) {id:Nat} {p:Place} {args:List AV} {vs:List Value} {outs:List (AV×Hp)} (rB:Option Nat) (hp:β id 0=some p) (ha:ARs β args vs)
  (h:fL rec id args H=.ok outs) (hb:∀ x∈outs,nV x≤m):
  ∃ fn tmps as bo,(Instr.yield p.b vs.toArray).run E.P w=.ok (.round p.b fn tmps as bo) w∧RoundIn (fen rB) 0 E.P p.b fn tmps as bo w (mB m β H w outs):=by
 unfold fL at h;split at h
 ·rename_i pe tm nt ps as bo d hg
  rw[bM] at h;split at h
  ·rename_i hc
   obtain ⟨q,fn,tmps,hq,Q0,hw⟩:=ns hR hg hp;have hlen:args.length=ps.length:=zA3 (ag hc).1;have S6:∀ t∈ps,t<nt:=fun t ht=>zA4 (List.all_eq_true.1 (ag hc).2 t ht);have E6:vs.length=ps.length:=by rw[ha.length,hlen]
   obtain ⟨l,hl,hmid⟩:=R.dJ h;have N3:∀ x∈l,nE x≤m:=fun x hx=>by
    obtain ⟨o,ho,hs⟩:=hmid x hx;exact RG.nJ (tR G0 (zA1 _)) ho hs hb
   refine ⟨fn,(ps.zip vs).foldl (fun tmps (t,a)=>tmps.setIfInBounds t a) tmps,as,bo,?_,?_⟩
   ·have hz:(ps.toArray.zip vs.toArray).foldl (fun tmps (x:Tmp×Value)=>tmps.setIfInBounds x.1 x.2) tmps=(ps.zip vs).foldl (fun tmps (x:Tmp×Value)=>tmps.setIfInBounds x.1 x.2) tmps:=by simp
    simp[Instr.yield,dE hw,E6]
   refine roundIn_of_wpIn trivial ?_;have htm':=rU ps args vs tm tmps Q0 ha S6 hlen;have U4:gO β ⟨eM ps args tm,nt,[]⟩ { tmps:=(ps.zip vs).foldl (fun tmps (t,a)=>tmps.setIfInBounds t a) tmps,defers:=[] }:=⟨htm',trivial⟩;have I8:ld β (some id) (some p.b):=⟨p,hp,rfl⟩;refine Go.wpIn_mono (K0.code hm hR U4 I8 hl N3).1 ?_;intro e a1 w1 S1;obtain ⟨x,hx,o6,β1,hact1,G4,hext1⟩:=S1;obtain ⟨o,ho,hs⟩:=hmid x hx;have U5:=hext1.sub _ _ _ hp;unfold eh at ho;split at ho
   ·rename_i pe1 tm1 nt1 ps1 as1 bo1 d1 V0 C5
    have he:e=.normal:=by
     rw[V0] at o6;cases e <;> first|rfl|exact o6.elim
    subst he;obtain ⟨q1,fn1,tmps1,T7,htm1,D4⟩:=ns G4 C5 U5;obtain ⟨l2,O8,O6⟩:=R.dJ ho;have hbl2:∀ y∈l2,nE y≤m:=fun y hy=>by
     obtain ⟨o2,B9,D3⟩:=O6 y hy;exact RG.nJ (tM (zA1 _)) B9 (fun z hz=>hs z (D3 z hz)) hb
    have T1:=lF G4 hm (N3 x hx) C5 (.loop .busy pe1 tm1 nt1 ps1 as1 bo1 d1) U5 w1 rfl rfl rfl rfl (.loop { state:=.busy,pending:=pe1,fn:=fn1,tmps:=tmps1,params:=ps1.toArray,assign:=as1,body:=bo1,defers:=q1.b })
     (fun w' U1=>⟨q1,fn1,tmps1,T7,htm1,U1⟩)
    refine ⟨_,by simp only[Instr.beginRound,Sem.run_bind,dE D4,Result.andThen_ok,gS _ D4];rfl,?_⟩;have hround1:ld β1 (some id) (some p.b):=⟨p,U5,rfl⟩;refine Go.wpIn_mono (K0.code hm T1.1 hact1 hround1 O8 hbl2).1 ?_;intro e2 a2 w2 hpost2;obtain ⟨y,hy,hyr,β2,hact2,m8,b9⟩:=hpost2;obtain ⟨o2,B9,D3⟩:=O6 y hy;have P4:=b9.sub _ _ _ U5;have P0:=hext1.trans (T1.2.trans b9);unfold jr at B9;split at B9
    ·rename_i st3 pe3 tm3 nt3 ps3 as3 bo3 d3 hd3 hg3
     obtain ⟨q3,fn3,tmps3,O5,htm3,Q7⟩:=ns m8 hg3 P4;have hny:nE y≤m:=hbl2 y hy;have fin:∀ (st:LoopState) (pe:Option Code),Rel m β2 (y.2.2.mod id (.oth (.loop st pe tm3 nt3 ps3 as3 bo3 d3))) { w2 with heap:=w2.heap.setIfInBounds p.b (.loop { state:=st,pending:=pe,fn:=fn3,tmps:=tmps3,params:=ps3.toArray,assign:=as3,body:=bo3,defers:=q3.b }) } ∧
       Ext β2 y.2.2 w2 β2 (y.2.2.mod id (.oth (.loop st pe tm3 nt3 ps3 as3 bo3 d3))) { w2 with heap:=w2.heap.setIfInBounds p.b (.loop { state:=st,pending:=pe,fn:=fn3,tmps:=tmps3,params:=ps3.toArray,assign:=as3,body:=bo3,defers:=q3.b }) }:=fun st pe=>
      lF m8 hm hny hg3 (.loop st pe tm3 nt3 ps3 as3 bo3 d3) P4 w2 rfl rfl rfl rfl _ (fun w' U1=>⟨q3,fn3,tmps3,O5,htm3,U1⟩)
     split at B9
     ·rename_i C2
      cases B9
      have o7:e2=.normal:=by
       rw[C2] at hyr;cases e2 <;> first|rfl|exact hyr.elim
      subst o7;have hf:=fin .ready none;refine ⟨.bool true,_,by simp only[Instr.endRound,Sem.run_bind,dE Q7,Result.andThen_ok,gS _ Q7];rfl,?_⟩;exact ⟨.bool true,rfl,_,hs _ (D3 _ (List.mem_singleton.2 rfl)),β2,rfl,hf.1,P0.trans hf.2⟩
     ·rename_i C2
      cases B9
      have o7:e2=.ret:=by
       rw[C2] at hyr;cases e2 <;> first|rfl|exact hyr.elim
      subst o7;have hf:=fin .done (some .ret);refine ⟨.bool false,_,by simp only[Instr.endRound,Sem.run_bind,dE Q7,Result.andThen_ok,gS _ Q7];rfl,?_⟩;exact ⟨.bool false,rfl,_,hs _ (D3 _ (List.mem_singleton.2 rfl)),β2,rfl,hf.1,P0.trans hf.2⟩
     rename_i k C2
     cases B9
     have o7:e2=.exit k:=by
      rw[C2] at hyr;cases e2 with
      | exit j=>have:k=j:=hyr;rw[this]
      | _=>exact hyr.elim
     subst o7;have hf:=fin .done (some (.exit k));refine ⟨.bool false,_,by simp only[Instr.endRound,Sem.run_bind,dE Q7,Result.andThen_ok,gS _ Q7];rfl,?_⟩;exact ⟨.bool false,rfl,_,hs _ (D3 _ (List.mem_singleton.2 rfl)),β2,rfl,hf.1,P0.trans hf.2⟩
    cases B9
   cases ho
  cases h
 cases h
end
theorem Qx (E:Env) (rec:Rec) (a:ab) (dst:Option Tmp) (h:Hp) (k:ab→Hp→R (ab×Hp)) (n:ad):mo E rec a dst h k n=(jh E rec h n).bind fun x=>fC a dst x.1 x.2 k:=by
 cases n <;> rfl
theorem wi {P:Program} {o:Oper} {c:Call} (ho:o.op=.defer c):ao P o=kW "operation" := by
 obtain ⟨dst,op,type,pos,after,guard⟩:=o;cases ho
 rfl
section
variable {E:Env} (hE:vY E) {N:Nat} {rec:Rec} (K0:BJ E.P N rec) (G0:RecM rec)
include hE K0 G0
theorem Wi {m:Nat} {β:Pl} {H:Hp} {w:World} (hm:m≤m) (hR:Rel m β H w) {n:ad} {r:Result Next} (hn:ah E.P m β H w n r) {outs:List (AV×Hp)} (h:jh E rec H n=.ok outs) (hb:∀ x∈outs,nV x≤m)
  {o:Oper} {a:Act} {rB:Option Nat} {next:Act→World→Prop} {Q:Exit→Act→World→Prop} (W1:∀ v w',Out m β H w outs v w'→next (a.put o.dst v) w'):o.uponIn (fen rB) 0 E.P a next Q r:=by
 have X1:∀ {e:Ending} {w':World},mB m β H w outs e w'→(match e,w' with
   | .returned v,w''=>next (a.put o.dst v) w''
   | .panicked chain,w''=>Q (.panic chain) a w''
   | .outgrown,_=>LetsOut Q):=by
  rintro e w' ⟨v,rfl,hv⟩;exact W1 v w' hv
 cases n with
 | val av H'=>
  cases h
  obtain ⟨v,w',hr,ho⟩:=hn (hb _ (List.mem_singleton.2 rfl));rcases hr with rfl|⟨rfl,rfl⟩
  ·exact W1 v w' ho
  exact W1 undef w' ho
 | ox l=>
  cases h
  obtain ⟨v,w',rfl,ho⟩:=hn hb;exact W1 v w' ho
 | enter f args=>
  obtain ⟨vs,rfl,ha,R4⟩:=hn;rw[rK hE.name R4];refine ⟨fun h=>by simp[fen] at h,CallsIn.mono (TM hE K0 hm hR ha h hb) fun e w' he=>X1 he⟩
 | round id args=>
  obtain ⟨p,vs,hp,ha,rfl⟩:=hn;obtain ⟨fn,tmps,as,bo,hy,I8⟩:=Qg K0 G0 hm hR rB hp ha h hb;rw[hy];exact ⟨fun h=>by simp[fen] at h,RoundIn.mono I8 fun e w' he=>X1 he⟩
 | bad s=>cases h
theorem Ly {m:Nat} {β:Pl} {H:Hp} {w:World} (hm:m≤m) (hR:Rel m β H w) {A:ab} {a:Act} (hA:gO β A a) {o:Oper} {outs:List (AV×Hp)} (h:jh E rec H ((ao E.P o).run A.tm H)=.ok outs) (hb:∀ x∈outs,nV x≤m)
  {rB:Option Nat} {next:Act→World→Prop} {Q:Exit→Act→World→Prop} (W1:∀ v w',Out m β H w outs v w'→next (a.put o.dst v) w'):o.wpIn (fen rB) 0 E.P a w next Q:=by
 refine ⟨fun _ _=>trivial,?_⟩;have hs:o.semAt (fen rB).round a.eval=execOp a.eval o:=by
  refine Oper.semAt_eq _ _ _ fun c hc=>?_;rw[wi hc] at h;cases h
 rw[hs];exact Wi hE K0 G0 hm hR (Wb hR hm hA.tm.2.2 o) h hb W1
theorem Iy {ops:Array Oper} {Q:Exit→Act→World→Prop} {rB:Option Nat}:∀ (l pre:List Oper),ops.toList=pre++l→∀ {m:Nat} {β:Pl} {H:Hp} {w:World} {A:ab} {a:Act} {outs:List (ab×Hp)},m≤m→Rel m β H w→gO β A a →
  dR E rec (fF E.P ops.toList l) A H=.ok outs→(∀ x∈outs,nA x≤m)→(∀ a' w',Ko m β H w outs a' w'→Q .normal a' w')→wpOpsIn (fen rB) 0 E.P ops Q (List.range' pre.length l.length) a w
 | [],pre,Q3,m,β,H,w,A,a,outs,hm,hR,hA,h,hb,hQ=>by
  cases h
  exact hQ a w ⟨_,List.mem_singleton.2 rfl,β,hA,hR,Ext.refl _ _ _⟩
 | o::l,pre,Q3,m,β,H,w,A,a,outs,hm,hR,hA,h,hb,hQ=>by
  have ho:ops[pre.length]?=some o:=by
   rw[←Array.getElem?_toList,Q3,List.getElem?_append_right (zA1 _)];simp
  have O7:ops.toList=(pre++[o])++l:=by rw[Q3];simp
  have hlen:(pre++[o]).length=pre.length+1:=by simp
  have h':bu A.tm (gOf ops.toList o.guard) (mo E rec A o.dst H (dR E rec (fF E.P ops.toList l)) ((ao E.P o).run A.tm H)) (fC A o.dst aF H (dR E rec (fF E.P ops.toList l)))=.ok outs:=h;rw[List.length_cons,List.range'_succ];unfold wpOpsIn;rw[ho];simp only
  rcases vS hA.tm h' with ⟨hw,hy⟩|⟨hw,hy⟩
  ·rw[zB0 hw];rw[Qx] at hy;obtain ⟨ys,Z7,hk⟩:=R.dJ hy;have hbys:∀ x∈ys,nV x≤m:=fun x hx=>by
    obtain ⟨o',Z1,hs⟩:=hk x hx;exact RG.nJ (jN fun a=>rJ G0 l a x.2) Z1 hs hb
   refine Ly hE K0 G0 hm hR hA Z7 hbys fun v w' hv=>?_;obtain ⟨x,hx,β',X2,D9,P0⟩:=hv;obtain ⟨o',Z1,hs⟩:=hk x hx;obtain ⟨A',hA',U4⟩:=(hA.mono P0.sub).put X2 Z1;have:=Iy (rB:=rB) (Q:=Q) l (pre++[o]) O7 hm D9 U4 hA' (fun y hy=>hb y (hs y hy)) (fun a' w'' hp=>hQ a' w'' (hp.ext P0 hs));rw[hlen] at this;exact this
  rw[zB1 (by rw[hw];exact zA8)];refine ⟨fun _ _=>trivial,?_⟩;obtain ⟨A',hA',U4⟩:=hA.put (rF β) hy;have:=Iy (rB:=rB) (Q:=Q) l (pre++[o]) O7 hm hR U4 hA' hb hQ;rw[hlen] at this;exact this
theorem NY {m:Nat} {β:Pl} {H:Hp} {w:World} (hm:m≤m) (hR:Rel m β H w) {A:ab} {a:Act} (hA:gO β A a) {id:Nat} {ops:Array Oper} {rB:Option Nat} {outs:List (ax×ab×Hp)}
  (h:(dR E rec (pA E.P ops) A H).bind eJ=.ok outs) (hb:∀ x∈outs,nE x≤m):(Code.region id ops false).wpIn (fen rB) 0 E.P (fV m β H w outs) a w:=by
 obtain ⟨l,hl,hk⟩:=R.dJ h;have N3:∀ x∈l,nA x≤m:=fun x hx=>by
  obtain ⟨o,ho,hs⟩:=hk x hx;cases ho
  exact hb _ (hs _ (List.mem_singleton.2 rfl))
 refine wpIn_region ?_;have:=Iy (Q:=fV m β H w outs) (rB:=rB) hE K0 G0 ops.toList [] rfl hm hR hA hl N3 (fun a' w' hp=>?_)
 ·rw[List.range_eq_range'];simpa using this
 obtain ⟨x,hx,β',h1,h2,h3⟩:=hp;obtain ⟨o,ho,hs⟩:=hk x hx;cases ho
 exact ⟨_,hs _ (List.mem_singleton.2 rfl),trivial,β',h1,h2,h3⟩
end
section scope
variable {P:Program} {b:Frame} {a:Act} {k:List Item} {cs:List Frame} {w:World} {F:Fence} {n:Nat} {Q:Exit→Act→World→Prop}
theorem fq {c:Code}:step P (lone (b.atR a (.code (.scope c)::k)) cs w)=.next (lone (b.atR a (.code c::.inScope c::k)) cs w):=
 step_lone_go (by simp[stepG,stepG.exec,Frame.atR])
theorem xC {c:Code}:step P (lone (b.atR a (.inScope c::k)) cs w)=.next (lone (b.atR a k) cs w):=
 step_lone_go (by simp[stepG,stepG.exec,Frame.atR])
theorem JR {c:Code} (h:c.wpIn F n P Q a w) (hg:∀ l a w,¬Q (.goto l) a w):(Code.scope c).wpIn F n P Q a w:=by
 intro b k cs B_ hb hr;have h0:(lone (b.atR a (.code (.scope c)::k)) cs w).fenced P F:=fenced_calm hb hr rfl;obtain ⟨e,a₁,w₁,hq,E7⟩:=h b (.inScope c::k) cs B_ hb hr;have hx:∀ id,exitTo id (.inScope c::k)=exitTo id k:=fun id=>by simp[exitTo]
 cases e with
 | normal=>exact ⟨.normal,a₁,w₁,hq,.head h0 fq (StepsIn.trans E7 (.one (fenced_calm hb hr rfl) xC))⟩
 | exit id=>
  exact ⟨.exit id,a₁,w₁,hq,fun k' hk=>.head h0 fq (E7.1 k' (by rw[hx];exact hk)),
   fun Y2 hk=>let ⟨k₁,h1,h2⟩:=E7.2 Y2 (by rw[hx];exact hk);⟨k₁,h1,.head h0 fq h2⟩⟩
 | goto l=>exact absurd hq (hg l _ _)
 | ret=>exact ⟨_,a₁,w₁,hq,.of_steps (.one h0 fq) E7⟩
 | panic ch=>exact ⟨_,a₁,w₁,hq,.of_steps (.one h0 fq) E7⟩
 | outgrown=>exact ⟨_,a₁,w₁,hq,.of_steps (.one h0 fq) E7⟩
end scope
theorem fV.noGoto {m:Nat} {β:Pl} {H:Hp} {w:World} {outs:List (ax×ab×Hp)} (l:Nat) (a:Act) (w':World):¬fV m β H w outs (.goto l) a w':=by
 rintro ⟨x,_,hx,_⟩;cases h:x.1 <;> rw[h] at hx <;> exact hx
section
variable {E:Env} (hE:vY E) {N:Nat} {rec:Rec} (K0:BJ E.P N rec) (G0:RecM rec)
theorem Ea {m:Nat} {β β1:Pl} {H:Hp} {w:World} (hm:m≤m) {A1:ab} {a1:Act} {l:Nat} {p:Place} {x:AV×Hp} {w3:World} (U4:gO β1 A1 a1) (hR:Rel m β1 x.2 w3) (hp:β1 l 0=some p) (W0:nV x≤m) (P0:Ext β H w β1 x.2 w3)
  {o outs:List (ax×ab×Hp)} (ho:eo l A1 x=.ok o) (hs:∀ y∈o,y∈outs) (rB:Option Nat):
  ∃ jump w4,(Instr.endLoop p.b).run E.P w3=.ok jump w4 ∧
   (match jump with
    | none=>fV m β H w outs .normal a1 w4
    | some c=>c.wpIn (fen rB) 0 E.P (fV m β H w outs) a1 w4):=by
 unfold eo at ho;split at ho
 ·rename_i st pe tm nt ps as bo d hg
  obtain ⟨q,fn,tmps,hq,Q0,hw⟩:=ns hR hg hp;have T1:=lF hR hm W0 hg (.loop .exhausted pe tm nt ps as bo d) hp w3 rfl rfl rfl rfl (.loop { state:=.exhausted,pending:=pe,fn:=fn,tmps:=tmps,params:=ps.toArray,assign:=as,body:=bo,defers:=q.b })
   (fun w' U1=>⟨q,fn,tmps,hq,Q0,U1⟩)
  have P1:st≠.busy→(Instr.endLoop p.b).run E.P w3=.ok pe { w3 with heap:=w3.heap.setIfInBounds p.b (.loop { state:=.exhausted,pending:=pe,fn:=fn,tmps:=tmps,params:=ps.toArray,assign:=as,body:=bo,defers:=q.b }) }:=by
   intro O2;have h1:(st==LoopState.busy)=false:=by cases st <;> first|rfl|exact absurd rfl O2
   simp only[Instr.endLoop,Sem.run_bind,dE hw,Result.andThen_ok,h1,Bool.false_eq_true,if_false,gS _ hw];rfl
  split at ho
  ·cases ho
  rename_i O2
  have hst':st≠.busy:=fun h=>O2 h;split at ho
  ·cases ho
   exact ⟨none,_,P1 hst',_,hs _ (List.mem_singleton.2 rfl),trivial,β1,U4,T1.1,P0.trans T1.2⟩
  ·cases ho
   exact ⟨some .ret,_,P1 hst',wpIn_ret ⟨_,hs _ (List.mem_singleton.2 rfl),trivial,β1,U4,T1.1,P0.trans T1.2⟩⟩
  ·rename_i k
   cases ho
   exact ⟨some (.exit k),_,P1 hst',wpIn_exit ⟨_,hs _ (List.mem_singleton.2 rfl),rfl,β1,U4,T1.1,P0.trans T1.2⟩⟩
  cases ho
 cases ho
theorem xt {m:Nat} {β:Pl} {H:Hp} {w:World} (hm:m≤m) (hR:Rel m β H w) {A:ab} {a:Act} (hA:gO β A a) {r rB:Option Nat} (hr:ld β r rB) {d:Nat} {H1:Hp} {A1:ab} (h:lX r A H=some (d,H1,A1)) (W0:H1.nx+1≤m)
  (ps:Array Tmp) (as bo:Code) (fn:FuncId):
  ∃ (p:Place) (mark:List Deferred) (w1:World) (β1:Pl),(Instr.enterLoop fn a.tmps ps as bo rB).run E.P w=.ok (p.b,mark) w1∧β1 H1.nx 0=some p ∧
   gO β1 A1 { a with defers:=mark++a.defers }∧Rel m β1 (H1.new (.oth (.loop .ready none A.tm A.nt ps.toList as bo d))) w1∧Ext β H w β1 (H1.new (.oth (.loop .ready none A.tm A.nt ps.toList as bo d))) w1:=by
 unfold lX at h;cases r with
 | none=>
  have Y2:rB=none:=hr;subst Y2;cases h
  have M6:H.nx+1+1≤m:=W0;have n1:=lf hR hm (by omega) (.oth (.dfr true)) ⟨w.heap.size,0,0,0⟩ (w':=w.alloc (.deferred (some []))) (zA1 _) (by simp) rfl rfl rfl
   (fun b hb=>RowKit.Below.heap_alloc w _ b hb) (fun g hg=>hg) ⟨_,aO _ _ _ _,heap_alloc_new w _⟩
  have G1:(w.alloc (.deferred (some []))).heap.size=w.heap.size+1:=by simp
  have E5:gO (plus β H.nx 0 ⟨w.heap.size,0,0,0⟩) A a:=hA.mono n1.2.sub;have Y0:¬(H.nx=H.nx+1∧(0:Nat)=0):=by omega
  have n2:=lf n1.1 hm (show H.nx+1<m by omega) (.oth (.loop .ready none A.tm A.nt ps.toList as bo H.nx)) ⟨w.heap.size+1,0,0,0⟩
   (w':=(w.alloc (.deferred (some []))).alloc (.loop { state:=.ready,pending:=none,fn:=fn,tmps:=a.tmps,params:=ps,assign:=as,body:=bo,defers:=w.heap.size }))
   (by rw[G1];exact zA1 _) (by simp) rfl rfl rfl
   (fun b hb=>RowKit.Below.heap_alloc _ _ b hb) (fun g hg=>hg)
   ⟨_,aO _ _ _ _,⟨w.heap.size,0,0,0⟩,fn,a.tmps,(bI (plus β H.nx 0 ⟨w.heap.size,0,0,0⟩) (H.nx+1) 0 ⟨w.heap.size+1,0,0,0⟩ Y0).trans (aO _ _ _ _),(E5.mono (iY (n1.1.free _ 0 (zA1 _) (show H.nx+1<m by omega)))).tm,by
    rw[←G1];simpa using heap_alloc_new (w.alloc (.deferred (some []))) (.loop { state:=.ready,pending:=none,fn:=fn,tmps:=a.tmps,params:=ps,assign:=as,body:=bo,defers:=w.heap.size })⟩
  have hA2:=E5.mono n2.2.sub;refine ⟨⟨w.heap.size+1,0,0,0⟩,[{ target:=.collected w.heap.size,args:=#[] }],_,_,?_,aO _ _ _ _,⟨hA2.tm,⟨⟨w.heap.size,0,0,0⟩,n2.2.sub _ _ _ (aO _ _ _ _),rfl⟩,hA2.df⟩,n2.1,n1.2.trans n2.2⟩;rw[←G1];rfl
 | some l=>
  obtain ⟨pl,T6,rfl⟩:=hr;simp only at h
  split at h
  ·rename_i st pe tm nt ps0 as0 bo0 d0 hg
   cases h
   obtain ⟨q,fn0,tmps0,hq,_,hw⟩:=ns hR hg T6;have Y0:¬(d=H.nx∧(0:Nat)=0):=by
    intro hh;have:=hR.free H.nx 0 (zA1 _) (by omega);rw[hh.1,this] at hq;cases hq
   have n2:=lf hR hm (show H.nx<m by omega) (.oth (.loop .ready none A.tm A.nt ps.toList as bo d)) ⟨w.heap.size,0,0,0⟩
    (w':=w.alloc (.loop { state:=.ready,pending:=none,fn:=fn,tmps:=a.tmps,params:=ps,assign:=as,body:=bo,defers:=q.b }))
    (zA1 _) (by simp) rfl rfl rfl
    (fun b hb=>RowKit.Below.heap_alloc _ _ b hb) (fun g hg=>hg)
    ⟨_,aO _ _ _ _,q,fn,a.tmps,by rw[bI _ _ _ _ Y0];exact hq,(hA.mono (iY (hR.free _ 0 (zA1 _) (show H.nx<m by omega)))).tm,by simpa using heap_alloc_new w _⟩
   have hA2:=hA.mono n2.2.sub;refine ⟨⟨w.heap.size,0,0,0⟩,[],_,_,?_,aO _ _ _ _,hA2,n2.1,n2.2⟩;simp only[Instr.enterLoop,Sem.run_bind,dE hw,Result.andThen_ok];rfl
  cases h
include hE K0 G0 in
theorem OW {m:Nat} {β:Pl} {H:Hp} {w:World} (hm:m≤m) (hR:Rel m β H w) {A:ab} {a:Act} (hA:gO β A a) {r rB:Option Nat} (hr:ld β r rB) {g:Operand} {ps:Array Tmp} {as bo:Code} {outs:List (ax×ab×Hp)}
  (h:gI E rec r (opF g) ps.toList as bo A H=.ok outs) (hb:∀ x∈outs,nE x≤m):(Code.rangeFunc g ps as bo).wpIn (fen rB) 0 E.P (fV m β H w outs) a w:=by
 unfold gI at h;split at h
 ·cases h
 rename_i d H1 A1 hs
 split at h
 ·rename_i gf caps hg
  rw[bM] at h;split at h
  ·rename_i R4
   obtain ⟨l,hl,hk⟩:=R.dJ h;have N3:∀ x∈l,nV x≤m:=fun x hx=>by
    obtain ⟨o,ho,hss⟩:=hk x hx;exact RG.nJ (ti (zA1 _)) ho hss hb
   have W0:H1.nx+1≤m:=RG.nJ (G0.call _ _ _) hl (fun _ h=>h) N3;refine wpIn_rangeFunc fun fn _=>?_;obtain ⟨p,mark,w1,β1,he,hp,E5,G4,P0⟩:=xt (E:=E) hm hR hA hr hs W0 ps as bo fn;have hgv:=(bH hA.tm.2.2 g);have M1:ev A.tm g=.one (.o (.clo gf caps)):=hg;rw[M1] at hgv;obtain ⟨cs,hgv,R0,X4⟩:=hgv;refine ⟨p.b,mark,w1,{ target:=.fn (.func gf) cs.toArray,args:=#[.func (.yield p.b) #[] #[]] },w1,gf,(.func (.yield p.b) #[] #[]::cs).toArray,w1,he,?_,fun _ _=>trivial,?_,fun h=>by simp[fen] at h,?_⟩
   ·have hcst:a.eval (.const (.func (.yield p.b) #[] #[]))=.func (.yield p.b) #[] #[]:=rfl;simp[resolve,hgv,Deferred.ofValue,hcst]
   ·have:=rK (w:=w1) hE.name R4 (.func (.yield p.b) #[] #[]::cs).toArray;simpa [invoke] using this
   have A0:ARs β1 (.one (.o (.yl H1.nx))::dX caps) (.func (.yield p.b) #[] #[]::cs):=
    ⟨⟨p,hp,rfl⟩,(oZ R0 X4).mono P0.sub⟩
   have X1:=K0.call hm G4 A0 hl N3;refine CallsIn.mono X1 fun e w3 S8=>?_;obtain ⟨v,rfl,x,hx,β3,_,hR3,k_⟩:=S8;obtain ⟨o,ho,hss⟩:=hk x hx;exact Ea (E:=E) hm (E5.mono k_.sub) hR3 (k_.sub _ _ _ hp) (N3 x hx) (P0.trans k_) ho hss rB
  cases h
 cases h
end
def RT (E:Env):Prop:=
 ∀ (N:Nat) (rec:Rec),BJ E.P N rec→RecM rec→∀ {m:Nat} {β:Pl} {H:Hp} {w:World} {A:ab} {a:Act} {id:Nat} {ops:Array Oper} {rB:Option Nat} {outs:List (ax×ab×Hp)},m≤m→Rel m β H w→gO β A a→dF ops=true →
  (cJ E rec (pA E.P ops) 0 (dw [] 0 ops.toList) [] A H).bind eJ=.ok outs→(∀ x∈outs,nE x≤m)→(Code.region id ops true).wpIn (fen rB) 0 E.P (fV m β H w outs) a w
section
variable {E:Env} (hE:vY E) (hD:RT E) {N:Nat} {rec:Rec} (K0:BJ E.P N rec) (G0:RecM rec)
theorem Ov {k id:Nat} {z:ax×ab×Hp} (hz:k≤nE z):RG k nE (mQ id z):=
 nk (RG.one hz) (fun _=>RG.ifE (RG.one (x:=(ax.normal,z.2)) hz) (RG.one hz)) (RG.one hz)
theorem nN {e:ax} {n r:R (ax×ab×Hp)} {x:Nat→R (ax×ab×Hp)} {o:List (ax×ab×Hp)} (h:exE e n x r=.ok o):
  (e=.normal∧n=.ok o)∨(∃ i,e=.exit i∧x i=.ok o)∨(e=.ret∧r=.ok o):=by
 cases e with
 | normal=>exact .inl ⟨rfl,h⟩
 | exit i=>exact .inr (.inl ⟨i,rfl,h⟩)
 | ret=>exact .inr (.inr ⟨rfl,h⟩)
theorem XR.normal {x:ax} {e:Exit} (h:XR x e) (hx:x=.normal):e=.normal:=by
 subst hx;cases e <;> first|rfl|exact h.elim
theorem XR.exit {x:ax} {e:Exit} {i:Nat} (h:XR x e) (hx:x=.exit i):e=.exit i:=by
 subst hx;cases e with
 | exit j=>have:i=j:=h;rw[this]
 | _=>exact h.elim
theorem XR.ret {x:ax} {e:Exit} (h:XR x e) (hx:x=.ret):e=.ret:=by
 subst hx;cases e <;> first|rfl|exact h.elim
theorem oC {F:Fence} {n:Nat} {P:Program} {c:Code} {Q Q':Exit→Act→World→Prop} (hq:∀ e a w,Q e a w→Q' e a w):∀ {k:Nat} {a:Act} {w:World},Code.roundsIn F n P c Q k a w→Code.roundsIn F n P c Q' k a w
 | 0,_,_,h=>h.elim
 | k+1,a,w,h=>by
  rw[roundsIn_succ] at h ⊢;refine Go.wpIn_mono h fun e a1 w1 h1=>?_;cases e with
  | normal=>exact oC hq h1
  | exit _=>exact hq _ _ _ h1
  | goto _=>exact hq _ _ _ h1
  | ret=>exact hq _ _ _ h1
  | panic _=>exact hq _ _ _ h1
  | outgrown=>exact hq _ _ _ h1
include hE hD K0 G0
theorem qh:∀ (c:Code) {m:Nat} {β:Pl} {H:Hp} {w:World} {r rB:Option Nat} {A:ab} {a:Act} {outs:List (ax×ab×Hp)},m≤m→Rel m β H w→gO β A a→ld β r rB →
  (codeF E c).run rec r A H=.ok outs→(∀ x∈outs,nE x≤m)→c.wpIn (fen rB) 0 E.P (fV m β H w outs) a w∧∀ x,c=.loop x→Code.roundsIn (fen rB) 0 E.P x (fV m β H w outs) (N+1) a w:=by
 intro c;induction c with
 | skip=>
  intro m β H w r rB A a outs hm hR hA hr h hb;cases h
  exact ⟨wpIn_skip ⟨_,List.mem_singleton.2 rfl,trivial,β,hA,hR,Ext.refl _ _ _⟩,fun x hx=>by cases hx⟩
 | region id ops draw=>
  intro m β H w r rB A a outs hm hR hA hr h hb;refine ⟨?_,fun x hx=>by cases hx⟩;cases draw with
  | false=>exact NY hE K0 G0 hm hR hA h hb
  | true=>
   have h':(Eng.ifE (dF ops) (CF.mk fun rec _ a h=>(cJ E rec (pA E.P ops) 0 (dw [] 0 ops.toList) [] a h).bind eJ) (CF.mk fun _ _ _ _=>.bad "draw - slots")).run rec r A H=.ok outs:=h
   cases hs:dF ops with
   | false=>rw[hs] at h';cases h'
   | true=>rw[hs] at h';exact hD N rec K0 G0 hm hR hA hs h' hb
 | seq x y hx hy=>
  intro m β H w r rB A a outs hm hR hA hr h hb;refine ⟨?_,fun x hx=>by cases hx⟩;obtain ⟨l,hl,hk⟩:=R.dJ (r:=(codeF E x).run rec r A H) (f:=oU (codeF E y) rec r) h;have hkr:∀ z:ax×ab×Hp,RG (nE z) nE (oU (codeF E y) rec r z):=fun z=>nk (qI G0 y r _ _) (fun _=>RG.one (zA1 _)) (RG.one (zA1 _));have N3:∀ z∈l,nE z≤m:=fun z hz=>by
   obtain ⟨o,ho,hs⟩:=hk z hz;exact RG.nJ (hkr z) ho hs hb
  refine wpIn_seq (Go.wpIn_mono (hx hm hR hA hr hl N3).1 fun e a1 w1 hp=>?_);obtain ⟨z,hz,o6,β1,E5,G4,P0⟩:=hp;obtain ⟨o,ho,hs⟩:=hk z hz;rcases nN ho with ⟨L3,h1⟩|⟨i,L3,h1⟩|⟨L3,h1⟩
  ·rw[o6.normal L3];exact Go.wpIn_mono (hy hm G4 E5 (hr.mono P0.sub) h1 (fun q hq=>hb q (hs q hq))).1 fun e a2 w2 P4=>P4.ext P0 hs
  ·cases h1
   rw[o6.exit L3];exact ⟨z,hs z (List.mem_singleton.2 rfl),by rw[L3];rfl,β1,E5,G4,P0⟩
  cases h1
  rw[o6.ret L3];exact ⟨z,hs z (List.mem_singleton.2 rfl),by rw[L3];trivial,β1,E5,G4,P0⟩
 | cond c x y hx hy=>
  intro m β H w r rB A a outs hm hR hA hr h hb;refine ⟨?_,fun x hx=>by cases hx⟩;have h':dz (ev A.tm c) (.bad "cond") (fun b=>Eng.ifE b ((codeF E x).run rec r A H) ((codeF E y).run rec r A H))=.ok outs:=h
  have hv:=bH hA.tm.2.2 c;cases hc:ev A.tm c with
  | one q=>
   rw[hc] at h' hv;cases q with
   | b t=>
    have X2:a.eval c=.bool t:=hv;refine wpIn_cond X2 ?_;cases t with
    | true=>exact (hx hm hR hA hr h' hb).1
    | false=>exact (hy hm hR hA hr h' hb).1
   | i _ _=>cases h'
   | o _=>cases h'
  | agg _=>rw[hc] at h';cases h'
  | tup _=>rw[hc] at h';cases h'
  | any=>rw[hc] at h';cases h'
 | block id x hx=>
  intro m β H w r rB A a outs hm hR hA hr h hb;refine ⟨?_,fun x hx=>by cases hx⟩;obtain ⟨l,hl,hk⟩:=R.dJ (r:=(codeF E x).run rec r A H) (f:=mQ id) h;have N3:∀ z∈l,nE z≤m:=fun z hz=>by
   obtain ⟨o,ho,hs⟩:=hk z hz;exact RG.nJ (Ov (zA1 _)) ho hs hb
  refine wpIn_block (Go.wpIn_mono (hx hm hR hA hr hl N3).1 fun e a1 w1 hp=>?_);obtain ⟨z,hz,o6,β1,E5,G4,P0⟩:=hp;obtain ⟨o,ho,hs⟩:=hk z hz;rcases nN ho with ⟨L3,h1⟩|⟨i,L3,h1⟩|⟨L3,h1⟩
  ·cases h1
   rw[o6.normal L3];exact ⟨z,hs z (List.mem_singleton.2 rfl),by rw[L3];trivial,β1,E5,G4,P0⟩
  ·rw[o6.exit L3];rw[bM] at h1;show if i=id then _ else _;split at h1
   ·rename_i hi
    cases h1
    rw[zB0 (zA3 hi)];exact ⟨_,hs _ (List.mem_singleton.2 rfl),trivial,β1,E5,G4,P0⟩
   rename_i hi
   cases h1
   rw[zB1 (fun hh=>hi (by rw[hh];exact Nat.beq_refl _))];exact ⟨z,hs z (List.mem_singleton.2 rfl),by rw[L3];rfl,β1,E5,G4,P0⟩
  cases h1
  rw[o6.ret L3];exact ⟨z,hs z (List.mem_singleton.2 rfl),by rw[L3];trivial,β1,E5,G4,P0⟩
 | loop x hx=>
  intro m β H w r rB A a outs hm hR hA hr h hb;obtain ⟨l,hl,hk⟩:=R.dJ (r:=(codeF E x).run rec r A H) (f:=uD rec r x) h;have N3:∀ z∈l,nE z≤m:=fun z hz=>by
   obtain ⟨o,ho,hs⟩:=hk z hz;exact RG.nJ (k:=nE z) (nx:=nE) (nk (G0.code _ _ _ _) (fun _=>RG.one (zA1 _)) (RG.one (zA1 _))) ho hs hb
  have hone:=(hx hm hR hA hr hl N3).1;have k9:Code.roundsIn (fen rB) 0 E.P x (fV m β H w outs) (N+1) a w:=by
   rw[roundsIn_succ];refine Go.wpIn_mono hone fun e a1 w1 hp=>?_;obtain ⟨z,hz,o6,β1,E5,G4,P0⟩:=hp;obtain ⟨o,ho,hs⟩:=hk z hz;rcases nN ho with ⟨L3,h1⟩|⟨i,L3,h1⟩|⟨L3,h1⟩
   ·rw[o6.normal L3];have:=(K0.code hm G4 E5 (hr.mono P0.sub) h1 (fun q hq=>hb q (hs q hq))).2 x rfl;exact oC (fun e a2 w2 P4=>P4.ext P0 hs) this
   ·cases h1
    rw[o6.exit L3];exact ⟨z,hs z (List.mem_singleton.2 rfl),by rw[L3];rfl,β1,E5,G4,P0⟩
   cases h1
   rw[o6.ret L3];exact ⟨z,hs z (List.mem_singleton.2 rfl),by rw[L3];trivial,β1,E5,G4,P0⟩
  exact ⟨wpIn_loop_rounds _ k9,fun y hy=>by cases hy;exact k9⟩
 | rangeFunc f ps as bo _ _=>
  intro m β H w r rB A a outs hm hR hA hr h hb;exact ⟨OW hE K0 G0 hm hR hA hr h hb,fun x hx=>by cases hx⟩
 | exit id=>
  intro m β H w r rB A a outs hm hR hA hr h hb;cases h
  exact ⟨wpIn_exit ⟨_,List.mem_singleton.2 rfl,rfl,β,hA,hR,Ext.refl _ _ _⟩,fun x hx=>by cases hx⟩
 | scope x hx=>
  intro m β H w r rB A a outs hm hR hA hr h hb;exact ⟨JR (hx hm hR hA hr h hb).1 fun l a w=>fV.noGoto l a w,fun x hx=>by cases hx⟩
 | label l=>
  intro m β H w r rB A a outs hm hR hA hr h hb;cases h
  exact ⟨wpIn_label ⟨_,List.mem_singleton.2 rfl,trivial,β,hA,hR,Ext.refl _ _ _⟩,fun x hx=>by cases hx⟩
 | goto l=>intro m β H w r rB A a outs hm hR hA hr h hb;cases h
 | ret=>
  intro m β H w r rB A a outs hm hR hA hr h hb;cases h
  exact ⟨wpIn_ret ⟨_,List.mem_singleton.2 rfl,trivial,β,hA,hR,Ext.refl _ _ _⟩,fun x hx=>by cases hx⟩
 | refuse x=>intro m β H w r rB A a outs hm hR hA hr h hb;cases h
end
end Go.Eng
