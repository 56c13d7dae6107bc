/- A part of the proof: EngApp, EngBits, EngAll, EngMap2, EngDrH, EngJn. No conditions. -/
import Derived.Test.YtnhbkodnmkojpaaGreatSAi
set_option maxRecDepth 100000
set_option maxHeartbeats 64000000
set_option linter.unusedVariables false
set_option linter.unusedSimpArgs false
namespace Go.Eng
open Go
theorem Od {H:Hp} {v:AC} {sz n:Nat} {cells:List AC} (hv:SlC H v sz n cells):jf H sz (.one v)=some (n,cells):=by
 rcases hv with ⟨hc,⟨rfl,rfl⟩|⟨id,g,off,rfl,hid,row,hg,hle,X3⟩⟩
 ·rw[Nat.zero_mul] at hc;have hc:=List.eq_nil_of_length_eq_zero hc;subst hc;rfl
 rw[kQ hg hle,X3]
theorem zj {P:Program} {H:Hp} {t e:TypeId} {sz by_ n id:Nat} {z:Value} {v:AC} {cells:List AC} (he:bm P t=some (e,sz)) (hb:cB P e=some by_) (hz:aB P e=some z) (L1:(ofValue z).cells.length=sz) (G1:sz≠0)
  (hg:H.get id=some (.arr [] e 0 0)) (hid:id<H.nx) (hv:SlC H v sz n cells) (h2:n≤140737488355328∧n*by_≤140737488355328):∃ v' H',aV P H t (.one (.o (.sl id 0 0 0 sz))) (.one v)=.val (.one v') H'∧eU H' v' e sz n cells (some id)∧Fr (fun i=>i=id) H H':=by
 have ho:eU H (.o (.sl id 0 0 0 sz)) e sz 0 [] (some id):=.inr ⟨id,0,0,rfl,rfl,hg,zA1 _,by rw[Nat.zero_mul];rfl,hid⟩;have hs:=Od hv;rcases Nat.eq_zero_or_pos n with h0|h0
 ·subst h0;have hc:cells=[]:=by
   have:=hv.1;rw[Nat.zero_mul] at this;exact List.eq_nil_of_length_eq_zero this
  subst hc;refine ⟨.o (.sl id 0 0 0 sz),H,?_,ho,Fr.refl _⟩;have e1:Nat.beq sz 0=false:=by
   cases h:Nat.beq sz 0 with
   | false=>rfl
   | true=>exact absurd (zA3 h) G1
  have e3:both (!Nat.beq sz 0) (Nat.beq (bw (ofValue z).cells) sz)=true:=by rw[e1,bj,L1,Nat.beq_refl];rfl
  have step:aV P H t (.one (.o (.sl id 0 0 0 sz))) (.one v)=dn H e sz by_ 0 [] (.one (.o (.sl id 0 0 0 sz))):=by
   unfold aV;simp only[he,hb,hz,nd,e3,aH,hs]
  rw[step];show mE (H.get id) _ _=_;rw[hg];show aH (both (Nat.beq sz sz) (both (Nat.beq e e) (both (Nat.ble 0 0) (both (Nat.ble 0 0) (both (Nat.ble (Nat.add 0 (Nat.mul 0 sz)) (bw ([]:List AC))) (both (Nat.ble (Nat.add 0 0) 140737488355328) (Nat.ble (Nat.mul (Nat.add 0 0) by_) 140737488355328))))))) _
   (Eng.ifE (Nat.beq 0 0) _ (Eng.ifE (both (Nat.beq 0 0) (both (Nat.beq 0 0) (Nat.beq (Nat.mul 0 sz) (bw ([]:List AC))))) _ _))=_
  have z1:Nat.mul 0 sz=0:=Nat.zero_mul sz;have z2:Nat.mul (Nat.add 0 0) by_=0:=Nat.zero_mul by_;rw[Nat.beq_refl,Nat.beq_refl,z1,z2];rfl
 obtain ⟨v',H',r',h1,h3,h4,h5⟩:=oT (n:=0) he hb hz L1 G1 ho hs (by omega) hv.1 (by omega) (by rw[Nat.zero_add];exact h2.2);rw[Nat.zero_add,List.nil_append] at h3;rcases h5 with h5|⟨h5,_⟩
 ·cases h5
  exact ⟨v',H',h1,h3,h4.mono fun i h=>by cases h;rfl⟩
 cases h5
theorem JL {H:Hp} {id g off n sz:Nat} {alt:ad} {f:BF}:bp H 1 .eql f (.one (.o (.sl id g off n sz))) (.one (.o .nilS)) alt=.val (.one (.b false)) H:=rfl
theorem Sa {H:Hp} {alt:ad} {f:BF}:bp H 1 .eql f (.one (.o .nilS)) (.one (.o .nilS)) alt=alt:=rfl
def Hg (r:Bool) (H:Hp) (alt:ad) (x y:AV):ad:=
 match x,y with
 | .one (.o .nilS),.one (.o .nilS)=>.val (.one (.b r)) H
 | _,_=>alt
theorem VE {r:Bool} {H:Hp} {alt:ad}:Hg r H alt (.one (.o .nilS)) (.one (.o .nilS))=.val (.one (.b r)) H:=rfl
theorem IU {P:Program} {tm:PT AV} {H:Hp} {d:Option Tmp} {t c:TypeId} {et:TypeId} {x y:Operand} {ty:TypeId} {pos:String} {af:Array Edge} {g:Option (Nat×Bool)} (h:P.underlying t=some (.slice et)):
  an P tm H ⟨d,.binOp .eql t x y c,ty,pos,af,g⟩=Hg true H (bD P tm H ⟨d,.binOp .eql t x y c,ty,pos,af,g⟩) (ev tm x) (ev tm y):=by
 unfold Hg;split
 ·rename_i hx hy
  have vx:(ev tm x).val?=some (.slice none 0 0):=by rw[hx];rfl
  have vy:(ev tm y).val?=some (.slice none 0 0):=by rw[hy];rfl
  have dx:aY (ev tm x)=.slice none 0 0:=by unfold aY;rw[vx]
  have dy:aY (ev tm y)=.slice none 0 0:=by unfold aY;rw[vy]
  unfold an;have e1:((⟨d,.binOp .eql t x y c,ty,pos,af,g⟩:Oper).op.operands.toList.all fun x=>(ev tm x).val?.isSome)=true:=by
   show ([x,y].all fun x=>(ev tm x).val?.isSome)=true;simp only[List.all_cons,List.all_nil,vx,vy];rfl
  rw[e1];have e2:aw P (execOp (fun x=>aY (ev tm x)) ⟨d,.binOp .eql t x y c,ty,pos,af,g⟩)=some (.value (.bool true)):=by
   show aw P (Sem.bind (Sem.bind (eqGuard .eql t x y (aY (ev tm x)) (aY (ev tm y))) fun _=>binOp .eql t (aY (ev tm x)) (aY (ev tm y))) fun v=>Sem.pure (Next.value v))=_;rw[dx,dy,aN,aN];have hg:eqGuard .eql t x y (.slice none 0 0) (.slice none 0 0)=pure ():=rfl;rw[hg];show ((aw P (Sem.bind (Op.equalIn 10000 t (.slice none 0 0) (.slice none 0 0)) fun r=>Sem.pure (Value.bool r)))).bind _=_;have he:aw P (Op.equalIn 10000 t (.slice none 0 0) (.slice none 0 0))=some true:=by
    unfold Op.equalIn;rw[ba,bL h];rfl
   rw[aN,he];rfl
  rw[e2];rfl
 rfl
theorem Mq {P:Program} {t e:TypeId} (h1:aP P t=1) (h:P.underlying t=some (.slice e)):aP P t=1∧(∀ (H:Hp) (alt:ad) (f:BF),bp H 1 .eql f (.one (.o .nilS)) (.one (.o .nilS)) alt=alt) ∧
  (∀ (H:Hp) (id g off n sz:Nat) (alt:ad) (f:BF),bp H 1 .eql f (.one (.o (.sl id g off n sz))) (.one (.o .nilS)) alt=.val (.one (.b false)) H) ∧
  (∀ (tm:PT AV) (H:Hp) (d:Option Tmp) (x y:Operand) (c ty:TypeId) (pos:String) (af:Array Edge) (g:Option (Nat×Bool)),an P tm H ⟨d,.binOp .eql t x y c,ty,pos,af,g⟩=Hg true H (bD P tm H ⟨d,.binOp .eql t x y c,ty,pos,af,g⟩) (ev tm x) (ev tm y)) ∧
  (∀ (H:Hp) (alt:ad),Hg true H alt (.one (.o .nilS)) (.one (.o .nilS))=.val (.one (.b true)) H):=
 ⟨h1,fun _ _ _=>Sa,fun _ _ _ _ _ _ _ _=>JL,fun _ _ _ _ _ _ _ _ _ _=>IU h,fun _ _=>VE⟩
theorem R1.gW {E:Env} {r:Option Nat} {x z:Code} {A:ab} {H:Hp} {Q:ax→ab→Hp→Prop} (I:ab→Hp→Prop)
  (h:∀ K:ax→ab→Hp→Prop,Hd (∀ B H,I B H→K .normal B H)→Hd (∀ i B H,Q (.exit i) B H→K (.exit i) B H)→Hd (∀ B H,Q .ret B H→K .ret B H)→R1 E r x A H K)
  (h2:∀ B H,I B H→R1 E r z B H Q):R1 E r (.seq x z) A H Q:=
 R1.seq ((h (Thn I Q) (fun _ _ h=>h) (fun _ _ _ h=>h) (fun _ _ h=>h)).mono fun e B H' hq=>by
  cases e with
  | normal=>exact h2 _ _ hq
  | exit i=>exact hq
  | ret=>exact hq)
theorem R1.YD {E:Env} {r:Option Nat} {x:Code} {A:ab} {H:Hp} {Q:ax→ab→Hp→Prop} (I:ab→Hp→Prop)
  (h:∀ K:ax→ab→Hp→Prop,Hd (∀ B H,I B H→K .normal B H)→Hd (∀ i B H,Q (.exit i) B H→K (.exit i) B H)→Hd (∀ B H,Q .ret B H→K .ret B H)→R1 E r x A H K)
  (h2:∀ B H,I B H→Q .normal B H):R1 E r x A H Q:=
 (h (Thn I Q) (fun _ _ h=>h) (fun _ _ _ h=>h) (fun _ _ h=>h)).mono fun e B H' hq=>by
  cases e with
  | normal=>exact h2 _ _ hq
  | exit i=>exact hq
  | ret=>exact hq
def oO (op:BinOp) (k:IntKind) (a b:Int):Int:=
 match op with
 | .and=>k.wrap ((BitVec.ofInt k.bits a &&& BitVec.ofInt k.bits b).toNat)
 | _=>k.wrap ((BitVec.ofInt k.bits a ^^^ BitVec.ofInt k.bits b).toNat)
def zx (p:Int→Int→Prop) [∀ a b,Decidable (p a b)] (f:IntKind→Int→Int→AC) (H:Hp) (alt:ad) (x y:AV):ad:=
 match x,y with|.one (.i k a),.one (.i _ b)=>if p a b then .val (.one (f k a b)) H else alt|_,_=>alt
theorem VF {p:Int→Int→Prop} [∀ a b,Decidable (p a b)] {f:IntKind→Int→Int→AC} {H:Hp} {alt:ad} {k k':IntKind} {a b:Int} (h:p a b):zx p f H alt (.one (.i k a)) (.one (.i k' b))=.val (.one (f k a b)) H:=zB0 h
section
variable {P:Program} {tm:PT AV} {H:Hp} {d:Option Tmp} {ty:TypeId} {pos:String} {af:Array Edge} {g:Option (Nat×Bool)}
theorem yc {t c:TypeId} {x y:Operand} {op:BinOp} (ho:op=.and∨op=.xor):an P tm H ⟨d,.binOp op t x y c,ty,pos,af,g⟩=qu (fun _ _=>True) (fun k a b=>.i k (oO op k a b)) H (bD P tm H ⟨d,.binOp op t x y c,ty,pos,af,g⟩) (ev tm x) (ev tm y):=by
 unfold qu;split
 ·rename_i k a k' b hx hy
  by_cases h:k=k'∧True
  ·rw[zB0 h];obtain ⟨rfl,-⟩:=h;refine nD (v:=.int k (oO op k a b)) ?_ ?_ rfl
   ·show ([x,y].all fun x=>(ev tm x).val?.isSome)=true;simp only[List.all_cons,List.all_nil,hx,hy];rfl
   have e:binOp op t (.int k a) (.int k b)=pure (.int k (oO op k a b)):=by
    rcases ho with rfl|rfl
    ·show (if k≠k then _ else Op.intBits .and k a b)=_;rw[zB1 (by simp)];rfl
    show (if k≠k then _ else Op.intBits .xor k a b)=_;rw[zB1 (by simp)];rfl
   have eg:eqGuard op t x y (aY (ev tm x)) (aY (ev tm y))=pure ():=by
    rcases ho with rfl|rfl <;> rfl
   show aw P (Sem.bind (Sem.bind (eqGuard op t x y (aY (ev tm x)) (aY (ev tm y))) fun _=>binOp op t (aY (ev tm x)) (aY (ev tm y))) fun v=>Sem.pure (Next.value v))=_;rw[eg,lJ hx,lJ hy];show aw P (Sem.bind (binOp op t (.int k a) (.int k b)) fun v=>Sem.pure (Next.value v))=_;rw[e];rfl
  rw[zB1 h];rfl
 rfl
def shF (op:BinOp) (k:IntKind) (a b:Int):Int:=
 match op with
 | .shl=>k.wrap (a*2 ^ (min b.toNat k.bits))
 | _=>a.fdiv (2 ^ (min b.toNat k.bits))
theorem tj {t c:TypeId} {x y:Operand} {op:BinOp} (ho:op=.shl∨op=.shr):an P tm H ⟨d,.binOp op t x y c,ty,pos,af,g⟩=zx (fun _ b=>0≤b) (fun k a b=>.i k (shF op k a b)) H (bD P tm H ⟨d,.binOp op t x y c,ty,pos,af,g⟩) (ev tm x) (ev tm y):=by
 unfold zx;split
 ·rename_i k a k' b hx hy
  by_cases h:0≤b
  ·rw[zB0 h];refine nD (v:=.int k (shF op k a b)) ?_ ?_ rfl
   ·show ([x,y].all fun x=>(ev tm x).val?.isSome)=true;simp only[List.all_cons,List.all_nil,hx,hy];rfl
   have e:binOp op t (.int k a) (.int k' b)=pure (.int k (shF op k a b)):=by
    rcases ho with rfl|rfl
    ·show Op.shift .shl k a k' b=_;unfold Op.shift;rw[zB1 (by omega)];rfl
    show Op.shift .shr k a k' b=_;unfold Op.shift;rw[zB1 (by omega)];rfl
   have eg:eqGuard op t x y (aY (ev tm x)) (aY (ev tm y))=pure ():=by
    rcases ho with rfl|rfl <;> rfl
   show aw P (Sem.bind (Sem.bind (eqGuard op t x y (aY (ev tm x)) (aY (ev tm y))) fun _=>binOp op t (aY (ev tm x)) (aY (ev tm y))) fun v=>Sem.pure (Next.value v))=_;rw[eg,lJ hx,lJ hy];show aw P (Sem.bind (binOp op t (.int k a) (.int k' b)) fun v=>Sem.pure (Next.value v))=_;rw[e];rfl
  rw[zB1 h];rfl
 rfl
end
theorem Yg {H:Hp} {kd:Nat} {k k':IntKind} {a b:Int} {alt:ad}:bp H kd .and (dV .and) (.one (.i k a)) (.one (.i k' b)) alt=alt:=by cases k <;> cases k' <;> rfl
theorem Ya {H:Hp} {kd:Nat} {k k':IntKind} {a b:Int} {alt:ad}:bp H kd .xor (dV .xor) (.one (.i k a)) (.one (.i k' b)) alt=alt:=by cases k <;> cases k' <;> rfl
theorem Xp {H:Hp} {kd:Nat} {k k':IntKind} {a b:Int} {alt:ad}:bp H kd .shl (dV .shl) (.one (.i k a)) (.one (.i k' b)) alt=alt:=by cases k <;> cases k' <;> rfl
theorem Yc {H:Hp} {kd:Nat} {k k':IntKind} {a b:Int} {alt:ad}:bp H kd .shr (dV .shr) (.one (.i k a)) (.one (.i k' b)) alt=alt:=by cases k <;> cases k' <;> rfl
theorem YF:(∀ (P:Program) (tm:PT AV) (H:Hp) (d:Option Tmp) (ty:TypeId) (pos:String) (af:Array Edge) (g:Option (Nat×Bool)) (t c:TypeId) (x y:Operand),an P tm H ⟨d,.binOp .and t x y c,ty,pos,af,g⟩=qu (fun _ _=>True) (fun k a b=>.i k (oO .and k a b)) H (bD P tm H ⟨d,.binOp .and t x y c,ty,pos,af,g⟩) (ev tm x) (ev tm y)) ∧
  (∀ (P:Program) (tm:PT AV) (H:Hp) (d:Option Tmp) (ty:TypeId) (pos:String) (af:Array Edge) (g:Option (Nat×Bool)) (t c:TypeId) (x y:Operand),an P tm H ⟨d,.binOp .xor t x y c,ty,pos,af,g⟩=qu (fun _ _=>True) (fun k a b=>.i k (oO .xor k a b)) H (bD P tm H ⟨d,.binOp .xor t x y c,ty,pos,af,g⟩) (ev tm x) (ev tm y)) ∧
  (∀ (P:Program) (tm:PT AV) (H:Hp) (d:Option Tmp) (ty:TypeId) (pos:String) (af:Array Edge) (g:Option (Nat×Bool)) (t c:TypeId) (x y:Operand),an P tm H ⟨d,.binOp .shl t x y c,ty,pos,af,g⟩=zx (fun _ b=>0≤b) (fun k a b=>.i k (shF .shl k a b)) H (bD P tm H ⟨d,.binOp .shl t x y c,ty,pos,af,g⟩) (ev tm x) (ev tm y)) ∧
  (∀ (P:Program) (tm:PT AV) (H:Hp) (d:Option Tmp) (ty:TypeId) (pos:String) (af:Array Edge) (g:Option (Nat×Bool)) (t c:TypeId) (x y:Operand),an P tm H ⟨d,.binOp .shr t x y c,ty,pos,af,g⟩=zx (fun _ b=>0≤b) (fun k a b=>.i k (shF .shr k a b)) H (bD P tm H ⟨d,.binOp .shr t x y c,ty,pos,af,g⟩) (ev tm x) (ev tm y)) ∧
  (∀ (H:Hp) (kd:Nat) (k k':IntKind) (a b:Int) (alt:ad),bp H kd .and (dV .and) (.one (.i k a)) (.one (.i k' b)) alt=alt)∧(∀ (H:Hp) (kd:Nat) (k k':IntKind) (a b:Int) (alt:ad),bp H kd .xor (dV .xor) (.one (.i k a)) (.one (.i k' b)) alt=alt) ∧
  (∀ (H:Hp) (kd:Nat) (k k':IntKind) (a b:Int) (alt:ad),bp H kd .shl (dV .shl) (.one (.i k a)) (.one (.i k' b)) alt=alt)∧(∀ (H:Hp) (kd:Nat) (k k':IntKind) (a b:Int) (alt:ad),bp H kd .shr (dV .shr) (.one (.i k a)) (.one (.i k' b)) alt=alt) ∧
  (∀ (H:Hp) (alt:ad) (k:IntKind) (a b:Int),qu (fun _ _=>True) (fun k a b=>.i k (oO .and k a b)) H alt (.one (.i k a)) (.one (.i k b))=.val (.one (.i k (oO .and k a b))) H)∧(∀ (H:Hp) (alt:ad) (k:IntKind) (a b:Int),qu (fun _ _=>True) (fun k a b=>.i k (oO .xor k a b)) H alt (.one (.i k a)) (.one (.i k b))=.val (.one (.i k (oO .xor k a b))) H):=
 ⟨fun _ _ _ _ _ _ _ _ _ _ _ _=>yc (.inl rfl),fun _ _ _ _ _ _ _ _ _ _ _ _=>yc (.inr rfl),fun _ _ _ _ _ _ _ _ _ _ _ _=>tj (.inl rfl),fun _ _ _ _ _ _ _ _ _ _ _ _=>tj (.inr rfl),
  fun _ _ _ _ _ _ _=>Yg,fun _ _ _ _ _ _ _=>Ya,fun _ _ _ _ _ _ _=>Xp,fun _ _ _ _ _ _ _=>Yc,fun _ _ _ _ _=>IH trivial,fun _ _ _ _ _=>IH trivial⟩
theorem shI {op:BinOp} {b:Int} (h:0≤b):∀ (H:Hp) (alt:ad) (k k':IntKind) (a:Int),zx (fun _ b=>0≤b) (fun k a b=>.i k (shF op k a b)) H alt (.one (.i k a)) (.one (.i k' b))=.val (.one (.i k (shF op k a b))) H:=fun _ _ _ _ _=>VF h
theorem Cg {n:Nat} (x:Nat):BitVec.ofInt n (x:Int)=BitVec.ofNat n x:=by
 apply BitVec.eq_of_toInt_eq;simp
theorem EW (n:Int):IntKind.u64.wrap n=n % 18446744073709551616:=by
 unfold IntKind.wrap;have h1:IntKind.signed .u64=false:=rfl;simp only[h1,Bool.false_and,Bool.false_eq_true,if_false];rfl
theorem wM {x:Nat} (h:x<18446744073709551616):IntKind.u64.wrap (x:Int)=(x:Int):=by
 rw[EW];omega
theorem YP {x y:Nat} (hx:x<18446744073709551616) (hy:y<18446744073709551616):oO .and .u64 (x:Int) (y:Int)=((x &&& y:Nat):Int):=by
 show IntKind.u64.wrap ((BitVec.ofInt 64 (x:Int) &&& BitVec.ofInt 64 (y:Int)).toNat)=_;have e:(BitVec.ofInt 64 (x:Int) &&& BitVec.ofInt 64 (y:Int)).toNat=x &&& y:=by
  rw[Cg,Cg,BitVec.toNat_and,BitVec.toNat_ofNat,BitVec.toNat_ofNat,Nat.mod_eq_of_lt hx,Nat.mod_eq_of_lt hy]
 rw[e];exact wM (Nat.lt_of_le_of_lt Nat.and_le_left hx)
theorem Pe {x y:Nat} (hx:x<18446744073709551616) (hy:y<18446744073709551616):oO .xor .u64 (x:Int) (y:Int)=((x ^^^ y:Nat):Int):=by
 show IntKind.u64.wrap ((BitVec.ofInt 64 (x:Int) ^^^ BitVec.ofInt 64 (y:Int)).toNat)=_;have e:(BitVec.ofInt 64 (x:Int) ^^^ BitVec.ofInt 64 (y:Int)).toNat=x ^^^ y:=by
  rw[Cg,Cg,BitVec.toNat_xor,BitVec.toNat_ofNat,BitVec.toNat_ofNat,Nat.mod_eq_of_lt hx,Nat.mod_eq_of_lt hy]
 rw[e];exact wM (Nat.xor_lt_two_pow (n:=64) hx hy)
theorem SP {x k:Nat} (hk:k≤64):shF .shl .u64 (x:Int) (k:Int)=((x*2 ^ k % 18446744073709551616:Nat):Int):=by
 show IntKind.u64.wrap ((x:Int)*2 ^ (min (k:Int).toNat 64))=_;rw[Int.toNat_natCast,Nat.min_eq_left hk,EW];rw[Int.natCast_emod,Int.natCast_mul,Int.natCast_pow];rfl
theorem SR {x k:Nat} (hk:k≤64):shF .shr .u64 (x:Int) (k:Int)=((x / 2 ^ k:Nat):Int):=by
 show ((x:Int)).fdiv (2 ^ (min (k:Int).toNat 64))=_;rw[Int.toNat_natCast,Nat.min_eq_left hk];have e:(2:Int) ^ k=((2 ^ k:Nat):Int):=(Int.natCast_pow 2 k).symm;rw[e,Int.fdiv_eq_ediv_of_nonneg _ (Int.natCast_nonneg _),←Int.natCast_ediv]
def RA (E:Env) (r:Option Nat) (c:Code) (A:ab) (H:Hp) (Q:ax→ab→Hp→Prop):Prop:=∃ n l,(codeF E c).run (eval E n) r A H=.ok l∧l≠[]∧∀ x∈l,Q x.1 x.2.1 x.2.2
def OA (E:Env) (l:List OF) (A:ab) (H:Hp) (Q:ab→Hp→Prop):Prop:=∃ n o,dR E (eval E n) l A H=.ok o∧o≠[]∧∀ x∈o,Q x.1 x.2
theorem gE {α β:Type} {f:Nat→α→R β} (hf:∀ {n k:Nat} (x:α),n≤k→RLe (f n x) (f k x)) {Q:β→Prop}:∀ l:List α,l≠[]→(∀ x∈l,∃ n o,f n x=.ok o∧o≠[]∧∀ y∈o,Q y)→∃ n o,(∀ k,n≤k→cj (f k) l=.ok o)∧o≠[]∧∀ y∈o,Q y
 | [],h,_=>absurd rfl h
 | [x],_,h=>by
  obtain ⟨n,o,h1,h2,h3⟩:=h x (List.mem_singleton.2 rfl);exact ⟨n,o,fun k hk=>hf x hk _ h1,h2,h3⟩
 | x::y::l,_,h=>by
  obtain ⟨n,o,h1,h2,h3⟩:=h x (List.mem_cons_self ..);obtain ⟨n',o',u7,V8,E9⟩:=gE hf (y::l) (by simp) fun z hz=>h z (List.mem_cons_of_mem _ hz);refine ⟨max n n',o++o',fun k hk=>?_,by simp[h2],fun z hz=>(List.mem_append.1 hz).elim (h3 z) (E9 z)⟩;have a1:=hf x (show n≤k by omega) _ h1;have a2:=u7 k (by omega);show wy (f k x) (cj (f k) (y::l))=_;rw[a1,a2];rfl
section
variable {E:Env} {r:Option Nat} {A:ab} {H:Hp} {Q:ax→ab→Hp→Prop}
theorem RA.of {c:Code} (h:R1 E r c A H Q):RA E r c A H Q:=by
 obtain ⟨n,e,A1,H1,h1,h2⟩:=h;exact ⟨n,_,h1,by simp,fun x hx=>by rw[List.mem_singleton.1 hx];exact h2⟩
theorem RA.mono {c:Code} {Q':ax→ab→Hp→Prop} (h:RA E r c A H Q) (hq:∀ e A' H',Q e A' H'→Q' e A' H'):RA E r c A H Q':=
 let ⟨n,l,h1,h2,h3⟩:=h;⟨n,l,h1,h2,fun x hx=>hq _ _ _ (h3 x hx)⟩
theorem OA.mono {l:List OF} {Q Q':ab→Hp→Prop} (h:OA E l A H Q) (hq:∀ A' H',Q A' H'→Q' A' H'):OA E l A H Q':=
 let ⟨n,o,h1,h2,h3⟩:=h;⟨n,o,h1,h2,fun x hx=>hq _ _ (h3 x hx)⟩
theorem OA.of {l:List OF} {Q:ab→Hp→Prop} (h:O1 E l A H Q):OA E l A H Q:=by
 obtain ⟨n,A1,H1,h1,h2⟩:=h;exact ⟨n,_,h1,by simp,fun x hx=>by rw[List.mem_singleton.1 hx];exact h2⟩
theorem RA.skip (h:Q .normal A H):RA E r .skip A H Q:=RA.of (R1.skip h)
theorem RA.exit {id:Nat} (h:Q (.exit id) A H):RA E r (.exit id) A H Q:=RA.of (R1.exit h)
theorem RA.ret (h:Q .ret A H):RA E r .ret A H Q:=RA.of (R1.ret h)
theorem RA.scope {c:Code} (h:RA E r c A H Q):RA E r (.scope c) A H Q:=h
theorem RA.seq {x y:Code} (h:RA E r x A H (Thn (fun A H=>RA E r y A H Q) Q)):RA E r (.seq x y) A H Q:=by
 obtain ⟨n,l,h1,h2,h3⟩:=h;have key:=gE (f:=fun k z=>oU (codeF E y) (eval E k) r z) (fun {n k} z hk=>CL (dq (cO E hk) y r _ _) (fun _=>RLe.refl _) (RLe.refl _)) (Q:=fun z=>Q z.1 z.2.1 z.2.2) l h2 fun z hz=>by
  have hq:=h3 z hz;obtain ⟨e,A1,H1⟩:=z;cases e with
  | normal=>exact hq
  | exit i=>exact ⟨0,_,rfl,by simp,fun y hy=>by rw[List.mem_singleton.1 hy];exact hq⟩
  | ret=>exact ⟨0,_,rfl,by simp,fun y hy=>by rw[List.mem_singleton.1 hy];exact hq⟩
 obtain ⟨n',o,k1,k2,k3⟩:=key;refine ⟨max n n',o,?_,k2,k3⟩;have a1:=dq (cO E (Nat.le_max_left n n')) x r A H _ h1;show ((codeF E x).run (eval E (max n n')) r A H).bind (oU (codeF E y) (eval E (max n n')) r)=_;rw[a1];exact k1 _ (Nat.le_max_right n n')
theorem RA.rG {x y:Code} (h:∀ K:ab→Hp→Prop,(∀ A H,RA E r y A H Q→K A H)→R1 E r x A H (Thn K Q)):RA E r (.seq x y) A H Q:=RA.seq (RA.of (h _ fun _ _ h=>h))
theorem RA.YJ {x y:Code} (h:∀ K:ab→Hp→Prop,(∀ A H,RA E r y A H Q→K A H)→RA E r x A H (Thn K Q)):RA E r (.seq x y) A H Q:=RA.seq (h _ fun _ _ h=>h)
theorem RA.cond {c:Operand} {x y:Code} {b:Bool} (hc:ev A.tm c=.one (.b b)) (h:RA E r (if b=true then x else y) A H Q):RA E r (.cond c x y) A H Q:=by
 obtain ⟨n,l,h1,h2⟩:=h;refine ⟨n,l,?_,h2⟩;show dz (ev A.tm c) (.bad "cond") (fun b=>Eng.ifE b ((codeF E x).run (eval E n) r A H) ((codeF E y).run (eval E n) r A H))=_
 rw[hc];cases b with
 | true=>exact h1
 | false=>exact h1
theorem Iz (id:Nat) (e:ax) (A1:ab) (H1:Hp) {Q:ax→ab→Hp→Prop} (h:InB id Q e A1 H1):∃ e2,mQ id (e,A1,H1)=.ok [(e2,A1,H1)]∧Q e2 A1 H1:=by
 cases e with
 | normal=>exact ⟨.normal,rfl,h⟩
 | ret=>exact ⟨.ret,rfl,h⟩
 | exit i=>
  have h':if i=id then Q .normal A1 H1 else Q (.exit i) A1 H1:=h;by_cases hi:i=id
  ·rw[zB0 hi] at h';refine ⟨.normal,?_,h'⟩;show Eng.ifE (Nat.beq i id) (R.ok [((.normal:ax),A1,H1)]) (R.ok [(.exit i,A1,H1)])=_;rw[hi,Nat.beq_refl];rfl
  rw[zB1 hi] at h';refine ⟨.exit i,?_,h'⟩;show Eng.ifE (Nat.beq i id) (R.ok [((.normal:ax),A1,H1)]) (R.ok [(.exit i,A1,H1)])=_;have:Nat.beq i id=false:=by
   cases hb:Nat.beq i id with
   | false=>rfl
   | true=>exact absurd (zA3 hb) hi
  rw[this];rfl
theorem RA.block {id:Nat} {c:Code} (h:RA E r c A H (InB id Q)):RA E r (.block id c) A H Q:=by
 obtain ⟨n,l,h1,h2,h3⟩:=h;obtain ⟨n',o,k1,k2,k3⟩:=gE (f:=fun _ z=>mQ id z) (fun _ _=>RLe.refl _) (Q:=fun z=>Q z.1 z.2.1 z.2.2) l h2 fun z hz=>by
  obtain ⟨e,A1,H1⟩:=z;obtain ⟨e2,a,b⟩:=Iz id e A1 H1 (h3 _ hz);exact ⟨0,_,a,by simp,fun y hy=>by rw[List.mem_singleton.1 hy];exact b⟩
 refine ⟨n,o,?_,k2,k3⟩;show ((codeF E c).run (eval E n) r A H).bind (mQ id)=_;rw[h1];exact k1 n' (zA1 _)
theorem RA.round {c:Code} (h:RA E r c A H (Thn (fun A H=>RA E r (.loop c) A H Q) Q)):RA E r (.loop c) A H Q:=by
 obtain ⟨n,l,h1,h2,h3⟩:=h;have key:=gE (f:=fun k z=>uD (eval E k) r c z) (fun {n k} z hk=>CL ((cO E hk).code _ _ _ _) (fun _=>RLe.refl _) (RLe.refl _)) (Q:=fun z=>Q z.1 z.2.1 z.2.2) l h2 fun z hz=>by
  have hq:=h3 z hz;obtain ⟨e,A1,H1⟩:=z;cases e with
  | normal=>
   obtain ⟨k,o,a,b⟩:=hq;exact ⟨k+1,o,a,b⟩
  | exit i=>exact ⟨0,_,rfl,by simp,fun y hy=>by rw[List.mem_singleton.1 hy];exact hq⟩
  | ret=>exact ⟨0,_,rfl,by simp,fun y hy=>by rw[List.mem_singleton.1 hy];exact hq⟩
 obtain ⟨n',o,k1,k2,k3⟩:=key;refine ⟨max n n',o,?_,k2,k3⟩;have a1:=dq (cO E (Nat.le_max_left n n')) c r A H _ h1;show ((codeF E c).run (eval E (max n n')) r A H).bind (uD (eval E (max n n')) r c)=_;rw[a1];exact k1 _ (Nat.le_max_right n n')
theorem RA.loop {c:Code} (I:Nat→ab→Hp→Prop) (hI:∀ k A H,I k A H→RA E r c A H (Thn (fun A' H'=>∃ k',k'<k∧I k' A' H') Q)):∀ (k:Nat) {A:ab} {H:Hp},I k A H→RA E r (.loop c) A H Q:=by
 intro k;induction k using Nat.strongRecOn with
 | ind k ih=>
  intro A H h;refine RA.round ((hI k A H h).mono fun e A' H' hq=>?_);cases e with
  | normal=>obtain ⟨k',hk,h'⟩:=hq;exact ih k' hk h'
  | exit i=>exact hq
  | ret=>exact hq
theorem RA.region {id:Nat} {ops:Array Oper} (h:OA E (pA E.P ops) A H fun A H=>Q .normal A H):RA E r (.region id ops false) A H Q:=by
 obtain ⟨n,o,h1,h2,h3⟩:=h;obtain ⟨n',o',k1,k2,k3⟩:=gE (f:=fun _ z=>eJ z) (fun _ _=>RLe.refl _) (Q:=fun z=>Q z.1 z.2.1 z.2.2) o h2 fun z hz=>⟨0,_,rfl,by simp,fun y hy=>by rw[List.mem_singleton.1 hy];exact h3 z hz⟩;refine ⟨n,o',?_,k2,k3⟩;show (dR E (eval E n) (pA E.P ops) A H).bind eJ=_;rw[h1];exact k1 n' (zA1 _)
theorem OA.ox {g:Option (Option Tmp×Bool)} {d:Option Tmp} {f:SF} {o:Oper} {l:List OF} {Q:ab→Hp→Prop} {vs:List (AV×Hp)} (hg:∀ y n:R (ab×Hp),bu A.tm g y n=y) (hd:aq d A.nt=true)
  (hr:f.run A.tm H=.ox vs) (Y0:vs≠[]) (h:∀ x∈vs,OA E l (bq A d x.1) x.2 Q):OA E (⟨g,d,f,o⟩::l) A H Q:=by
 obtain ⟨n,o',k1,k2,k3⟩:=gE (f:=fun k x=>fC A d x.1 x.2 (dR E (eval E k) l)) (fun {n k} x hk=>jS fun a h=>nf (cO E hk) l a h) (Q:=fun z=>Q z.1 z.2) vs Y0 fun x hx=>by
  obtain ⟨n,o,a,b⟩:=h x hx;exact ⟨n,o,by rw[iR hd];exact a,b⟩
 refine ⟨n,o',?_,k2,k3⟩;show bu A.tm g (mo E (eval E n) A d H (dR E (eval E n) l) (f.run A.tm H)) _=_;rw[hg,hr];exact k1 n (zA1 _)
theorem OA.val {g:Option (Option Tmp×Bool)} {d:Option Tmp} {f:SF} {o:Oper} {l:List OF} {Q:ab→Hp→Prop} {v:AV} {H':Hp} (hg:∀ y n:R (ab×Hp),bu A.tm g y n=y) (hd:aq d A.nt=true)
  (hr:f.run A.tm H=.val v H') (h:OA E l (bq A d v) H' Q):OA E (⟨g,d,f,o⟩::l) A H Q:=by
 obtain ⟨n,o',h1,h2⟩:=h;refine ⟨n,o',?_,h2⟩;show bu A.tm g (mo E (eval E n) A d H (dR E (eval E n) l) (f.run A.tm H)) _=_;rw[hg,hr];show fC A d v H' (dR E (eval E n) l)=_;rw[iR hd];exact h1
end
structure wA (H:Hp) (P:Hp→Prop) (H':Hp):Prop where
 get:∀ id c e gen,H.nx≤id→(∀ H2,P H2→id<H2.nx∧∃ lo,lo≤gen∧H2.get id=some (.arr c e lo gen))→id<H'.nx∧∃ lo,lo≤gen∧H'.get id=some (.arr c e lo gen)
 old:∀ id x,id<H.nx→(∀ H2,P H2→H.nx≤H2.nx∧H2.get id=x)→H'.get id=x
 nx:(∀ H2,P H2→H.nx≤H2.nx)→H.nx≤H'.nx
 log:∀ X:Nat→Prop,(∀ H2,P H2→∃ l,H2.log=l++H.log∧∀ id∈l,H.nx≤id∨X id)→∃ l,H'.log=l++H.log∧∀ id∈l,H.nx≤id∨X id
theorem Nv {H:Hp} {P:Hp→Prop} {v:AV} {l:List (AV×Hp)} (Y0:l≠[]) (hl:∀ x∈l,x.1=v∧P x.2) (hold:∀ id,id<H.nx→∃ x,∀ H2,P H2→H2.get id=x):∃ H',mr H l=[(v,H')]∧wA H P H':=by
 cases l with
 | nil=>exact absurd rfl Y0
 | cons x l=>
  obtain ⟨V0,T5⟩:=hl x (List.mem_cons_self ..);cases l with
  | nil=>
   refine ⟨x.2,?_,⟨fun id c e gen _ h=>h _ T5,fun id x _ h=>(h _ T5).2,fun h=>h _ T5,fun X h=>h _ T5⟩⟩;show [x]=_;rw[←V0]
  | cons y l=>
   have e:mr H (x::y::l)=RO H (x::y::l) x:=rfl;have hc:∀ z∈x::y::l,z.1=x.1∧∀ id,id<H.nx→z.2.t.get id=x.2.t.get id:=fun z hz=>by
    obtain ⟨a,b⟩:=hl z hz;refine ⟨a.trans V0.symm,fun id hid=>?_⟩;obtain ⟨o,ho⟩:=hold id hid;exact (ho _ b).trans (ho _ T5).symm
   have e2:mr H (x::y::l)=[(x.1,yd H (x::y::l) x.2.t)]:=by rw[e];exact zB0 hc
   refine ⟨_,by rw[e2,V0],?_⟩;have N0:∀ z∈x::y::l,P z.2:=fun z hz=>(hl z hz).2;generalize hL:x::y::l=L at *;have hxL:x∈L:=by rw[←hL];exact List.mem_cons_self ..
   refine ⟨fun id c e gen hid h=>?_,fun id q hid h=>?_,fun h=>?_,fun X h=>?_⟩
   ·obtain ⟨h1,lo1,q6,C5⟩:=h _ T5;have h2:id<kL L:=zA0 h1 (jb hxL);have hcan:∀ {o:Option aK} {lo:Nat},o=some (.arr c e lo gen)→iC H.nx id o=some (.arr c e gen gen):=fun ho=>by
     rw[ho];exact zB1 (by omega)
    refine ⟨h2,gen,zA1 _,?_⟩;rw[kR,zB0 ⟨h2,fun z hz=>by
     obtain ⟨_,lo,_,hg⟩:=h _ (N0 z hz);exact (hcan hg).trans (hcan C5).symm⟩]
    exact hcan C5
   ·have h1:=h _ T5;have h2:id<kL L:=zA0 (zA0 hid h1.1) (jb hxL);rw[kR,zB0 ⟨h2,fun z hz=>congrArg _ (((h _ (N0 z hz)).2).trans h1.2.symm)⟩];show (if id<H.nx then x.2.t.get id else _)=_;rw[zB0 hid];exact h1.2
   ·exact zA2 (h _ T5) (jb hxL)
   refine ⟨_,rfl,fun id hid=>?_⟩;obtain ⟨z,hz,V2⟩:=List.mem_flatMap.1 hid;obtain ⟨l2,e3,f3⟩:=h _ (N0 z hz);rw[sK e3] at V2;exact f3 id V2
structure Sf {K:Type} [DecidableEq K] (P:Program) (kt:TypeId) (kv:K→AV):Prop where
 eq:∀ a b,jF P kt (kv a) (kv b)=some (decide (a=b))
 ok:∀ e a,iy P e kt (kv a)=some ()
 same:∀ a,sameKey P kt (kv a) (kv a)=true
 nt:∀ a,(kv a).bz=true
theorem Vf {P:Program} {kt:TypeId} (h:bA P kt=0):Sf P kt fun s:List UInt8=>.one (.o (.str s)) where
 eq:=fun a b=>by rw[sN h];by_cases hh:a=b <;> simp[hh]
 ok:=fun _ s=>se h s
 same:=fun a=>by
  unfold sameKey;rw[h];show lEq a a=true;rw[cM];exact beq_self_eq_true a
 nt:=fun _=>rfl
theorem XL {P:Program} {kt:TypeId} (h:bA P kt=2) (he:eqK P kt=some [.s,.i]) (Y1:∀ e (s:List UInt8) (n:Int),iy P e kt (.agg [.o (.str s),.i .i64 n])=some ()):Sf P kt fun x:List UInt8×Int=>.agg [.o (.str x.1),.i .i64 x.2] where
 eq:=fun a b=>by
  unfold jF;rw[h];have ha:dm [.s,.i] [.o (.str a.1),.i .i64 a.2] [.o (.str b.1),.i .i64 b.2]=some (a.1==b.1&&(a.2==b.2&&true)):=rfl;have:=yK he ha (vs:=[.string ⟨a.1.toArray⟩,.int .i64 a.2]) (vs':=[.string ⟨b.1.toArray⟩,.int .i64 b.2]) rfl rfl;show aw P (Op.equal kt (.agg #[.string ⟨a.1.toArray⟩,.int .i64 a.2]) (.agg #[.string ⟨b.1.toArray⟩,.int .i64 b.2]))=_;rw[this.1];obtain ⟨a1,a2⟩:=a;obtain ⟨b1,b2⟩:=b;by_cases h1:a1=b1 <;> by_cases h2:a2=b2 <;> simp[h1,h2]
 ok:=fun e a=>Y1 e a.1 a.2
 same:=fun a=>by
  unfold sameKey;rw[h];show Instr.sameBits (9999+1) (.agg #[.string ⟨a.1.toArray⟩,.int .i64 a.2]) (.agg #[.string ⟨a.1.toArray⟩,.int .i64 a.2])=true;simp[Instr.sameBits,vG]
 nt:=fun _=>rfl
section
variable {K:Type}
def db (kv:K→AV):Nat→List (K×AC)→List bF
 | _,[]=>[]
 | n,(k,v)::l=>⟨kv k,.one v,n⟩::db kv (n+1) l
def hS (kv:K→AV) (l:List (K×AC)):aK:=.oth (.map (db kv 0 l) l.length)
theorem GR (kv:K→AV):∀ (n:Nat) (l:List (K×AC)) (k:K) (v:AC),db kv n (l++[(k,v)])=db kv n l++[⟨kv k,.one v,n+l.length⟩]
 | n,[],_,_=>rfl
 | n,(t,w)::l,k,v=>by
  show _::db kv (n+1) (l++[(k,v)])=_::(db kv (n+1) l++_);rw[GR kv (n+1) l k v];have:n+1+l.length=n+(l.length+1):=by omega
  rw[this];rfl
theorem uA (kv:K→AV):∀ (n:Nat) (l:List (K×AC)) (i:Nat),(db kv n l)[i]?=(l[i]?).map fun p=>⟨kv p.1,.one p.2,n+i⟩
 | _,[],i=>by simp[db]
 | n,(t,w)::l,0=>rfl
 | n,(t,w)::l,i+1=>by
  show (db kv (n+1) l)[i]?=_;rw[uA kv (n+1) l i,List.getElem?_cons_succ];have:n+1+i=n+(i+1):=by omega
  rw[this]
variable [DecidableEq K]
def atG (l:List (K×AC)) (k:K):Option AC:=
 match l with
 | []=>none
 | (t,v)::l=>if t=k then some v else atG l k
def hG (l:List (K×AC)) (k:K) (v:AC):List (K×AC):=
 match l with
 | []=>[(k,v)]
 | (t,w)::l=>if t=k then (k,v)::l else (t,w)::hG l k v
variable {P:Program} {kt:TypeId} {kv:K→AV} (hk:Sf P kt kv)
include hk
theorem wW (k:K):∀ (n:Nat) (l:List (K×AC)),∃ e,jO P kt (kv k) (db kv n l)=some e∧e.map bF.val=(atG l k).map AV.one
 | _,[]=>⟨none,rfl,rfl⟩
 | n,(t,v)::l=>by
  obtain ⟨e,h1,h2⟩:=wW k (n+1) l;have e0:jO P kt (kv k) (db kv n ((t,v)::l))=ay (jF P kt (kv k) (kv t)) none fun b=>Eng.ifE b (some (some ⟨kv t,.one v,n⟩)) (jO P kt (kv k) (db kv (n+1) l)):=rfl;rw[e0,hk.eq];by_cases O2:k=t
  ·subst O2;refine ⟨some ⟨kv k,.one v,n⟩,?_,?_⟩
   ·show Eng.ifE (decide (k=k)) _ _=_;rw[decide_eq_true rfl];rfl
   show _=(if k=k then some v else atG l k).map AV.one;rw[zB0 rfl];rfl
  refine ⟨e,?_,?_⟩
  ·show Eng.ifE (decide (k=t)) _ _=_;rw[decide_eq_false O2];exact h1
  show _=(if t=k then some v else atG l k).map AV.one;rw[zB1 (fun h=>O2 h.symm)];exact h2
theorem Ig {H:Hp} {z:AV} {id:Nat} {k:K} {l:List (K×AC)} {ok:Bool} (hg:H.get id=some (hS kv l)):
  bk P H kt z (.one (.o (.mp id))) (kv k) ok=(match atG l k with|some v=>bC H ok (.one v) true|none=>bC H ok z false):=by
 obtain ⟨e,h1,h2⟩:=wW hk k 0 l;unfold bk;have M1:H.get id=some (.oth (.map (db kv 0 l) l.length)):=hg;simp only[M1,hk.ok];show (match jO P kt (kv k) (db kv 0 l) with|some (some e)=>bC H ok e.val true|some none=>bC H ok z false|none=>.bad "lookup - keys")=_
 rw[h1];cases e with
 | none=>
  cases ha:atG l k with
  | none=>rfl
  | some v=>rw[ha] at h2;cases h2
 | some e=>
  cases ha:atG l k with
  | none=>rw[ha] at h2;cases h2
  | some v=>
   rw[ha] at h2;have:e.val=.one v:=Option.some.inj h2;show bC H ok e.val true=bC H ok (.one v) true;rw[this]
theorem zV (k:K) (x:AC):∀ (n:Nat) (l:List (K×AC)),my P kt (kv k) (.one x) (db kv n l)=some ((atG l k).isSome,if (atG l k).isSome=true then db kv n (hG l k x) else db kv n l)
 | n,[]=>rfl
 | n,(t,v)::l=>by
  have ih:=zV k x (n+1) l;have e0:my P kt (kv k) (.one x) (db kv n ((t,v)::l))=ay (jF P kt (kv k) (kv t)) none fun b=>Eng.ifE b (Eng.ifE (sameKey P kt (kv t) (kv k)) (some (true,⟨kv k,.one x,n⟩::db kv (n+1) l)) none) (ay (my P kt (kv k) (.one x) (db kv (n+1) l)) none fun r=>some (r.1,⟨kv t,.one v,n⟩::r.2)):=rfl;rw[e0,hk.eq];by_cases O2:k=t
  ·subst O2;show Eng.ifE (decide (k=k)) _ _=_;rw[decide_eq_true rfl];show Eng.ifE (sameKey P kt (kv k) (kv k)) _ _=_;rw[hk.same];have e1:atG ((k,v)::l) k=some v:=zB0 rfl;have e2:hG ((k,v)::l) k x=(k,x)::l:=zB0 rfl;rw[e1,e2];rfl
  show Eng.ifE (decide (k=t)) _ _=_;rw[decide_eq_false O2];show ay (my P kt (kv k) (.one x) (db kv (n+1) l)) none _=_;rw[ih];have e1:atG ((t,v)::l) k=atG l k:=zB1 fun h=>O2 h.symm;have e2:hG ((t,v)::l) k x=(t,v)::hG l k x:=zB1 fun h=>O2 h.symm;rw[e1,e2];cases hs:(atG l k).isSome <;> rfl
omit hk in
theorem PR {l:List (K×AC)} {k:K} {x:AC} (h:atG l k=none):hG l k x=l++[(k,x)]:=by
 induction l with
 | nil=>rfl
 | cons p l ih=>
  obtain ⟨t,w⟩:=p;have Y0:¬t=k:=fun e=>by
   have:atG ((t,w)::l) k=some w:=zB0 e;rw[this] at h;cases h
  have h1:atG l k=none:=by
   have:atG ((t,w)::l) k=atG l k:=zB1 Y0;rw[this] at h;exact h
  have e2:hG ((t,w)::l) k x=(t,w)::hG l k x:=zB1 Y0;rw[e2,ih h1];rfl
omit hk in
theorem Ic {k:K} {x:AC}:∀ {l:List (K×AC)},(hG l k x).length=if (atG l k).isSome=true then l.length else l.length+1
 | []=>rfl
 | (t,w)::l=>by
  by_cases ht:t=k
  ·have e1:atG ((t,w)::l) k=some w:=zB0 ht;have e2:hG ((t,w)::l) k x=(k,x)::l:=zB0 ht;rw[e1,e2];rfl
  have e1:atG ((t,w)::l) k=atG l k:=zB1 ht;have e2:hG ((t,w)::l) k x=(t,w)::hG l k x:=zB1 ht;rw[e1,e2,List.length_cons,Ic];split <;> rfl
omit hk in
theorem Kh {k k':K} {x:AC}:∀ {l:List (K×AC)},atG (hG l k x) k'=if k=k' then some x else atG l k'
 | []=>rfl
 | (t,w)::l=>by
  by_cases ht:t=k
  ·have e2:hG ((t,w)::l) k x=(k,x)::l:=zB0 ht;rw[e2];subst ht;show (if t=k' then some x else atG l k')=if t=k' then some x else (if t=k' then some w else atG l k');by_cases h:t=k' <;> simp[h]
  have e2:hG ((t,w)::l) k x=(t,w)::hG l k x:=zB1 ht;rw[e2];show (if t=k' then some w else atG (hG l k x) k')=if k=k' then some x else (if t=k' then some w else atG l k');rw[Kh];by_cases h:k=k'
  ·subst h;rw[zB1 ht,zB0 rfl,zB0 rfl]
  rw[zB1 h,zB1 h]
theorem EG {H:Hp} {id:Nat} {k:K} {l:List (K×AC)} {x:AC} (hg:H.get id=some (hS kv l)):
  aT P H kt (.one (.o (.mp id))) (kv k) (.one x)=.val aF (H.mod id (hS kv (hG l k x))):=by
 unfold aT;have M1:H.get id=some (.oth (.map (db kv 0 l) l.length)):=hg;simp only[M1,hk.ok];show aH (both (kv k).bz true) _ (nd (my P kt (kv k) (.one x) (db kv 0 l)) _ _)=_;rw[hk.nt,zV hk k x 0 l];cases hs:atG l k with
 | some v=>
  show ad.val aF (H.mod id (.oth (.map (db kv 0 (hG l k x)) l.length)))=_;unfold hS;rw[Ic,hs];rfl
 | none=>
  show ad.val aF (H.mod id (.oth (.map (db kv 0 l++[⟨kv k,.one x,l.length⟩]) (l.length+1))))=_;unfold hS;rw[PR hs,GR,List.length_append,Nat.zero_add];rfl
end
section
variable {K:Type} {kv:K→AV} {H:Hp} {m r:Nat} {l:List (K×AC)} {seen:List Nat}
def nw (m n:Nat) (seen:List Nat):aK:=.oth (.iter (some m) n seen n)
theorem Wj (hg:H.get m=some (hS kv l)):iH H (.one (.o (.mp m)))=.val (.one (.o (.it H.nx))) (H.new (nw m l.length [])):=by
 unfold iH;have M1:H.get m=some (.oth (.map (db kv 0 l) l.length)):=hg;simp only[M1];rfl
theorem sR {e:bF} (he:e∈db kv 0 l):∃ i p,l[i]?=some p∧e=⟨kv p.1,.one p.2,i⟩:=by
 obtain ⟨i,hi⟩:=List.mem_iff_getElem?.1 he;rw[uA] at hi;cases hp:l[i]? with
 | none=>rw[hp] at hi;cases hi
 | some p=>
  rw[hp] at hi;refine ⟨i,p,hp,?_⟩;have:=Option.some.inj hi;rw[←this,Nat.zero_add]
theorem Oa (hr:H.get r=some (nw m l.length seen)) (hg:H.get m=some (hS kv l)) (hs:∀ i,i<l.length→i∈seen):gF H (.one (.o (.it r)))=.val xg H:=by
 unfold gF;have Y2:H.get r=some (.oth (.iter (some m) l.length seen l.length)):=hr;have M1:H.get m=some (.oth (.map (db kv 0 l) l.length)):=hg;simp only[Y2,M1];have h1:(!(!seen.isEmpty&&!(db kv 0 l).isEmpty&&(db kv 0 l).all (fun e=>Nat.ble l.length e.born)))=true:=by
  cases l with
  | nil=>simp[db]
  | cons p l=>
   have:Nat.ble (l.length+1) 0=false:=rfl;simp[db,this]
 rw[h1];have h2:(db kv 0 l).filter (fun e=>!seen.contains e.born)=[]:=by
  rw[List.filter_eq_nil_iff];intro e he;obtain ⟨i,p,hp,rfl⟩:=sR he;have:i∈seen:=hs i (List.getElem?_eq_some_iff.1 hp).1;simp[this]
 rw[h2];rfl
theorem NL (hr:H.get r=some (nw m l.length seen)) (hg:H.get m=some (hS kv l)) (hs:∃ i,i<l.length∧i∉seen):
  ∃ vs,gF H (.one (.o (.it r)))=.ox vs∧vs≠[]∧∀ x∈vs,∃ i p,l[i]?=some p∧i∉seen∧x=(nG (kv p.1) (.one p.2),H.mod r (nw m l.length (seen++[i]))):=by
 obtain ⟨i0,T3,hs0⟩:=hs;have Y2:H.get r=some (.oth (.iter (some m) l.length seen l.length)):=hr;have M1:H.get m=some (.oth (.map (db kv 0 l) l.length)):=hg;have h1:(!(!seen.isEmpty&&!(db kv 0 l).isEmpty&&(db kv 0 l).all (fun e=>Nat.ble l.length e.born)))=true:=by
  cases l with
  | nil=>simp[db]
  | cons p l=>
   have:Nat.ble (l.length+1) 0=false:=rfl;simp[db,this]
 have N0:∀ e,e∈(db kv 0 l).filter (fun e=>!seen.contains e.born)→∃ i p,l[i]?=some p∧i∉seen∧e=⟨kv p.1,.one p.2,i⟩:=fun e he=>by
  obtain ⟨h2,h3⟩:=List.mem_filter.1 he;obtain ⟨i,p,hp,rfl⟩:=sR h2;exact ⟨i,p,hp,by simpa using h3,rfl⟩
 cases hf:(db kv 0 l).filter (fun e=>!seen.contains e.born) with
 | nil=>
  exfalso;rw[List.filter_eq_nil_iff] at hf;have h2:=uA kv 0 l i0;rw[zB4 T3,Nat.zero_add] at h2;have:=hf _ (List.mem_iff_getElem?.2 ⟨i0,h2⟩);simp[hs0] at this
 | cons e es=>
  rw[hf] at N0;refine ⟨(e::es).map fun e=>(nG e.key e.val,H.mod r (nw m l.length (seen++[e.born]))),?_,by simp,fun x hx=>?_⟩
  ·unfold gF;simp only[Y2,M1];rw[h1,hf];have h4:((e::es).all fun e=>Nat.blt e.born l.length)=true:=by
    rw[List.all_eq_true];intro e' Z9;obtain ⟨i,p,hp,_,rfl⟩:=N0 e' Z9;exact zA5 (List.getElem?_eq_some_iff.1 hp).1
   show aH true _ (aH ((e::es).all fun e=>Nat.blt e.born l.length) _ _)=_;rw[h4];rfl
  obtain ⟨e',Z9,rfl⟩:=List.mem_map.1 hx;obtain ⟨i,p,hp,hn,rfl⟩:=N0 e' Z9;exact ⟨i,p,hp,hn,rfl⟩
theorem Wf {i:Nat} {p:K×AC} (hr:H.get r=some (nw m l.length (seen++[i]))) (hg:H.get m=some (hS kv l)) (hp:l[i]?=some p):gJ H (.one (.o (.it r)))=.val (Rp (kv p.1) (.one p.2)) H:=by
 unfold gJ;have Y2:H.get r=some (.oth (.iter (some m) l.length (seen++[i]) l.length)):=hr;have M1:H.get m=some (.oth (.map (db kv 0 l) l.length)):=hg;simp only[Y2,M1,List.getLast?_concat,Nat.beq_refl];have hf:(db kv 0 l).find? (fun e=>Nat.beq e.born i)=some ⟨kv p.1,.one p.2,i⟩:=by
  cases hx:(db kv 0 l).find? (fun e=>Nat.beq e.born i) with
  | none=>
   exfalso;have h2:=uA kv 0 l i;rw[hp,Nat.zero_add] at h2;have:=List.find?_eq_none.1 hx _ (List.mem_iff_getElem?.2 ⟨i,h2⟩);simp at this
  | some e=>
   obtain ⟨j,q,hq,rfl⟩:=sR (List.mem_of_find?_eq_some hx);have hb:=List.find?_some hx;have:j=i:=zA3 hb;subst this;rw[hp] at hq;cases hq;rfl
 show aH true _ _=_;simp only[aH,hf]
end
section
variable {st:Bool} {E:Env} {A:ab} {H:Hp} {next:ab→Hp→Prop} {d:Option Tmp} {ty:TypeId} {pos:String} {af:Array Edge} {gd:Option (Nat×Bool)}
theorem DQ {x:Operand}:SK st E ⟨d,.entry x,ty,pos,af,gd⟩ A H next=(True∧vN next A d (gJ H (ev A.tm x))):=rfl
theorem Sh {t:TypeId} {x:Operand}:SK st E ⟨d,.range t x,ty,pos,af,gd⟩ A H next=(True∧fT (ic E.P t) fun _=>vN next A d (iH H (ev A.tm x))):=by
 show (True∧cI _ ((ndF (ic E.P t) _ _).run A.tm H))=_;rw[bZ];rfl
end
theorem jI {E:Env} {j m:Nat} {did:List DSy} {A:ab} {d:Option Tmp} {H:Hp} {next:List DSy→ab→Hp→Prop} {f:FuncId} {args:List AV} (Q:AV→Hp→Prop) (hQ:∀ v h1 h2,Gr h1 h2→Q v h1→Q v h2)
  (hu:∀ i,i<H.nx→bJ i (aR m did)) (h:∀ h:Hp,Gr H h→h.nx=H.nx→Con E f args h (fun _=>False) Q)
  (hn:∀ v c1 H',Q v H'→H.nx≤c1→H'.nx=c1→Gr H H'→next (⟨j,none,H.nx,c1,[]⟩::did) (bq A d v) H'):DC E j m did A d H next (.enter f args):=by
 show ∀ h:Hp,_→_→_→_;intro h' W0 S0 _;have hg:Gr H ⟨h'.t,h'.nx,H.log⟩:=⟨Nat.le_of_eq W0.symm,fun i hi _=>S0 i hi (hu i hi),[],rfl,fun _ h=>by cases h⟩;refine (h _ hg W0 h'.log).mono fun v h2 ⟨T0,hv⟩=>⟨T0,fun H' e1 e2 e3 e4=>?_⟩;have hle:H.nx≤h2.nx:=by rw[←W0];exact T0.nx
 refine hn v h2.nx H' (hQ _ _ _ ?_ (hv H'.log)) hle e1 ⟨by rw[e1];exact hle,fun i hi _=>e3 i hi,[],by rw[e2];rfl,fun i hi=>by cases hi⟩;refine ⟨Nat.le_of_eq e1.symm,fun i hi _=>?_,[],rfl,fun _ h=>by cases h⟩;rcases Nat.lt_or_ge i H.nx with hh|hh
 ·rw[e3 i hh];exact ((T0.get i (by show i<h'.nx;omega) zB2).trans (S0 i hh (hu i hh))).symm
 exact e4 i hh
theorem zX {p a b:Prop} (f:p) (hb:b) (e:p→Hd b→a:=by
  intro f hW;repeat refine R1.aA ?_
  (first|refine R1.VR fun Kx Ky hx hy=>?_|refine R1.Us fun Kx Ky hx hy=>?_)
  simp only[qB,aq,Nat.reduceLT,Nat.reduceEqDiff,Nat.reduceLeDiff,reduceIte,Nat.reduceAdd,Nat.reduceSub,Nat.reduceMul,Int.reduceLT,Int.reduceLE,Int.reduceBEq, *]
  (first|refine hx.out ?_|refine hy.out ?_)
  exact hW.out):a:=e f hb
theorem zR {p a b:Prop} (f:p) (hb:b) (e:p→Hd b→a:=by
  intro f hW;repeat refine R1.aA ?_
  (first|refine R1.s_h (by kernel_rfl) fun K hK=>?_|refine R1.e_h (by kernel_rfl) fun K hK=>?_)
  simp only[qB,aq,Nat.reduceLT,Nat.reduceEqDiff,Nat.reduceLeDiff,reduceIte,Nat.reduceAdd,Nat.reduceSub,Nat.reduceMul,Int.reduceLT,Int.reduceLE,Int.reduceBEq, *];refine hK.out _ _ ?_;exact hW.out):a:=e f hb
theorem zE {p a b:Prop} (f:p) (hb:b) (e:p→Hd b→a:=by
  intro f hW;try simp only[qB,aq,Nat.reduceLT,Nat.reduceEqDiff,Nat.reduceLeDiff,reduceIte,Nat.reduceAdd,Nat.reduceSub,Nat.reduceMul,Int.reduceLT,Int.reduceLE,Int.reduceBEq, *]
  refine Hd.ap (Z:=?_) ?_ ?_;rotate_left
  ·assumption
  exact hW.out):a:=e f hb
def SJ (E:Env) (H0:Hp) (res:List ResultVar) (c:Code) (A:ab) (H:Hp) (Q:AV→Hp→Prop):Prop:=
 ∃ n l o v H',(codeF E c).run (eval E n) none A H=.ok l∧R.bind (.ok l) (aC E res)=.ok o∧mr H0 o=[(v,H')]∧Q v H'
def Xh (E:Env) (res:List ResultVar) (Q:AV→Hp→Prop):ax→ab→Hp→Prop:=fun e A H=>∃ w H4,aC E res (e,A,H)=.ok [(w,H4)]∧Q w H4
section
variable {E:Env} {H0:Hp} {res:List ResultVar} {A:ab} {H:Hp} {Q:AV→Hp→Prop}
theorem SJ.Yx {c:Code} (h:R1 E none c A H (Xh E res Q)):SJ E H0 res c A H Q:=by
 obtain ⟨n,e,A1,H1,h1,w,H4,h2,h3⟩:=h;exact ⟨n,_,_,w,H4,h1,h2,rfl,h3⟩
theorem SJ.seq {x y:Code} (h:R1 E none x A H (Thn (fun A H=>SJ E H0 res y A H Q) (Xh E res Q))):SJ E H0 res (.seq x y) A H Q:=by
 obtain ⟨n,e,A1,H1,h1,h2⟩:=h;have key:∀ (k:Nat) (_:n≤k),(codeF E (.seq x y)).run (eval E k) none A H=oU (codeF E y) (eval E k) none (e,A1,H1):=fun k hk=>by
  have a1:=dq (cO E hk) x none A H _ h1;show ((codeF E x).run (eval E k) none A H).bind (oU (codeF E y) (eval E k) none)=_;rw[a1];rfl
 cases e with
 | normal=>
  obtain ⟨n',l,o,v,H',a,b,c,d⟩:=h2;refine ⟨max n n',l,o,v,H',?_,b,c,d⟩;rw[key _ (Nat.le_max_left n n')];exact dq (cO E (Nat.le_max_right n n')) y none A1 H1 _ a
 | exit i=>
  obtain ⟨w,H4,a,b⟩:=h2;exact ⟨n,[(.exit i,A1,H1)],_,w,H4,by rw[key n (zA1 _)];rfl,a,rfl,b⟩
 | ret=>
  obtain ⟨w,H4,a,b⟩:=h2;exact ⟨n,[(.ret,A1,H1)],_,w,H4,by rw[key n (zA1 _)];rfl,a,rfl,b⟩
theorem SJ.rG {x y:Code} (h:∀ K:ab→Hp→Prop,Hd (∀ A H,SJ E H0 res y A H Q→K A H)→R1 E none x A H (Thn K (Xh E res Q))):SJ E H0 res (.seq x y) A H Q:=SJ.seq (h _ fun _ _ h=>h)
theorem SJ.Yq {c:Code} (v:AV) (P:Hp→Prop) (hold:∀ id,id<H0.nx→∃ x,∀ H2,P H2→H2.get id=x)
  (h:RA E none c A H fun e A' H'=>∃ H2,aC E res (e,A',H')=.ok [(v,H2)]∧P H2) (hq:∀ H',wA H0 P H'→Q v H'):SJ E H0 res c A H Q:=by
 obtain ⟨n,l,h1,h2,h3⟩:=h;obtain ⟨n',o,k1,k2,k3⟩:=gE (f:=fun _ z=>aC E res z) (fun _ _=>RLe.refl _) (Q:=fun z=>z.1=v∧P z.2) l h2 fun z hz=>by
  obtain ⟨H2,a,b⟩:=h3 z hz;obtain ⟨e,A1,H1⟩:=z;exact ⟨0,_,a,by simp,fun y hy=>by rw[List.mem_singleton.1 hy];exact ⟨rfl,b⟩⟩
 obtain ⟨H',j1,j2⟩:=Nv (H:=H0) k2 k3 hold;exact ⟨n,l,o,v,H',h1,k1 n' (zA1 _),j1,hq H' j2⟩
theorem C1.YL {f:FuncId} {fn:Func} {c:Code} {args:List AV} (hf:E.P.funcs[f]?=some fn) (hb:fn.body=some c) (hn:args.length≤fn.ntmps) (V5:fn.ntmps≤1048576)
  (h:SJ E H fn.results.toList c ⟨setArgs args 0 .leaf,fn.ntmps,[]⟩ H Q):C1 E f args H Q:=by
 obtain ⟨n,l,o,v,H',h1,e3,j1,hq⟩:=h;refine ⟨n+1,v,H',?_,hq⟩;show hH E (eval E n) f args H=_;unfold hH NQ;rw[hf];simp only[hb];show Eng.ifE (both (Nat.ble (oA args) fn.ntmps) (Nat.ble fn.ntmps 1048576)) (oB H (((codeF E c).run (eval E n) none ⟨setArgs args 0 .leaf,fn.ntmps,[]⟩ H).bind (aC E fn.results.toList))) (.bad "too many arguments")=_
 have e1:Nat.ble (oA args) fn.ntmps=true:=zA5 hn;have e2:Nat.ble fn.ntmps 1048576=true:=zA5 V5;rw[e1,e2];show oB H (((codeF E c).run (eval E n) none ⟨setArgs args 0 .leaf,fn.ntmps,[]⟩ H).bind (aC E fn.results.toList))=_;rw[h1,e3];show R.ok (mr H o)=_;rw[j1]
theorem SJ.gen {c:Code} (P:ab→Hp→Prop) (hp:P A H) (h:∀ A2 H2,P A2 H2→SJ E H0 res c A2 H2 Q):SJ E H0 res c A H Q:=h A H hp
theorem SJ.body {f:FuncId} {fn:Func} {c:Code} {nt:Nat} {args:List AV} (hf:E.P.funcs[f]?=some fn) (hb:fn.body=some c) (B0:fn.ntmps=nt) (q8:fn.results.toList=res) (hn:Nat.ble args.length nt=true) (V5:Nat.ble nt 1048576=true)
  (h:∀ tm,(∀ i v,args[i]?=some v→slot tm i=v)→SJ E H res c ⟨tm,nt,[]⟩ H Q):C1 E f args H Q:=by
 subst B0 q8;have h1:args.length≤fn.ntmps:=zA4 hn;have h2:fn.ntmps≤1048576:=zA4 V5;refine C1.YL hf hb h1 h2 (h _ fun i v hv=>?_);rw[yn _ _ (by omega),hv];rfl
end
theorem OA.nil {E:Env} {A:ab} {H:Hp} {Q:ab→Hp→Prop} (h:Q A H):OA E [] A H Q:=OA.of (O1.nil h)
theorem wA.gr {H H':Hp} {P:Hp→Prop} (h:∀ H2,P H2→Gr H H2) (j:wA H P H'):Gr H H':=
 ⟨j.nx fun H2 h2=>(h H2 h2).nx,fun i hi _=>j.old i _ hi fun H2 h2=>⟨(h H2 h2).nx,(h H2 h2).get i hi zB2⟩,j.log _ fun H2 h2=>(h H2 h2).log⟩
def PD (e:TypeId) (sz k:Nat) (H:Hp) (v:AC) (n:Nat) (cells:List AC):Prop:=
 (n=0∧v=.o .nilS∧cells=[])∨∃ g,n=g+1∧v=.o (.sl k g 0 n sz)∧H.get k=some (.arr cells e 0 g)∧cells.length=n*sz∧k<H.nx
theorem PD.fr {e:TypeId} {sz k:Nat} {H H':Hp} {v:AC} {n:Nat} {cells:List AC} {X:Nat→Prop} (h:PD e sz k H v n cells) (hf:Fr X H H') (hx:¬X k):PD e sz k H' v n cells:=by
 rcases h with h|⟨g,h1,h2,h3,h4,h5⟩
 ·exact .inl h
 exact .inr ⟨g,h1,h2,(hf.get _ h5 hx).trans h3,h4,zA0 h5 hf.nx⟩
theorem IQ {P:Program} {H:Hp} {t e:TypeId} {sz by_ n g id:Nat} {z:Value} {x:AV} {cells c:List AC} (he:bm P t=some (e,sz)) (hb:cB P e=some by_) (hz:aB P e=some z) (L1:(ofValue z).cells.length=sz) (G1:sz≠0)
  (hg:H.get id=some (.arr cells e 0 g)) (hl:cells.length=n*sz) (hs:jf H sz x=some (1,c)) (h1:n+1≤140737488355328) (h2:(n+1)*by_≤140737488355328):
  aV P H t (.one (.o (.sl id g 0 n sz))) x=.val (.one (.o (.sl id (g+1) 0 (n+1) sz))) (H.mod id (.arr (cells++c) e 0 (g+1))):=by
 have e1:Nat.beq sz 0=false:=by
  cases h:Nat.beq sz 0 with
  | false=>rfl
  | true=>exact absurd (zA3 h) G1
 have e3:both (!Nat.beq sz 0) (Nat.beq (bw (ofValue z).cells) sz)=true:=by rw[e1,bj,L1,Nat.beq_refl];rfl
 have step:aV P H t (.one (.o (.sl id g 0 n sz))) x=dn H e sz by_ 1 c (.one (.o (.sl id g 0 n sz))):=by
  unfold aV;simp only[he,hb,hz,nd,e3,aH,hs]
 rw[step];show mE (H.get id) _ _=_;rw[hg];show aH (both (Nat.beq sz sz) (both (Nat.beq e e) (both (Nat.ble 0 g) (both (Nat.ble g g) (both (Nat.ble (Nat.add 0 (Nat.mul n sz)) (bw cells)) (both (Nat.ble (Nat.add n 1) 140737488355328) (Nat.ble (Nat.mul (Nat.add n 1) by_) 140737488355328))))))) _
  (Eng.ifE (Nat.beq 1 0) _ (Eng.ifE (both (Nat.beq g g) (both (Nat.beq 0 0) (Nat.beq (Nat.mul n sz) (bw cells)))) _ _))=_
 have g5:Nat.ble (Nat.add 0 (Nat.mul n sz)) (bw cells)=true:=by
  rw[bj,hl];exact zA5 (by show 0+n*sz≤n*sz;omega)
 have g6:Nat.ble (Nat.add n 1) 140737488355328=true:=zA5 h1;have g7:Nat.ble (Nat.mul (Nat.add n 1) by_) 140737488355328=true:=zA5 h2;have g8:Nat.beq (Nat.mul n sz) (bw cells)=true:=by
  rw[bj,hl];exact Nat.beq_refl (n*sz)
 rw[Nat.beq_refl,Nat.beq_refl,zA5 (Nat.zero_le g),zA5 (zA1 g),Nat.beq_refl,g5,g6,g7,g8,jM];rfl
theorem PD.push {P:Program} {H:Hp} {t e:TypeId} {sz by_ n k:Nat} {z:Value} {v:AC} {cells:List AC} (he:bm P t=some (e,sz)) (hb:cB P e=some by_) (hz:aB P e=some z) (L1:(ofValue z).cells.length=sz) (G1:sz≠0)
  (ho:PD e sz k H v n cells) (hk:n=0→k=H.nx+1) (c0:List AC) (B6:c0.length=sz) (hL:n+1≤140737488355328∧(n+1)*by_≤140737488355328):
  ltV (.one v) (H.new (.arr c0 e 0 0)).nx∧∃ v' H',aV P (H.new (.arr c0 e 0 0)) t (.one v) (.one (.o (.sl H.nx 0 0 1 sz)))=.val (.one v') H' ∧
   PD e sz k H' v' (n+1) (cells++c0)∧Fr (fun i=>i=k) H H':=by
 have L':jf (H.new (.arr c0 e 0 0)) sz (.one (.o (.sl H.nx 0 0 1 sz)))=some (1,c0):=by
  rw[kQ (cells:=c0) (by rw[aG rfl];rfl) (by omega)];simp only[List.drop_zero,Nat.one_mul];rw[List.take_of_length_le (by omega)]
 rcases ho with ⟨rfl,rfl,rfl⟩|⟨g,rfl,rfl,h3,h4,h5⟩
 ·refine ⟨fun i hi=>(by cases hi),.o (.sl (H.new (.arr c0 e 0 0)).nx 0 0 1 sz),(H.new (.arr c0 e 0 0)).new (.arr c0 e 0 0),?_,.inr ⟨0,rfl,?_,?_,?_,?_⟩,?_⟩
  ·rw[lA he hb hz L1 G1 L' (by omega) (by omega)];rfl
  ·rw[hk rfl];rfl
  ·rw[hk rfl];exact aG rfl
  ·rw[List.nil_append,B6];omega
  ·rw[hk rfl];show H.nx+1<H.nx+1+1;omega
  exact ((Fr.refl _).new _).new _
 have Y0:k≠H.nx:=by omega
 refine ⟨fun i hi=>?_,.o (.sl k (g+1) 0 (g+1+1) sz),(H.new (.arr c0 e 0 0)).mod k (.arr (cells++c0) e 0 (g+1)),IQ he hb hz L1 G1 (by rw[aZ h5];exact h3) h4 L' hL.1 hL.2,.inr ⟨g+1,rfl,rfl,aj rfl,?_,?_⟩,?_⟩
 ·have:i=k:=List.mem_singleton.1 hi;show i<H.nx+1;omega
 ·rw[List.length_append,h4,B6,←Nat.succ_mul]
 ·show k<H.nx+1;omega
 exact ((Fr.refl _).new _).mod _ (.inr rfl)
theorem ow:∀ (n:Nat) (l:List Nat),l.Nodup→(∀ i∈l,i<n)→l.length≤n
 | 0,[],_,_=>zA1 _
 | 0,i::_,_,h=>absurd (h i (List.mem_cons_self ..)) (Nat.not_lt_zero i)
 | n+1,l,hn,h=>by
  by_cases hm:n∈l
  ·have h1:=ow n (l.erase n) (hn.erase n) fun i hi=>by
    have h2:=(List.Nodup.mem_erase_iff hn).1 hi;have:=h i h2.2;have:=h2.1;omega
   rw[List.length_erase_of_mem hm] at h1;omega
  have:=ow n l hn fun i hi=>by
   have:=h i hi;have:i≠n:=fun e=>hm (by rw[←e];exact hi);omega
  omega
theorem Ec:∀ (n:Nat) (l:List Nat),(∀ i,i<n→i∈l)→n≤l.length
 | 0,_,_=>Nat.zero_le _
 | n+1,l,h=>by
  have hm:=h n (zA6 n);have h1:=Ec n (l.erase n) fun i hi=>(List.mem_erase_of_ne (show i≠n by omega)).2 (h i (Nat.lt_succ_of_lt hi));rw[List.length_erase_of_mem hm] at h1;have:=List.length_pos_of_mem hm;omega
end Go.Eng
