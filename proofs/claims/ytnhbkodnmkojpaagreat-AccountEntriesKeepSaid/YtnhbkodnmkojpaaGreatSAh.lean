/- A part of the proof: EngSeq, EngSeq2, EngSeq3, EngEq, EngArgs. No conditions. -/
import Derived.Test.YtnhbkodnmkojpaaGreatSAg
import Derived.IntWalk
set_option maxRecDepth 100000
set_option maxHeartbeats 64000000
set_option linter.unusedVariables false
set_option linter.unusedSimpArgs false
noncomputable section
namespace Go.Eng
open Go
def opK (o:Oper):Nat:=
 match o.op with
 | .move _=>0
 | .assign _=>0
 | .pick ..=>0
 | .build ..=>0
 | .nilCheck _=>0
 | .binOp ..=>0
 | .unOp ..=>0
 | .convert ..=>0
 | .fieldAddr ..=>0
 | .field ..=>0
 | .indexAddr ..=>0
 | .index ..=>0
 | .slice ..=>0
 | .extract ..=>0
 | .makeFunc ..=>0
 | .alloc _=>1
 | .box ..=>1
 | .buildSlice ..=>1
 | .makeSlice ..=>1
 | .makeMap ..=>1
 | .load ..=>2
 | .lookup ..=>2
 | .mapUpdate ..=>3
 | .store ..=>3
 | .call ⟨.value _,_,_⟩=>3
 | .call ⟨.builtin .len,⟨[_]⟩,⟨[_]⟩⟩=>2
 | .call ⟨.builtin .min,_,_⟩=>2
 | .call ⟨.builtin .max,_,_⟩=>2
 | .call ⟨.builtin .append,⟨[_,_]⟩,⟨[_,_]⟩⟩=>3
 | _=>4
def Ja:Nat→Nat→Bool
 | 0,_=>true
 | 1,_=>true
 | 2,k=>Nat.beq k 0||Nat.beq k 2
 | 3,k=>Nat.beq k 0
 | 6,k=>Nat.beq k 0||Nat.beq k 2
 | _,_=>false
def cH (k m:Nat):Nat→List Nat→Bool
 | _,[]=>true
 | i,ki::ks=>(Nat.testBit m i||Ja k ki)&&cH k m (Nat.add i 1) ks
def plK (st:Bool) (o:Oper):Nat:=bif st&&eX o then 6 else opK o
def BL (st:Bool):List Nat→List Oper→List Nat→Bool
 | _,[],_=>true
 | before,o::os,m::ms=>(Nat.blt (opK o) 4&&cH (plK st o) m 0 before)&&BL st (before++[opK o]) os ms
 | _,_::_,[]=>false
def mf (st:Bool) (ops:Array Oper):Bool:=dF ops&&BL st [] ops.toList (dw [] 0 ops.toList)
theorem tq {k m:Nat}:∀ {i:Nat} {ks:List Nat},cH k m i ks=true→∀ j kj,ks[j]?=some kj→Nat.testBit m (i+j)=true∨Ja k kj=true
 | _,[],_,j,kj,h=>by simp at h
 | i,x::ks,h,0,kj,hj=>by
  unfold cH at h;rw[Bool.and_eq_true,Bool.or_eq_true] at h;simp only[List.getElem?_cons_zero,Option.some.injEq] at hj;subst hj;exact h.1
 | i,x::ks,h,j+1,kj,hj=>by
  unfold cH at h;rw[Bool.and_eq_true] at h;rw[List.getElem?_cons_succ] at hj;have:=tq h.2 j kj hj;have e:i+(j+1)=Nat.add i 1+j:=by show i+(j+1)=(i+1)+j;omega
  rw[e];exact this
def PS (n:Hp→ad):Prop:=(∃ v,∀ h,n h=.val v h)∨∀ h v h',n h≠.val v h'
theorem PS.same (v:AV):PS fun h=>.val v h:=.inl ⟨v,fun _=>rfl⟩
theorem PS.bad (s:String):PS fun _=>.bad s:=.inr fun _ _ _ h=>by cases h
theorem PS.nd {α:Type} {o:Option α} {s:String} {f:α→Hp→ad} (h:∀ a,PS (f a)):PS fun k=>nd o s fun a=>f a k:=by
 cases o with
 | none=>exact PS.bad s
 | some a=>exact h a
theorem PS.guard {b:Bool} {s:String} {n:Hp→ad} (h:PS n):PS fun k=>aH b s (n k):=by
 cases b with
 | true=>exact h
 | false=>exact PS.bad s
theorem PS.ifE {b:Bool} {x y:Hp→ad} (hx:PS x) (hy:PS y):PS fun k=>Eng.ifE b (x k) (y k):=by
 cases b with
 | true=>exact hx
 | false=>exact hy
theorem PS.ay {α:Type} {o:Option α} {e:Hp→ad} {f:α→Hp→ad} (he:PS e) (h:∀ a,PS (f a)):PS fun k=>Eng.ay o (e k) fun a=>f a k:=by
 cases o with
 | none=>exact he
 | some a=>exact h a
theorem PS.su {x:AV} {e:Hp→ad} {f:Nat→Nat→Nat→Nat→Hp→ad} (he:PS e) (h:∀ a b c d,PS (f a b c d)):PS fun k=>Eng.su x (e k) fun a b c d=>f a b c d k:=by
 cases x with
 | one c=>cases c with
  | o q=>cases q <;> first|exact he|exact h _ _ _ _
  | b _=>exact he
  | i _ _=>exact he
 | agg _=>exact he
 | tup _=>exact he
 | any=>exact he
theorem PS.slE {x:AV} {e:Hp→ad} {f:Nat→Nat→Nat→Nat→Nat→Hp→ad} (he:PS e) (h:∀ a b c d g,PS (f a b c d g)):PS fun k=>Eng.slE x (e k) fun a b c d g=>f a b c d g k:=by
 cases x with
 | one c=>cases c with
  | o q=>cases q <;> first|exact he|exact h _ _ _ _ _
  | b _=>exact he
  | i _ _=>exact he
 | agg _=>exact he
 | tup _=>exact he
 | any=>exact he
theorem PS.eF {x:AV} {e:Hp→ad} {f:IntKind→Int→Hp→ad} (he:PS e) (h:∀ a b,PS (f a b)):PS fun k=>Eng.eF x (e k) fun a b=>f a b k:=by
 cases x with
 | one c=>cases c with
  | o q=>exact he
  | b _=>exact he
  | i _ _=>exact h _ _
 | agg _=>exact he
 | tup _=>exact he
 | any=>exact he
theorem PS.dz {x:AV} {e:Hp→ad} {f:Bool→Hp→ad} (he:PS e) (h:∀ a,PS (f a)):PS fun k=>Eng.dz x (e k) fun a=>f a k:=by
 cases x with
 | one c=>cases c with
  | o q=>exact he
  | b _=>exact h _
  | i _ _=>exact he
 | agg _=>exact he
 | tup _=>exact he
 | any=>exact he
theorem PS.ij {x:AV} {e:Hp→ad} {f:List UInt8→Hp→ad} (he:PS e) (h:∀ a,PS (f a)):PS fun k=>Eng.ij x (e k) fun a=>f a k:=by
 cases x with
 | one c=>cases c with
  | o q=>cases q <;> first|exact he|exact h _
  | b _=>exact he
  | i _ _=>exact he
 | agg _=>exact he
 | tup _=>exact he
 | any=>exact he
section
variable {P:Program}
theorem rz {tm:PT AV} {o:Oper}:PS fun h=>an P tm h o:=by
 unfold an;refine PS.guard ?_;cases aw P (execOp (fun x=>aY (ev tm x)) o) with
 | none=>exact PS.bad _
 | some n=>cases n <;> first|exact PS.bad _|exact PS.guard (PS.same _)
theorem tf (i:Nat):∀ l:List (Bool×List AC),PS fun H=>Nat.rec (motive:=fun _=>List (Bool×List AC)→ad)
   (fun l=>List.rec (motive:=fun _=>ad) (.bad "extract") (fun x _ _=>
    Eng.ifE x.1 (.val (.agg x.2) H) (List.rec (motive:=fun _=>ad) (.bad "extract") (fun c m _=>List.rec (motive:=fun _=>ad) (.val (.one c) H) (fun _ _ _=>.bad "extract") m) x.2)) l)
   (fun _ ih l=>List.rec (motive:=fun _=>ad) (.bad "extract") (fun _ l' _=>ih l') l) i l:=by
 induction i with
 | zero=>
  intro l;cases l with
  | nil=>exact PS.bad _
  | cons x l=>
   refine PS.ifE (PS.same _) ?_;obtain ⟨b,c⟩:=x;cases c with
   | nil=>exact PS.bad _
   | cons y c=>cases c <;> first|exact PS.same _|exact PS.bad _
 | succ i ih=>
  intro l;cases l with
  | nil=>exact PS.bad _
  | cons x l=>exact ih l
theorem Jw {x:AV} {i:Nat}:PS fun H=>cd H x i:=by
 cases x with
 | tup l=>exact tf i l
 | one _=>exact PS.bad _
 | agg _=>exact PS.bad _
 | any=>exact tf i []
theorem Xy {kd:Nat} {op:BinOp} {f:BF} {x y:AV} {alt:Hp→ad} (ha:PS alt):PS fun H=>bp H kd op f x y (alt H):=by
 cases x with
 | one c=>cases c with
  | o q=>
   show PS fun H=>kF H kd op (.one (.o q)) y (alt H);unfold kF;refine PS.ij ?_ fun _=>PS.ij ha fun _=>PS.ay ha fun _=>PS.same _;unfold nR;cases Nk kd (.one (.o q)) y with
   | none=>exact ha
   | some b=>cases op <;> first|exact PS.same _|exact PS.bad _
  | b _=>exact ha
  | i k a=>
   show PS fun H=>Eng.eF y (alt H) fun k' b=>kD H f k a k' b (alt H);exact PS.eF ha fun k' b=>PS.ifE (by cases f <;> first|exact PS.same _|exact ha) ha
 | agg _=>exact ha
 | tup _=>exact ha
 | any=>exact ha
theorem RP {fo n:Nat} {a:Bool} {x:AV}:PS fun H=>qL H fo n a x:=by
 cases x with
 | agg l=>exact PS.ifE (PS.guard (PS.same _)) (PS.nd fun _=>PS.same _)
 | one _=>exact PS.bad _
 | tup _=>exact PS.bad _
 | any=>exact PS.bad _
theorem ET {x:AV}:PS fun H=>fX H x:=by
 cases x with
 | one c=>cases c with
  | o q=>cases q <;> first|exact PS.bad _|exact PS.same _
  | b _=>exact PS.bad _
  | i _ _=>exact PS.bad _
 | agg _=>exact PS.bad _
 | tup _=>exact PS.bad _
 | any=>exact PS.bad _
theorem SF.Jz {α:Type} {o:Option α} {s:String} {f:α→SF} {tm:PT AV} (h:∀ a,PS ((f a).run tm)):PS ((ndF o s f).run tm):=by
 cases o with
 | none=>exact PS.bad _
 | some a=>exact h a
theorem SF.ifPS {b:Bool} {s:String} {f:SF} {tm:PT AV} (h:PS (f.run tm)):PS ((Eng.ifE b f (kW s)).run tm):=by
 cases b with
 | false=>exact PS.bad _
 | true=>exact h
theorem Wr {tm:PT AV} {o:Oper} (hk:opK o=0):PS ((ao P o).run tm):=by
 have hp:∀ o,PS fun H=>an P tm H o:=fun _=>rz;obtain ⟨dst,op,type,pos,after,guard⟩:=o;cases op with
 | move x=>cases x <;> exact PS.same _
 | assign x=>cases x <;> exact PS.same _
 | pick c x y=>exact PS.dz (PS.bad _) fun _=>PS.same _
 | build t parts=>exact SF.Jz fun _=>SF.Jz fun _=>SF.Jz fun _=>PS.nd fun _=>PS.same _
 | nilCheck x=>exact ET
 | binOp op t x y c=>exact Xy (hp _)
 | unOp op t x=>
  show PS fun H=>Jg H op _ (an P tm H _);unfold Jg;cases op <;> first|exact PS.dz rz fun _=>PS.same _|exact rz
 | convert s d x=>exact hp _
 | fieldAddr s x f=>exact SF.Jz fun _=>PS.su (PS.bad _) fun _ _ _ _=>PS.guard (PS.same _)
 | field t x f=>exact SF.Jz fun _=>SF.Jz fun _=>RP
 | indexAddr t x i=>exact SF.Jz fun _=>PS.slE (PS.bad _) fun _ _ _ _ _=>PS.eF (PS.bad _) fun _ _=>PS.nd fun _=>PS.guard (PS.same _)
 | index t x i=>exact PS.ifE (PS.ij (hp _) fun _=>PS.eF (hp _) fun _ _=>PS.nd fun _=>PS.nd fun _=>PS.same _) (hp _)
 | slice t x lo hi mx=>
  cases mx with
  | some _=>exact PS.bad _
  | none=>
   cases he:bm P t with
   | none=>
    have:ao P ⟨dst,.slice t x lo hi none,type,pos,after,guard⟩=.mk fun tm h=>an P tm h ⟨dst,.slice t x lo hi none,type,pos,after,guard⟩:=by
     simp[ao,he]
    rw[this];exact hp _
   | some p=>
    have:ao P ⟨dst,.slice t x lo hi none,type,pos,after,guard⟩=.mk fun tm h=>cN h p.2 ((opF x).ev tm) (lo.map (ev tm)) (hi.map (ev tm)) (an P tm h ⟨dst,.slice t x lo hi none,type,pos,after,guard⟩):=by
     simp[ao,he]
    rw[this];exact PS.slE (hp _) fun _ _ _ _ _=>PS.nd fun _=>PS.nd fun _=>PS.guard (PS.same _)
 | extract x i=>exact Jw
 | makeFunc fn first caps=>
  cases fn with
  | func f=>exact SF.ifPS (PS.nd fun _=>PS.same _)
  | _=>exact PS.bad _
 | call c=>
  exfalso;revert hk
  show opK ⟨dst,.call c,type,pos,after,guard⟩=0→False;unfold opK;intro hk;split at hk <;> first|exact absurd hk (by decide)|(rename_i h;cases h)
 | _=>cases hk
def NS (n:Hp→ad):Prop:=∀ h v h',n h=.val v h'→∃ x,h'=h.new x∧∀ k:Hp,k.nx=h.nx→n k=.val v (k.new x)
theorem NS.mk (f:Nat→AV) (x:aK):NS fun h=>.val (f h.nx) (h.new x):=fun h v h' e=>by
 injection e with e1 e2
 subst e1 e2;exact ⟨x,rfl,fun k hk=>by simp only[hk]⟩
theorem NS.bad (s:String):NS fun _=>.bad s:=fun _ _ _ h=>by cases h
theorem NS.nd {α:Type} {o:Option α} {s:String} {f:α→Hp→ad} (h:∀ a,NS (f a)):NS fun k=>nd o s fun a=>f a k:=by
 cases o with
 | none=>exact NS.bad s
 | some a=>exact h a
theorem NS.guard {b:Bool} {s:String} {n:Hp→ad} (h:NS n):NS fun k=>aH b s (n k):=by
 cases b with
 | true=>exact h
 | false=>exact NS.bad s
theorem NS.eF {x:AV} {e:Hp→ad} {f:IntKind→Int→Hp→ad} (he:NS e) (h:∀ a b,NS (f a b)):NS fun k=>Eng.eF x (e k) fun a b=>f a b k:=by
 cases x with
 | one c=>cases c with
  | o q=>exact he
  | b _=>exact he
  | i _ _=>exact h _ _
 | agg _=>exact he
 | tup _=>exact he
 | any=>exact he
theorem AM {c:List AC} {e:TypeId}:NS fun H=>ib H c e:=NS.mk (fun n=>.one (.o (.ptr n 0 0 (bw c)))) _
theorem SF.VK {α:Type} {o:Option α} {s:String} {f:α→SF} {tm:PT AV} (h:∀ a,NS ((f a).run tm)):NS ((ndF o s f).run tm):=by
 cases o with
 | none=>exact NS.bad _
 | some a=>exact h a
theorem SF.ifNS {b:Bool} {s:String} {f:SF} {tm:PT AV} (h:NS (f.run tm)):NS ((Eng.ifE b f (kW s)).run tm):=by
 cases b with
 | false=>exact NS.bad _
 | true=>exact h
theorem UN {tm:PT AV} {o:Oper} (hk:opK o=1):NS ((ao P o).run tm):=by
 obtain ⟨dst,op,type,pos,after,guard⟩:=o;cases op with
 | alloc e=>exact SF.VK fun _=>AM
 | box e x=>exact NS.guard AM
 | buildSlice t len parts=>exact SF.VK fun es=>SF.VK fun _=>SF.ifNS (SF.VK fun _=>NS.nd fun _=>NS.mk (fun n=>.one (.o (.sl n 0 0 len es.2))) _)
 | makeSlice t l c=>exact NS.nd fun es=>NS.nd fun _=>NS.nd fun _=>NS.eF (NS.bad _) fun _ _=>NS.eF (NS.bad _) fun _ _=>NS.nd fun k=>NS.nd fun _=>NS.guard (NS.mk (fun n=>.one (.o (.sl n 0 0 k es.2))) _)
 | makeMap t r=>
  cases r with
  | some _=>exact NS.bad _
  | none=>exact NS.mk (fun n=>.one (.o (.mp n))) _
 | call c=>
  exfalso;revert hk
  show opK ⟨dst,.call c,type,pos,after,guard⟩=1→False;unfold opK;intro hk;split at hk <;> first|exact absurd hk (by decide)|(rename_i h;cases h)
 | _=>cases hk
end
def ef (o:Oper):List Operand:=
 match o.op with
 | .load _ x=>[x]
 | .lookup _ x _ _=>[x]
 | .mapUpdate _ x _ _=>[x]
 | .store _ a _=>[a]
 | .call ⟨.builtin .len,⟨[x]⟩,_⟩=>[x]
 | .call ⟨.builtin .append,⟨[s,x]⟩,_⟩=>[s,x]
 | _=>[]
theorem Jk {o:Oper} {x:Operand} (h:x∈ef o):x∈o.op.operands.toList:=by
 obtain ⟨dst,op,type,pos,after,guard⟩:=o;unfold ef at h;split at h
 ·rename_i hh;cases hh;simp at h;subst h;simp[Op.operands]
 ·rename_i hh;cases hh;simp at h;subst h;simp[Op.operands]
 ·rename_i hh;cases hh;simp at h;subst h;simp[Op.operands]
 ·rename_i hh;cases hh;simp at h;subst h;simp[Op.operands]
 ·rename_i hh;cases hh;simp at h;subst h;simp[Op.operands,Call.operands]
 ·rename_i hh;cases hh;simp at h;rcases h with rfl|rfl <;> simp[Op.operands,Call.operands]
 cases h
def Agr (o:Oper) (tm:PT AV) (H h:Hp):Prop:=h.nx=H.nx∧∀ x∈ef o,∀ id∈(ev tm x).ids,h.get id=H.get id
def yu (P:Program) (o:Oper):Prop:=∀ tm H v H',(ao P o).run tm H=.val v H'→H'=H∧∀ h,Agr o tm H h→(ao P o).run tm h=.val v h
theorem PS.look {P:Program} {o:Oper} (h:∀ tm,PS ((ao P o).run tm)):yu P o:=fun tm H v H' e=>by
 rcases h tm with ⟨v',h'⟩|h'
 ·have e':=(h' H).symm.trans e;injection e' with e1 e2
  subst e1;exact ⟨e2.symm,fun k _=>h' k⟩
 exact absurd e (h' H v H')
theorem Tf {P:Program} {d:Option Tmp} {x:Operand} {t:TypeId} {ty:TypeId} {pos:String} {af:Array Edge} {g:Option (Nat×Bool)}:yu P ⟨d,.call ⟨.builtin .len,⟨[x]⟩,⟨[t]⟩⟩,ty,pos,af,g⟩:=by
 intro tm H v H' h;have e:∀ h,(ao P ⟨d,.call ⟨.builtin .len,⟨[x]⟩,⟨[t]⟩⟩,ty,pos,af,g⟩).run tm h=(ndF (eu P t) "len - type" fun k=>.mk fun tm h=>cG h k (ev tm x)).run tm h:=fun h=>rfl
 rw[e] at h;cases hk:eu P t with
 | none=>rw[hk] at h;cases h
 | some k=>
  rw[hk] at h;have h':cG H k (ev tm x)=.val v H':=h;have key:∀ h,cG h k (ev tm x)=.val v h→(ao P ⟨d,.call ⟨.builtin .len,⟨[x]⟩,⟨[t]⟩⟩,ty,pos,af,g⟩).run tm h=.val v h:=fun h hh=>by rw[e,hk];exact hh
  match k with
  | 0=>
   have p:PS fun h=>cG h 0 (ev tm x):=PS.ij (PS.bad _) fun _=>PS.same _;rcases p with ⟨v',p⟩|p
   ·have h2:=(p H).symm.trans h';injection h2 with e1 e2;subst e1;exact ⟨e2.symm,fun k _=>key k (p k)⟩
   exact absurd h' (p H v H')
  | 1=>
   have p:PS fun h=>cG h 1 (ev tm x):=PS.slE (PS.guard (PS.same _)) fun _ _ _ _ _=>PS.same _;rcases p with ⟨v',p⟩|p
   ·have h2:=(p H).symm.trans h';injection h2 with e1 e2;subst e1;exact ⟨e2.symm,fun k _=>key k (p k)⟩
   exact absurd h' (p H v H')
  | k+2=>
   have h2:dQ H (ev tm x)=.val v H':=h';unfold dQ at h2;split at h2
   ·injection h2 with e1 e2
    rename_i hx
    refine ⟨e2.symm,fun k _=>key k ?_⟩;show dQ k (ev tm x)=_;rw[hx,←e1];rfl
   ·rename_i id hx
    split at h2
    ·rename_i es c hg
     injection h2 with e1 e2
     refine ⟨e2.symm,fun k hk=>key k ?_⟩;show dQ k (ev tm x)=_;have hid:k.get id=H.get id:=hk.2 x (by simp[ef]) id (by rw[hx];exact List.mem_singleton.2 rfl);rw[hx,←e1];unfold dQ;simp only[hid,hg]
    cases h2
   cases h2
theorem th {P:Program} {d:Option Tmp} {b:Builtin} (hb:b=.min∨b=.max) {xs:Array Operand} {ts:Array TypeId} {ty:TypeId} {pos:String} {af:Array Edge} {g:Option (Nat×Bool)}:yu P ⟨d,.call ⟨.builtin b,xs,ts⟩,ty,pos,af,g⟩:=by
 refine PS.look fun tm=>?_;have e:(ao P ⟨d,.call ⟨.builtin b,xs,ts⟩,ty,pos,af,g⟩).run tm=fun h=>an P tm h ⟨d,.call ⟨.builtin b,xs,ts⟩,ty,pos,af,g⟩:=by
  rcases hb with rfl|rfl <;> rfl
 rw[e];exact rz
theorem Om {P:Program} {d:Option Tmp} {t:TypeId} {x:Operand} {ty:TypeId} {pos:String} {af:Array Edge} {g:Option (Nat×Bool)}:yu P ⟨d,.load t x,ty,pos,af,g⟩:=by
 intro tm H v H' h;have hx:∃ id gn off lim,ev tm x=.one (.o (.ptr id gn off lim)):=by
  cases ht:loadT P t with
  | none=>
   have e:(ao P ⟨d,.load t x,ty,pos,af,g⟩).run tm H=.bad "load - type" := by
    show (ndF (loadT P t) _ _).run tm H=_;rw[ht];rfl
   rw[e] at h;cases h
  | some p=>
   rw[Lx t x ht] at h;unfold bR at h;cases hv:ev tm x with
   | one c=>cases c with
    | o q=>cases q <;> first|exact ⟨_,_,_,_,rfl⟩|(rw[hv] at h;cases h)
    | b _=>rw[hv] at h;cases h
    | i _ _=>rw[hv] at h;cases h
   | agg _=>rw[hv] at h;cases h
   | tup _=>rw[hv] at h;cases h
   | any=>rw[hv] at h;cases h
 obtain ⟨id,gn,off,lim,hx⟩:=hx;obtain ⟨e1,_,h3⟩:=GS hx h;exact ⟨e1,fun k hk=>h3 k (hk.2 x (by simp[ef]) id (by rw[hx];exact List.mem_singleton.2 rfl))⟩
theorem mY {H H':Hp} {ok b:Bool} {x v:AV} (h:bC H ok x b=.val v H'):H'=H∧∀ h,bC h ok x b=.val v h:=by
 unfold bC at h ⊢;cases ok with
 | false=>injection h with e1 e2;exact ⟨e2.symm,fun k=>by rw[←e1]⟩
 | true=>
  cases hn:x.bz with
  | false=>simp only[hn] at h;cases h
  | true=>
   simp only[hn] at h ⊢;injection h with e1 e2
   exact ⟨e2.symm,fun k=>by rw[←e1];rfl⟩
theorem ES {P:Program} {d:Option Tmp} {t:TypeId} {m k:Operand} {ok:Bool} {ty:TypeId} {pos:String} {af:Array Edge} {g:Option (Nat×Bool)}:yu P ⟨d,.lookup t m k ok,ty,pos,af,g⟩:=by
 intro tm H v H' h;have e:∀ h,(ao P ⟨d,.lookup t m k ok,ty,pos,af,g⟩).run tm h=(ndF (ic P t) "lookup - type" fun p=>ndF (aB P p.2) "lookup - zero" fun z=>.mk fun tm h=>bk P h p.1 (ofValue z) (ev tm m) (ev tm k) ok).run tm h:=fun h=>rfl
 rw[e] at h;cases hm:ic P t with
 | none=>rw[hm] at h;cases h
 | some p=>
  cases hz:aB P p.2 with
  | none=>
   have h0:(ndF (ic P t) "lookup - type" fun p=>ndF (aB P p.2) "lookup - zero" fun z=>.mk fun tm h=>bk P h p.1 (ofValue z) (ev tm m) (ev tm k) ok).run tm H=.bad "lookup - zero" := by
    rw[hm];show (ndF (aB P p.2) "lookup - zero" fun z=>.mk fun tm h=>bk P h p.1 (ofValue z) (ev tm m) (ev tm k) ok).run tm H=_
    rw[hz];rfl
   rw[h0] at h;cases h
  | some z=>
   have e2:∀ h,(ndF (ic P t) "lookup - type" fun p=>ndF (aB P p.2) "lookup - zero" fun z=>.mk fun tm h=>bk P h p.1 (ofValue z) (ev tm m) (ev tm k) ok).run tm h=bk P h p.1 (ofValue z) (ev tm m) (ev tm k) ok:=fun h=>by
    rw[hm];show (ndF (aB P p.2) "lookup - zero" fun z=>.mk fun tm h=>bk P h p.1 (ofValue z) (ev tm m) (ev tm k) ok).run tm h=_
    rw[hz];rfl
   rw[e2] at h;have key:∀ h,bk P h p.1 (ofValue z) (ev tm m) (ev tm k) ok=.val v h→(ao P ⟨d,.lookup t m k ok,ty,pos,af,g⟩).run tm h=.val v h:=fun h hh=>by rw[e,e2];exact hh
   unfold bk at h;split at h
   ·rename_i hx
    cases hk:iy P true p.1 (ev tm k) with
    | none=>rw[hk] at h;cases h
    | some u=>
     rw[hk] at h;obtain ⟨e1,e3⟩:=mY h;refine ⟨e1,fun h' _=>key h' ?_⟩;unfold bk;rw[hx];show nd (iy P true p.1 (ev tm k)) _ _=_;rw[hk];exact e3 h'
   ·rename_i id hx
    split at h
    ·rename_i es c hg
     cases hk:iy P es.isEmpty p.1 (ev tm k) with
     | none=>rw[hk] at h;cases h
     | some u=>
      rw[hk] at h;have sub:∀ h',Agr ⟨d,.lookup t m k ok,ty,pos,af,g⟩ tm H h'→bk P h' p.1 (ofValue z) (ev tm m) (ev tm k) ok=(match jO P p.1 (ev tm k) es with|some (some e)=>bC h' ok e.val true|some none=>bC h' ok (ofValue z) false|none=>.bad "lookup - keys"):=fun h' ha=>by
       have hid:h'.get id=some (.oth (.map es c)):=(ha.2 m (by simp[ef]) id (by rw[hx];exact List.mem_singleton.2 rfl)).trans hg;unfold bk;rw[hx];simp only[hid,hk];rfl
      have h2:(match jO P p.1 (ev tm k) es with|some (some e)=>bC H ok e.val true|some none=>bC H ok (ofValue z) false|none=>.bad "lookup - keys")=.val v H':=h
      cases hf:jO P p.1 (ev tm k) es with
      | none=>rw[hf] at h2;cases h2
      | some r=>
       cases r with
       | none=>
        rw[hf] at h2;obtain ⟨e1,e3⟩:=mY h2;exact ⟨e1,fun h' ha=>key h' (by rw[sub h' ha,hf];exact e3 h')⟩
       | some en=>
        rw[hf] at h2;obtain ⟨e1,e3⟩:=mY h2;exact ⟨e1,fun h' ha=>key h' (by rw[sub h' ha,hf];exact e3 h')⟩
    cases h
   cases h
theorem OP {P:Program} {o:Oper} (hk:opK o=2):yu P o:=by
 obtain ⟨dst,op,type,pos,after,guard⟩:=o;cases op with
 | load t x=>exact Om
 | lookup t m k ok=>exact ES
 | call c=>
  obtain ⟨ce,as,ts⟩:=c;have S2:=hk;unfold opK at S2;split at S2 <;> first|exact absurd S2 (by decide)|skip
  ·rename_i h;cases h
  ·rename_i h;cases h
  ·rename_i h;cases h;exact Tf
  ·rename_i h;cases h;exact th (.inl rfl)
  rename_i h;cases h;exact th (.inr rfl)
 | _=>cases hk
def US (P:Program) (o:Oper):Prop:=∀ tm H v H',(ao P o).run tm H=.val v H' →
 (H'=H∧∀ h,Agr o tm H h→(ao P o).run tm h=.val v h) ∨
 (∃ x,H'=H.new x∧∀ h,Agr o tm H h→(ao P o).run tm h=.val v (h.new x)) ∨
 (∃ id x k,H'=H.mod id x∧H.get id=some k∧(∃ y∈ef o,id∈(ev tm y).ids)∧∀ h,Agr o tm H h→(ao P o).run tm h=.val v (h.mod id x))
theorem OH {P:Program} {d:Option Tmp} {t:TypeId} {a x:Operand} {ty:TypeId} {pos:String} {af:Array Edge} {g:Option (Nat×Bool)}:US P ⟨d,.store t a x,ty,pos,af,g⟩:=by
 intro tm H v H' h;have hx:∃ id gn off lim,ev tm a=.one (.o (.ptr id gn off lim)):=by
  cases ht:aS P t with
  | none=>
   have e:(ao P ⟨d,.store t a x,ty,pos,af,g⟩).run tm H=.bad "store - type" := by
    show (ndF (aS P t) _ _).run tm H=_;rw[ht];rfl
   rw[e] at h;cases h
  | some p=>
   rw[FV t a x ht] at h;unfold fQ at h;cases hv:ev tm a with
   | one c=>cases c with
    | o q=>cases q <;> first|exact ⟨_,_,_,_,rfl⟩|(rw[hv] at h;cases h)
    | b _=>rw[hv] at h;cases h
    | i _ _=>rw[hv] at h;cases h
   | agg _=>rw[hv] at h;cases h
   | tup _=>rw[hv] at h;cases h
   | any=>rw[hv] at h;cases h
 obtain ⟨id,gn,off,lim,hx⟩:=hx;obtain ⟨o,e1,⟨k,e2⟩,h3⟩:=Av hx h;have V2:id∈(ev tm a).ids:=by rw[hx];exact List.mem_singleton.2 rfl
 exact .inr (.inr ⟨id,o,k,e1,e2,⟨a,by simp[ef],V2⟩,fun h hk=>h3 h (hk.2 a (by simp[ef]) id V2)⟩)
theorem JU {P:Program} {d:Option Tmp} {t:TypeId} {m k x:Operand} {ty:TypeId} {pos:String} {af:Array Edge} {g:Option (Nat×Bool)}:US P ⟨d,.mapUpdate t m k x,ty,pos,af,g⟩:=by
 intro tm H v H' h;have e:∀ h,(ao P ⟨d,.mapUpdate t m k x,ty,pos,af,g⟩).run tm h=(ndF (ic P t) "mapUpdate - type" fun p=>.mk fun tm h=>aT P h p.1 (ev tm m) (ev tm k) (ev tm x)).run tm h:=fun h=>rfl
 rw[e] at h;cases hm:ic P t with
 | none=>rw[hm] at h;cases h
 | some p=>
  rw[hm] at h;have h1:aT P H p.1 (ev tm m) (ev tm k) (ev tm x)=.val v H':=h;clear h;have key:∀ {h:Hp} {r:ad},aT P h p.1 (ev tm m) (ev tm k) (ev tm x)=r→(ao P ⟨d,.mapUpdate t m k x,ty,pos,af,g⟩).run tm h=r:=fun {h r} hh=>by rw[e,hm];exact hh
  unfold aT at h1;split at h1
  ·rename_i id hx
   split at h1
   ·rename_i es c hg
    have V2:id∈(ev tm m).ids:=by rw[hx];exact List.mem_singleton.2 rfl
    have sub:∀ h',Agr ⟨d,.mapUpdate t m k x,ty,pos,af,g⟩ tm H h'→aT P h' p.1 (ev tm m) (ev tm k) (ev tm x)=(nd (iy P false p.1 (ev tm k)) "mapUpdate - key" fun _=>aH (both (ev tm k).bz (ev tm x).bz) "mapUpdate - tuple" <| nd (my P p.1 (ev tm k) (ev tm x) es) "mapUpdate - keys" fun r=>
      ifE r.1 (.val aF (h'.mod id (.oth (.map r.2 c)))) (.val aF (h'.mod id (.oth (.map (es++[⟨ev tm k,ev tm x,c⟩]) (Nat.add c 1)))))):=fun h' ha=>by
     have hid:h'.get id=some (.oth (.map es c)):=(ha.2 m (by simp[ef]) id V2).trans hg;unfold aT;rw[hx];simp only[hid]
    cases hk:iy P false p.1 (ev tm k) with
    | none=>rw[hk] at h1;cases h1
    | some u=>
     rw[hk] at h1;cases hn:both (ev tm k).bz (ev tm x).bz with
     | false=>
      have h2:aH (both (ev tm k).bz (ev tm x).bz) "mapUpdate - tuple" _=_:=h1
      rw[hn] at h2;cases h2
     | true=>
      have h2:aH (both (ev tm k).bz (ev tm x).bz) "mapUpdate - tuple" _=_:=h1
      rw[hn] at h2;cases hp:my P p.1 (ev tm k) (ev tm x) es with
      | none=>
       have h3:nd (my P p.1 (ev tm k) (ev tm x) es) "mapUpdate - keys" _=_:=h2
       rw[hp] at h3;cases h3
      | some r=>
       have h3:nd (my P p.1 (ev tm k) (ev tm x) es) "mapUpdate - keys" _=_:=h2
       rw[hp] at h3;have sub2:∀ h',Agr ⟨d,.mapUpdate t m k x,ty,pos,af,g⟩ tm H h'→aT P h' p.1 (ev tm m) (ev tm k) (ev tm x)=ifE r.1 (.val aF (h'.mod id (.oth (.map r.2 c)))) (.val aF (h'.mod id (.oth (.map (es++[⟨ev tm k,ev tm x,c⟩]) (Nat.add c 1))))):=fun h' ha=>by
        rw[sub h' ha,hk];show aH (both (ev tm k).bz (ev tm x).bz) _ _=_;rw[hn];show nd (my P p.1 (ev tm k) (ev tm x) es) _ _=_;rw[hp];rfl
       obtain ⟨rb,rl⟩:=r;cases rb with
       | true=>
        have h4:ad.val aF (H.mod id (.oth (.map rl c)))=.val v H':=h3;injection h4 with e1 e2
        exact .inr (.inr ⟨id,_,_,e2.symm,hg,⟨m,by simp[ef],V2⟩,fun h' ha=>key (by rw[sub2 h' ha,←e1];rfl)⟩)
       | false=>
        have h4:ad.val aF (H.mod id (.oth (.map (es++[⟨ev tm k,ev tm x,c⟩]) (Nat.add c 1))))=.val v H':=h3;injection h4 with e1 e2
        exact .inr (.inr ⟨id,_,_,e2.symm,hg,⟨m,by simp[ef],V2⟩,fun h' ha=>key (by rw[sub2 h' ha,←e1];rfl)⟩)
   cases h1
  cases h1
theorem XF {id g off len sz:Nat}:(AV.one (.o (.sl id g off len sz))).ids=[id]:=rfl
theorem NR {H h:Hp} {sz:Nat} {x:AV} (hk:∀ id∈x.ids,h.get id=H.get id):jf h sz x=jf H sz x:=by
 unfold jf;split
 ·rename_i id g off len sz'
  have:eT h id g off (Nat.mul len sz) (Nat.mul len sz)=eT H id g off (Nat.mul len sz) (Nat.mul len sz):=by
   unfold eT;rw[hk id (by rw[XF];exact List.mem_singleton.2 rfl)]
  rw[this]
 ·rfl
 rfl
theorem Je {P:Program} {d:Option Tmp} {s x:Operand} {t t2:TypeId} {ty:TypeId} {pos:String} {af:Array Edge} {g:Option (Nat×Bool)}:US P ⟨d,.call ⟨.builtin .append,⟨[s,x]⟩,⟨[t,t2]⟩⟩,ty,pos,af,g⟩:=by
 intro tm H v H' h;have e:∀ h,(ao P ⟨d,.call ⟨.builtin .append,⟨[s,x]⟩,⟨[t,t2]⟩⟩,ty,pos,af,g⟩).run tm h=(Eng.ifE (Nat.beq t t2) (.mk fun tm h=>aV P h t (ev tm s) (ev tm x)) (kW "append - types"):SF).run tm h:=fun h=>rfl
 rw[e] at h;cases hb:Nat.beq t t2 with
 | false=>rw[hb] at h;cases h
 | true=>
  rw[hb] at h;have h1:aV P H t (ev tm s) (ev tm x)=.val v H':=h;have key:∀ {h:Hp} {r:ad},aV P h t (ev tm s) (ev tm x)=r→(ao P ⟨d,.call ⟨.builtin .append,⟨[s,x]⟩,⟨[t,t2]⟩⟩,ty,pos,af,g⟩).run tm h=r:=fun {h r} hh=>by rw[e,hb];exact hh
  unfold aV at h1;cases h2:bm P t with
  | none=>rw[h2] at h1;cases h1
  | some es=>
  rw[h2] at h1;cases h3:cB P es.1 with
  | none=>have:(ad.bad "append - bytes")=.val v H':=by rw[←h1];simp only[nd,h3]
          cases this
  | some by_=>
  cases h4:aB P es.1 with
  | none=>have:(ad.bad "append - zero")=.val v H':=by rw[←h1];simp only[nd,h3,h4]
          cases this
  | some z=>
  cases h5:both (!Nat.beq es.2 0) (Nat.beq (bw (ofValue z).cells) es.2) with
  | false=>have:(ad.bad "append - size 0")=.val v H':=by rw[←h1];simp only[nd,h3,h4,h5,aH]
           cases this
  | true=>
  cases h6:jf H es.2 (ev tm x) with
  | none=>have:(ad.bad "append - what is appended")=.val v H':=by rw[←h1];simp only[nd,h3,h4,h5,aH,h6]
          cases this
  | some nc=>
  have h7:dn H es.1 es.2 by_ nc.1 nc.2 (ev tm s)=.val v H':=by rw[←h1];simp only[nd,h3,h4,h5,aH,h6]
  have key2:∀ {h:Hp} {r:ad},Agr ⟨d,.call ⟨.builtin .append,⟨[s,x]⟩,⟨[t,t2]⟩⟩,ty,pos,af,g⟩ tm H h→dn h es.1 es.2 by_ nc.1 nc.2 (ev tm s)=r→(ao P ⟨d,.call ⟨.builtin .append,⟨[s,x]⟩,⟨[t,t2]⟩⟩,ty,pos,af,g⟩).run tm h=r:=fun {h r} ha hh=>by
   refine key ?_;have e6:=(NR (sz:=es.2) fun id hid=>ha.2 x (by simp[ef]) id hid).trans h6;unfold aV;rw[h2];simp only[nd,h3,h4,h5,aH,e6];exact hh
  unfold dn at h7;split at h7
  ·rename_i hs
   cases h8:Nat.beq nc.1 0 with
   | true=>
    rw[h8] at h7;injection h7 with e1 e2
    refine .inl ⟨e2.symm,fun h ha=>key2 ha ?_⟩;unfold dn;rw[hs] at e1 ⊢;simp only[h8];rw[←e1];rfl
   | false=>
    rw[h8] at h7;cases h9:both (Nat.ble nc.1 140737488355328) (Nat.ble (Nat.mul nc.1 by_) 140737488355328) with
    | false=>have:(ad.bad "append - too much")=.val v H':=by rw[←h7];simp only[Eng.ifE,aH,h9]
             cases this
    | true=>
     have h10:(ad.val (.one (.o (.sl H.nx 0 0 nc.1 es.2))) (H.new (.arr nc.2 es.1 0 0)))=.val v H':=by rw[←h7];simp only[Eng.ifE,aH,h9]
     injection h10 with e1 e2
     refine .inr (.inl ⟨_,e2.symm,fun h ha=>key2 ha ?_⟩);unfold dn;rw[hs];simp only[h8,Eng.ifE,aH,h9,ha.1];rw[←e1]
  ·rename_i id g2 off len sz' hs
   have hid:id∈(ev tm s).ids:=by rw[hs];exact List.mem_singleton.2 rfl
   have e7:s∈ef ⟨d,.call ⟨.builtin .append,⟨[s,x]⟩,⟨[t,t2]⟩⟩,ty,pos,af,g⟩:=by simp[ef]
   cases hg:H.get id with
   | none=>rw[hg] at h7;cases h7
   | some ob=>
    cases ob with
    | oth q=>rw[hg] at h7;cases h7
    | ro q=>rw[hg] at h7;cases h7
    | arr cells e' lo gen=>
     rw[hg] at h7;have key3:∀ {h:Hp} {r:ad},Agr ⟨d,.call ⟨.builtin .append,⟨[s,x]⟩,⟨[t,t2]⟩⟩,ty,pos,af,g⟩ tm H h→(aH (both (Nat.beq sz' es.2) (both (Nat.beq e' es.1) (both (Nat.ble lo g2) (both (Nat.ble g2 gen) (both (Nat.ble (Nat.add off (Nat.mul len es.2)) (bw cells))
       (both (Nat.ble (Nat.add len nc.1) 140737488355328) (Nat.ble (Nat.mul (Nat.add len nc.1) by_) 140737488355328))))))) "append - stale or too much"
      (Eng.ifE (Nat.beq nc.1 0) (.val (.one (.o (.sl id g2 off len sz'))) h)
       (Eng.ifE (both (Nat.beq g2 gen) (both (Nat.beq off 0) (Nat.beq (Nat.mul len es.2) (bw cells))))
        (.val (.one (.o (.sl id (Nat.add gen 1) 0 (Nat.add len nc.1) es.2))) (h.mod id (.arr (pd cells nc.2) es.1 lo (Nat.add gen 1))))
        (.val (.one (.o (.sl id (Nat.add gen 1) 0 (Nat.add len nc.1) es.2))) (h.mod id (.arr (pd (cut cells off (Nat.mul len es.2)) nc.2) es.1 (Nat.add gen 1) (Nat.add gen 1)))))))=r→(ao P ⟨d,.call ⟨.builtin .append,⟨[s,x]⟩,⟨[t,t2]⟩⟩,ty,pos,af,g⟩).run tm h=r:=fun {h r} ha hh=>by
      refine key2 ha ?_;unfold dn;rw[hs];simp only[mE,ha.2 s e7 id hid,hg];exact hh
     have h8:(aH (both (Nat.beq sz' es.2) (both (Nat.beq e' es.1) (both (Nat.ble lo g2) (both (Nat.ble g2 gen) (both (Nat.ble (Nat.add off (Nat.mul len es.2)) (bw cells))
       (both (Nat.ble (Nat.add len nc.1) 140737488355328) (Nat.ble (Nat.mul (Nat.add len nc.1) by_) 140737488355328))))))) "append - stale or too much"
      (Eng.ifE (Nat.beq nc.1 0) (.val (.one (.o (.sl id g2 off len sz'))) H)
       (Eng.ifE (both (Nat.beq g2 gen) (both (Nat.beq off 0) (Nat.beq (Nat.mul len es.2) (bw cells))))
        (.val (.one (.o (.sl id (Nat.add gen 1) 0 (Nat.add len nc.1) es.2))) (H.mod id (.arr (pd cells nc.2) es.1 lo (Nat.add gen 1))))
        (.val (.one (.o (.sl id (Nat.add gen 1) 0 (Nat.add len nc.1) es.2))) (H.mod id (.arr (pd (cut cells off (Nat.mul len es.2)) nc.2) es.1 (Nat.add gen 1) (Nat.add gen 1)))))))=.val v H':=by
      rw[←h7,hs];rfl
     cases hc:both (Nat.beq sz' es.2) (both (Nat.beq e' es.1) (both (Nat.ble lo g2) (both (Nat.ble g2 gen) (both (Nat.ble (Nat.add off (Nat.mul len es.2)) (bw cells)) (both (Nat.ble (Nat.add len nc.1) 140737488355328) (Nat.ble (Nat.mul (Nat.add len nc.1) by_) 140737488355328)))))) with
     | false=>rw[hc] at h8;cases h8
     | true=>
      rw[hc] at h8;cases hn:Nat.beq nc.1 0 with
      | true=>
       rw[hn] at h8;injection h8 with e1 e2
       refine .inl ⟨e2.symm,fun h ha=>key3 ha ?_⟩;rw[hc,hn,←e1];rfl
      | false=>
       rw[hn] at h8;cases ht:both (Nat.beq g2 gen) (both (Nat.beq off 0) (Nat.beq (Nat.mul len es.2) (bw cells))) with
       | true=>
        rw[ht] at h8;injection h8 with e1 e2
        refine .inr (.inr ⟨_,_,_,e2.symm,hg,⟨s,e7,hid⟩,fun h ha=>key3 ha ?_⟩);rw[hc,hn,ht,←e1];rfl
       | false=>
        rw[ht] at h8;injection h8 with e1 e2
        refine .inr (.inr ⟨_,_,_,e2.symm,hg,⟨s,e7,hid⟩,fun h ha=>key3 ha ?_⟩);rw[hc,hn,ht,←e1];rfl
  cases h7
def ltV (v:AV) (n:Nat):Prop:=∀ id∈v.ids,id<n
def LTo (o:Oper) (A:ab) (H:Hp):Prop:=
 match o.op with
 | .load _ x=>ltV (ev A.tm x) H.nx
 | .lookup _ x _ _=>ltV (ev A.tm x) H.nx
 | .mapUpdate _ x _ _=>ltV (ev A.tm x) H.nx
 | .store _ a _=>ltV (ev A.tm a) H.nx
 | .call ⟨.builtin .len,⟨[x]⟩,_⟩=>ltV (ev A.tm x) H.nx
 | .call ⟨.builtin .append,⟨[s,x]⟩,_⟩=>ltV (ev A.tm s) H.nx∧ltV (ev A.tm x) H.nx
 | _=>True
theorem LTo.mem {o:Oper} {A:ab} {H:Hp} (h:LTo o A H) {x:Operand} (hx:x∈ef o) {id:Nat} (hid:id∈(ev A.tm x).ids):id<H.nx:=by
 obtain ⟨dst,op,type,pos,after,guard⟩:=o;unfold ef at hx;split at hx
 ·rename_i hh;cases hh;simp at hx;subst hx;exact h id hid
 ·rename_i hh;cases hh;simp at hx;subst hx;exact h id hid
 ·rename_i hh;cases hh;simp at hx;subst hx;exact h id hid
 ·rename_i hh;cases hh;simp at hx;subst hx;exact h id hid
 ·rename_i hh;cases hh;simp at hx;subst hx;exact h id hid
 ·rename_i hh;cases hh;simp at hx
  rcases hx with rfl|rfl
  ·exact h.1 id hid
  exact h.2 id hid
 cases hx
def CS (st:Bool) (E:Env) (H:Hp) (n:ad) (next:AV→Hp→Prop):Prop:=
 ∀ lg,N1 E ⟨H.t,H.nx,lg⟩ n fun v h'=>(st=true→Gr ⟨H.t,H.nx,lg⟩ h')∧∀ lg',(∀ X,Fr X ⟨H.t,H.nx,lg⟩ h'→Fr X H ⟨h'.t,h'.nx,lg'⟩)→next v ⟨h'.t,h'.nx,lg'⟩
theorem CS.cn {st:Bool} {E:Env} {H:Hp} {n:ad} {next:AV→Hp→Prop} (h:CS st E H n next):CN E H n next:=fun lg=>(h lg).mono fun _ _ h=>h.2
def WE (st:Bool) (E:Env) (A:ab) (d:Option Tmp) (next:ab→Hp→Prop) (H:Hp) (n:ad):Prop:=
 match n with
 | .enter f args=>CS st E H (.enter f args) fun v H'=>next (bq A d v) H'
 | .round id args=>CS st E H (.round id args) fun v H'=>next (bq A d v) H'
 | _=>False
def IsEn:ad→Prop
 | .enter _ _=>True
 | .round _ _=>True
 | _=>False
def SK (st:Bool) (E:Env) (o:Oper) (A:ab) (H:Hp) (next:ab→Hp→Prop):Prop:=
 match o.op with
 | .call ⟨.value _,_,_⟩=>WE st E A o.dst next H ((ao E.P o).run A.tm H)
 | _=>LTo o A H∧cI (fun v H'=>next (bq A o.dst v) H') ((ao E.P o).run A.tm H)
def SU (st:Bool) (E:Env) (o:Oper) (A:ab) (H:Hp) (next:ab→Hp→Prop) (g:GW):Prop:=
 match g with
 | .yes=>SK st E o A H next
 | .no=>next (bq A o.dst aF) H
 | .lost=>False
def SO (st:Bool) (E:Env) (ops:List Oper) (Q:ab→Hp→Prop):List Oper→ab→Hp→Prop
 | [],A,H=>Q A H
 | o::l,A,H=>aq o.dst A.nt=true∧SU st E o A H (SO st E ops Q l) (gw (gOf ops o.guard) A.tm)
def fI (before:List Nat) (did:List Did):Prop:=∀ u∈did,∃ k,before[u.idx]?=some k∧k≠0∧(k=2→u.wr=[]∧u.c0=u.c1)
theorem fI.more {before:List Nat} {did:List Did} (h:fI before did) (k:Nat):fI (before++[k]) did:=fun u hu=>by
 obtain ⟨k',h1,h2⟩:=h u hu;refine ⟨k',?_,h2⟩;have D0:u.idx<before.length:=by
  rcases Nat.lt_or_ge u.idx before.length with h|h
  ·exact h
  rw[List.getElem?_eq_none h] at h1;cases h1
 rw[List.getElem?_append_left D0];exact h1
theorem fI.cons {before:List Nat} {did:List Did} (h:fI before did) {k:Nat} {u:Did} (hi:u.idx=before.length) (hk:k≠0) (h2:k=2→u.wr=[]∧u.c0=u.c1):fI (before++[k]) (u::did):=fun v hv=>by
 rcases List.mem_cons.1 hv with rfl|hv
 ·exact ⟨k,by rw[hi];simp,hk,h2⟩
 exact h.more k v hv
theorem fI.pair {before:List Nat} {did:List Did} (h:fI before did) {k m:Nat} (hs:cH k m 0 before=true) {u:Did} (hu:u∈aD m did):∃ ku,ku≠0∧(ku=2→u.wr=[]∧u.c0=u.c1)∧Ja k ku=true:=by
 obtain ⟨h1,h2⟩:=cx.1 hu;obtain ⟨ku,h3,h4,h5⟩:=h u h1;refine ⟨ku,h4,h5,?_⟩;rcases tq hs u.idx ku h3 with h|h
 ·rw[Nat.zero_add,h2] at h;cases h
 exact h
theorem fI.none {before:List Nat} {did:List Did} (h:fI before did) {m:Nat} (hs:cH 3 m 0 before=true):aD m did=[]:=by
 rw[List.eq_nil_iff_forall_not_mem];intro u hu;obtain ⟨ku,h1,_,h2⟩:=h.pair hs hu;exact h1 (zA3 h2)
theorem fI.look {before:List Nat} {did:List Did} (h:fI before did) {m:Nat} (hs:cH 2 m 0 before=true):∀ u∈aD m did,∀ i,bO u i=false:=by
 intro u hu i;obtain ⟨ku,h1,h3,h2⟩:=h.pair hs hu;have V8:(Nat.beq ku 0||Nat.beq ku 2)=true:=h2;rw[Bool.or_eq_true] at V8;rcases V8 with h|h
 ·exact absurd (zA3 h) h1
 obtain ⟨a,b⟩:=h3 (zA3 h);unfold bO;rw[a,b];show (false||_)=false;rw[Bool.false_or,Bool.and_eq_false_iff];rcases Nat.lt_or_ge i u.c1 with h|h
 ·left;cases hb:Nat.ble u.c1 i with
  | false=>rfl
  | true=>have:=zA4 hb;omega
 right;cases hb:Nat.blt i u.c1 with
 | false=>rfl
 | true=>have:i<u.c1:=zA4 hb;omega
theorem fI.YQ {before:List Nat} {did:List Did} (h:fI before did) {m:Nat} (hs:cH 6 m 0 before=true):∀ u∈aD m did,∀ i,bO u i=false:=by
 refine h.look (m:=m) ?_;have key:∀ (l:List Nat) (i:Nat),cH 6 m i l=true→cH 2 m i l=true:=by
  intro l;induction l with
  | nil=>intro i _;rfl
  | cons x l ih=>
   intro i h;unfold cH at h ⊢;rw[Bool.and_eq_true] at h ⊢;exact ⟨h.1,ih _ h.2⟩
 exact key _ _ hs
theorem Hu {o:Oper} {k:Nat} (hk:opK o=k) (h4:k<4):bc o=if k<2 then 0 else if eX o=true then 2 else 1:=by
 obtain ⟨dst,op,type,pos,after,guard⟩:=o;cases op with
 | call c=>
  obtain ⟨ce,as,ts⟩:=c;unfold opK at hk;split at hk <;> first|(subst hk;rename_i h;cases h;rfl)|(subst hk;exact absurd h4 (by decide))|(rename_i h;cases h)
 | _=>first|(subst hk;rfl)|(subst hk;exact absurd (show (4:Nat)<4 from h4) (by decide))
theorem NX {o:Oper} (hk:opK o=3) (hc:eX o=true):∃ d f as ts ty pos af g,o=⟨d,.call ⟨.value f,as,ts⟩,ty,pos,af,g⟩:=by
 obtain ⟨dst,op,type,pos,after,guard⟩:=o;cases op with
 | call c=>
  obtain ⟨ce,as,ts⟩:=c;cases ce with
  | value f=>exact ⟨_,_,_,_,_,_,_,_,rfl⟩
  | invoke _ _=>cases hc
  | builtin _=>cases hc
 | _=>cases hc
theorem Xu {P:Program} {o:Oper} (hk:opK o=3) (hc:eX o=false):US P o:=by
 obtain ⟨dst,op,type,pos,after,guard⟩:=o;cases op with
 | store t a x=>exact OH
 | mapUpdate t m k x=>exact JU
 | call c=>
  obtain ⟨ce,as,ts⟩:=c;unfold opK at hk;split at hk <;> first|exact absurd hk (by decide)|skip
  ·rename_i h;cases h
  ·rename_i h;cases h
  ·rename_i h;cases h;cases hc
  rename_i h;cases h;exact Je
 | _=>cases hk
theorem Hp.ext' {H H':Hp} (h1:H.t=H'.t) (h2:H.nx=H'.nx) (h3:H.log=H'.log):H=H':=by
 cases H;cases H';cases h1;cases h2;cases h3;rfl
section
variable {st:Bool} {E:Env} {A:ab} {H:Hp} {Q:ab→Hp→Prop} {g:Option (Option Tmp×Bool)} {l:List OF} {j m:Nat} {ms:List Nat} {did:List Did} {before:List Nat}
theorem WE.inv {d:Option Tmp} {next:ab→Hp→Prop} {n:ad} (h:WE st E A d next H n):IsEn n∧CS st E H n fun v H'=>next (bq A d v) H':=by
 cases n with
 | enter f as=>exact ⟨trivial,h⟩
 | val v H'=>exact h.elim
 | ox l=>exact h.elim
 | round id args=>exact ⟨trivial,h⟩
 | bad s=>exact h.elim
theorem cI.inv {P:AV→Hp→Prop} {n:ad} (h:cI P n):∃ v H',n=.val v H'∧P v H':=by
 cases n with
 | val v H'=>exact ⟨v,H',rfl,h⟩
 | enter f as=>exact h.elim
 | ox l=>exact h.elim
 | round id args=>exact h.elim
 | bad s=>exact h.elim
theorem SK.val {o:Oper} {next:ab→Hp→Prop} (hc:eX o=false) (h:SK st E o A H next):LTo o A H∧∃ v H',(ao E.P o).run A.tm H=.val v H'∧next (bq A o.dst v) H':=by
 obtain ⟨dst,op,type,pos,after,guard⟩:=o;have key:LTo ⟨dst,op,type,pos,after,guard⟩ A H∧cI (fun v H'=>next (bq A dst v) H') ((ao E.P ⟨dst,op,type,pos,after,guard⟩).run A.tm H):=by
  cases op with
  | call c=>
   obtain ⟨ce,as,ts⟩:=c;cases ce with
   | value f=>cases hc
   | invoke _ _=>exact h
   | builtin _=>exact h
  | _=>exact h
 exact ⟨key.1,key.2.inv⟩
theorem Lu {o:Oper} (hk:bc o=1) (hl:LTo o A H) {us:List Did} (hu:∀ u∈us,∀ i,bO u i=false):Agr o A.tm H ⟨aJ H.t H.nx A.tm o us,H.nx,[]⟩:=
 ⟨rfl,fun x hx id hid=>pP hk (Jk hx) hid (hl.mem hx hid) fun u hm=>hu u hm id⟩
theorem SK.d1 {o:Oper} (hj:before.length=j) (L4:fI before did) (h4:opK o<4) (hs:cH (plK st o) m 0 before=true) (hg:∀ y n:R (ab×Hp),bu A.tm g y n=y) (hd:aq o.dst A.nt=true)
  (h:SK st E o A H fun A H=>∀ did',fI (before++[opK o]) did'→D1 E l (j+1) ms did' A H Q):D1 E (⟨g,o.dst,ao E.P o,o⟩::l) j (m::ms) did A H Q:=by
 have T6:eX o=false→plK st o=opK o:=fun h=>by unfold plK;rw[h,Bool.and_false];rfl
 cases X1:eX o with
 | true=>
  have hk:opK o=3:=by
   obtain ⟨dst,op,type,pos,after,guard⟩:=o;cases op with
   | call c=>
    obtain ⟨ce,as,ts⟩:=c;cases ce with
    | value f=>rfl
    | invoke _ _=>cases X1
    | builtin _=>cases X1
   | _=>cases X1
  obtain ⟨d,f,as,ts,ty,pos,af,gd,rfl⟩:=NX hk X1;have hlk2:bc ⟨d,.call ⟨.value f,as,ts⟩,ty,pos,af,gd⟩=2:=rfl;have hwe:WE st E A d (fun A H=>∀ did',fI (before++[3]) did'→D1 E l (j+1) ms did' A H Q) H ((ao E.P ⟨d,.call ⟨.value f,as,ts⟩,ty,pos,af,gd⟩).run A.tm H):=h;obtain ⟨_,hcn⟩:=WE.inv hwe;have l6:(aD m did).flatMap de=[]:=by
   rw[List.eq_nil_iff_forall_not_mem];intro i hi;obtain ⟨u,hu,hiu⟩:=List.mem_flatMap.1 hi;cases st with
   | false=>
    have a7:cH 3 m 0 before=true:=hs;rw[L4.none a7] at hu;cases hu
   | true=>
    have a7:cH 6 m 0 before=true:=hs;rw[mL,L4.YQ a7 u hu i] at hiu;cases hiu
  have j_:∀ {h':Hp},(st=true→Gr ⟨H.t,H.nx,[]⟩ h')→dZ (aD m did) (cL H.t H.nx h'.log)=true:=fun {h'} hg=>by
   cases st with
   | false=>
    have a7:cH 3 m 0 before=true:=hs;rw[L4.none a7];rfl
   | true=>
    have A_:cL H.t H.nx h'.log=[]:=by
     obtain ⟨lg,e,hl⟩:=(hg rfl).log;rw[List.eq_nil_iff_forall_not_mem];intro i hi;obtain ⟨a1,a2,_⟩:=iS.1 hi;rw[e,List.append_nil] at a1;rcases hl i a1 with h|h
     ·have h':H.nx≤i:=h;omega
     exact h
    rw[A_];exact ez _
  have U0:aJ H.t H.nx A.tm ⟨d,.call ⟨.value f,as,ts⟩,ty,pos,af,gd⟩ (aD m did)=H.t:=by
   unfold aJ;rw[hlk2];show jX H.t ((aD m did).flatMap de)=H.t;rw[l6];rfl
  refine D1.cons hg hd U0 ?_;have E_:(ao E.P ⟨d,.call ⟨.value f,as,ts⟩,ty,pos,af,gd⟩).run A.tm ⟨H.t,H.nx,[]⟩=(ao E.P ⟨d,.call ⟨.value f,as,ts⟩,ty,pos,af,gd⟩).run A.tm H:=rfl;rw[E_];refine (hcn []).mono fun v h' ⟨T0,W1⟩=>⟨j_ T0,?_⟩;rw[hlk2];have e1:cA 2 H h' (aD m did) (cL H.t H.nx h'.log)=h'.t:=by
   show bU h'.t H.t ((aD m did).flatMap de)=h'.t;rw[l6];rfl
  rw[e1];refine W1 (cL H.t H.nx h'.log++H.log) (fun X hf=>⟨hf.nx,hf.get,cL H.t H.nx h'.log,rfl,fun i hi=>?_⟩) _ ?_
  ·obtain ⟨a1,a2,_⟩:=iS.1 hi;obtain ⟨lg,e,hl⟩:=hf.log;rw[e,List.append_nil] at a1;exact hl i a1
  have e2:note 2 j H.t H h' did (cL H.t H.nx h'.log)=⟨j,H.t,H.nx,h'.nx,cL H.t H.nx h'.log⟩::did:=rfl;rw[e2];exact L4.cons hj.symm (by decide) (fun h=>by cases h)
 | false=>
  rw[T6 X1] at hs;generalize hk:opK o=k at h4 hs h;have W5:=Hu hk h4;obtain ⟨hl,v,H',hn,W1⟩:=SK.val X1 h;rw[X1] at W5;match k,hk,h4,hs,W5 with
  | 0,hk,_,hs,W5=>
   rcases Wr hk (P:=E.P) (tm:=A.tm) with ⟨v',hp⟩|hp
   ·have e:=(hp H).symm.trans hn;injection e with e1 e2
    subst e1 e2;exact D1.pure hg hd W5 (hp _) (W1 _ (L4.more 0))
   exact absurd hn (hp _ _ _)
  | 1,hk,_,hs,W5=>
   obtain ⟨x,e1,e2⟩:=UN hk (P:=E.P) (tm:=A.tm) _ _ _ hn;subst e1;refine D1.make hg hd W5 (e2 ⟨.leaf,H.nx,[]⟩ rfl) (W1 _ (L4.cons hj.symm (by decide) (fun h=>by cases h)))
  | 2,hk,_,hs,W5=>
   obtain ⟨e1,e2⟩:=OP hk (P:=E.P) _ _ _ _ hn;subst e1;have hu:=L4.look hs;exact D1.look hg hd W5 (e2 _ (Lu W5 hl hu)) fun sub _=>W1 _ (L4.cons hj.symm (by decide) (fun _=>⟨rfl,rfl⟩))
  | 3,hk,_,hs,W5=>
   have hu:=L4.none hs;have Y5:=Lu (us:=aD m did) W5 hl (by rw[hu];intro u h;cases h);generalize U0:aJ H.t H.nx A.tm o (aD m did)=sub at Y5;refine D1.cons hg hd U0 ?_;have hdo:∀ u:Did,u.idx=j→fI (before++[3]) (u::did):=fun u V6=>L4.cons (V6.trans hj.symm) (by decide) (fun h=>by cases h);rcases Xu hk X1 (P:=E.P) _ _ _ _ hn with ⟨e1,e2⟩|⟨x,e1,e2⟩|⟨id,x,k,e1,ek,⟨y,hy,hyid⟩,e2⟩
   ·rw[e2 _ Y5,hu];subst e1;refine N1.val ⟨rfl,?_⟩;rw[W5];have e3:cA 1 H' ⟨sub,H'.nx,[]⟩ [] []=H'.t:=by
     show bU H'.t sub (cr H'.nx (H'.nx - H'.nx))=H'.t;rw[Nat.sub_self];rfl
    show D1 E l (j+1) ms _ (bq A o.dst v) ⟨cA 1 H' ⟨sub,H'.nx,[]⟩ [] [],H'.nx,[]++H'.log⟩ Q;rw[e3];exact W1 _ (hdo _ rfl)
   ·rw[e2 _ Y5,hu];subst e1;refine N1.val ⟨rfl,?_⟩;rw[W5];have e3:cA 1 H (Hp.new ⟨sub,H.nx,[]⟩ x) [] []=H.t.set H.nx x:=by
     show bU H.t (sub.set H.nx x) (cr H.nx (H.nx+1 - H.nx))=_;have:H.nx+1 - H.nx=1:=by omega
     rw[this];show PT.put ((sub.set H.nx x).get H.nx) H.t H.nx=_;rw[PT.cS,zB0 rfl];rfl
    show D1 E l (j+1) ms _ (bq A o.dst v) ⟨cA 1 H (Hp.new ⟨sub,H.nx,[]⟩ x) [] [],H.nx+1,[]++H.log⟩ Q;rw[e3];exact W1 _ (hdo _ rfl)
   rw[e2 _ Y5,hu];subst e1;have hid:id<H.nx:=hl.mem hy hyid;have A_:cL sub H.nx [id]=[id]:=by
    show Eng.ifE (Nat.blt id H.nx) (ay (sub.get id) (cL sub H.nx []) fun _=>id::cL sub H.nx []) (cL sub H.nx [])=_;have f1:Nat.blt id H.nx=true:=zA5 hid;have f2:sub.get id=some k:=(Y5.2 y hy id hyid).trans ek;rw[f1,f2];rfl
   refine N1.val ⟨rfl,?_⟩;rw[W5];have e3:cA 1 H (Hp.mod ⟨sub,H.nx,[]⟩ id x) [] [id]=H.t.set id x:=by
    show bU H.t (sub.set id x) ([id]++cr H.nx (H.nx - H.nx))=_;rw[Nat.sub_self];show PT.put ((sub.set id x).get id) H.t id=_;rw[PT.cS,zB0 rfl];rfl
   show D1 E l (j+1) ms _ (bq A o.dst v) ⟨cA 1 H (Hp.mod ⟨sub,H.nx,[]⟩ id x) [] (cL sub H.nx [id]),H.nx,cL sub H.nx [id]++H.log⟩ Q;rw[A_,e3];exact W1 _ (hdo _ rfl)
  | k+4,_,h4,_,_=>omega
end
theorem SK.mono {st:Bool} {E:Env} {o:Oper} {A:ab} {H:Hp} {next next':ab→Hp→Prop} (h:SK st E o A H next) (hn:∀ A H,next A H→next' A H):SK st E o A H next':=by
 cases hc:eX o with
 | false=>
  obtain ⟨hl,v,H',h1,h2⟩:=SK.val hc h;obtain ⟨dst,op,type,pos,after,guard⟩:=o;have key:LTo ⟨dst,op,type,pos,after,guard⟩ A H∧cI (fun v H'=>next' (bq A dst v) H') ((ao E.P ⟨dst,op,type,pos,after,guard⟩).run A.tm H):=⟨hl,by rw[h1];exact hn _ _ h2⟩;cases op with
  | call c=>
   obtain ⟨ce,as,ts⟩:=c;cases ce with
   | value f=>cases hc
   | invoke _ _=>exact key
   | builtin _=>exact key
  | _=>exact key
 | true=>
  obtain ⟨dst,op,type,pos,after,guard⟩:=o;cases op with
  | call c=>
   obtain ⟨ce,as,ts⟩:=c;cases ce with
   | value f=>
    obtain ⟨h1,h2⟩:=WE.inv h;show WE st E A dst next' H _;generalize (ao E.P ⟨dst,.call ⟨.value f,as,ts⟩,type,pos,after,guard⟩).run A.tm H=n at h1 h2;cases n with
    | enter fn args=>exact fun lg=>(h2 lg).mono fun v h' q=>⟨q.1,fun lg' hx=>hn _ _ (q.2 lg' hx)⟩
    | round id args=>exact fun lg=>(h2 lg).mono fun v h' q=>⟨q.1,fun lg' hx=>hn _ _ (q.2 lg' hx)⟩
    | _=>exact h1.elim
   | invoke _ _=>cases hc
   | builtin _=>cases hc
  | _=>cases hc
theorem SO.d1 {st:Bool} {E:Env} {ops:List Oper} {Q:ab→Hp→Prop}:∀ {l:List Oper} {j:Nat} {ms:List Nat} {before:List Nat} {did:List Did} {A:ab} {H:Hp},before.length=j→fI before did→BL st before l ms=true→SO st E ops Q l A H→D1 E (fF E.P ops l) j ms did A H Q
 | [],j,ms,_,_,A,H,_,_,_,h=>D1.nil h
 | o::l,j,[],_,_,A,H,_,_,hs,_=>by cases hs
 | o::l,j,m::ms,before,did,A,H,hj,L4,hs,h=>by
  unfold BL at hs;rw[Bool.and_eq_true,Bool.and_eq_true] at hs;obtain ⟨⟨h4,V1⟩,D3⟩:=hs;have h4':opK o<4:=zA4 h4;obtain ⟨hd,hg⟩:=h;have V6:(before++[opK o]).length=j+1:=by simp[hj]
  rcases rS (gOf ops o.guard) A.tm with ⟨h1,h2⟩|⟨h1,h2⟩|h1
  ·rw[h1] at hg;exact SK.d1 hj L4 h4' V1 h2 hd (SK.mono hg fun A' H' hn did' M_=>SO.d1 V6 M_ D3 hn)
  ·rw[h1] at hg;exact D1.skip h2 hd (SO.d1 V6 (L4.more _) D3 hg)
  rw[h1] at hg;exact hg.elim
theorem R1.sq {st:Bool} {E:Env} {r:Option Nat} {A:ab} {H:Hp} {Q:ax→ab→Hp→Prop} {id:Nat} {ops:Array Oper} (hs:mf st ops=true) (h:SO st E ops.toList (fun A H=>Q .normal A H) ops.toList A H):R1 E r (.region id ops true) A H Q:=by
 unfold mf at hs;rw[Bool.and_eq_true] at hs;exact R1.draw hs.1 (SO.d1 rfl (fun u hu=>by cases hu) hs.2 h)
theorem SO.wo {st:Bool} {E:Env} {ops:List Oper} {Q:ab→Hp→Prop}:∀ {l:List Oper} {A:ab} {H:Hp},SO st E ops Q l A H→WO E ops Q l A H
 | [],A,H,h=>h
 | o::l,A,H,⟨hd,hg⟩=>by
  refine ⟨hd,?_⟩;rcases rS (gOf ops o.guard) A.tm with ⟨h1,_⟩|⟨h1,_⟩|h1
  ·rw[h1] at hg ⊢;have M1:SK st E o A H (WO E ops Q l):=SK.mono hg fun A' H' hn=>SO.wo hn;show WT E A o.dst (WO E ops Q l) H ((ao E.P o).run A.tm H);cases hc:eX o with
   | false=>
    obtain ⟨_,v,H',h3,h4⟩:=SK.val hc M1;rw[h3];exact h4
   | true=>
    obtain ⟨dst,op,type,pos,after,guard⟩:=o;cases op with
    | call c=>
     obtain ⟨ce,as,ts⟩:=c;cases ce with
     | value f=>
      obtain ⟨h3,h4⟩:=WE.inv M1;generalize (ao E.P ⟨dst,.call ⟨.value f,as,ts⟩,type,pos,after,guard⟩).run A.tm H=n at h3 h4 ⊢;cases n with
      | enter fn args=>exact CS.cn h4
      | round id args=>exact CS.cn h4
      | _=>exact h3.elim
     | invoke _ _=>cases hc
     | builtin _=>cases hc
    | _=>cases hc
  ·rw[h1] at hg ⊢;exact SO.wo hg
  rw[h1] at hg;exact hg.elim
def SG (st:Bool) (E:Env) (Q:ab→Hp→Prop):List (Option (Option Tmp×Bool))→List Oper→ab→Hp→Prop
 | _,[],A,H=>Q A H
 | [],_::_,_,_=>False
 | g::gs,o::l,A,H=>aq o.dst A.nt=true∧SU st E o A H (SG st E Q gs l) (gw g A.tm)
theorem SU.mono {st:Bool} {E:Env} {o:Oper} {A:ab} {H:Hp} {next next':ab→Hp→Prop} {g:GW} (h:SU st E o A H next g) (hn:∀ A H,next A H→next' A H):SU st E o A H next' g:=by
 cases g with
 | yes=>exact SK.mono h hn
 | no=>exact hn _ _ h
 | lost=>exact h.elim
theorem SG.so {st:Bool} {E:Env} {ops:List Oper} {Q:ab→Hp→Prop}:∀ {l:List Oper} {A:ab} {H:Hp},SG st E Q (l.map fun o=>gOf ops o.guard) l A H→SO st E ops Q l A H
 | [],_,_,h=>h
 | _::_,_,_,⟨h1,h2⟩=>⟨h1,SU.mono h2 fun _ _ h=>SG.so h⟩
def px (v:AV) (f:Bool→Prop):Prop:=match v with|.one (.b b)=>f b|_=>False
theorem DY {b:Bool} {f:Bool→Prop}:px (.one (.b b)) f=f b:=rfl
section
variable {E:Env} {r:Option Nat} {A:ab} {H:Hp} {Q:ax→ab→Hp→Prop} {x y z:Code}
theorem R1.oy {id:Nat} {ops:Array Oper} (h:∀ K:ab→Hp→Prop,(∀ A H,R1 E r z A H Q→K A H)→SG false E K (ops.toList.map fun o=>gOf ops.toList o.guard) ops.toList A H):R1 E r (.seq (.region id ops false) z) A H Q:=
 R1.seq (R1.reg (SO.wo (SG.so (h _ fun _ _ h=>h))))
theorem R1.xG {id:Nat} {ops:Array Oper} (hs:mf false ops=true) (h:∀ K:ab→Hp→Prop,(∀ A H,R1 E r z A H Q→K A H)→SG false E K (ops.toList.map fun o=>gOf ops.toList o.guard) ops.toList A H):R1 E r (.seq (.region id ops true) z) A H Q:=
 R1.seq (R1.sq hs (SG.so (h _ fun _ _ h=>h)))
theorem R1.XV {id:Nat} {ops:Array Oper} (hs:mf true ops=true) (h:∀ K:ab→Hp→Prop,(∀ A H,R1 E r z A H Q→K A H)→SG true E K (ops.toList.map fun o=>gOf ops.toList o.guard) ops.toList A H):R1 E r (.seq (.region id ops true) z) A H Q:=
 R1.seq (R1.sq hs (SG.so (h _ fun _ _ h=>h)))
theorem R1.XK {id:Nat} {ops:Array Oper} (hs:mf true ops=true) (h:∀ K:ab→Hp→Prop,(∀ A H,Q .normal A H→K A H)→SG true E K (ops.toList.map fun o=>gOf ops.toList o.guard) ops.toList A H):R1 E r (.region id ops true) A H Q:=
 R1.sq hs (SG.so (h _ fun _ _ h=>h))
theorem R1.xA {id:Nat} {ops:Array Oper} (h:∀ K:ab→Hp→Prop,(∀ A H,Q .normal A H→K A H)→SG false E K (ops.toList.map fun o=>gOf ops.toList o.guard) ops.toList A H):R1 E r (.region id ops false) A H Q:=
 R1.reg (SO.wo (SG.so (h _ fun _ _ h=>h)))
theorem R1.Br {id:Nat} {ops:Array Oper} (hs:mf false ops=true) (h:∀ K:ab→Hp→Prop,(∀ A H,Q .normal A H→K A H)→SG false E K (ops.toList.map fun o=>gOf ops.toList o.guard) ops.toList A H):R1 E r (.region id ops true) A H Q:=
 R1.sq hs (SG.so (h _ fun _ _ h=>h))
theorem R1.lZ {id:Nat} {ops:Array Oper} {ms:List Nat} (hs:dF ops=true) (hm:dw [] 0 ops.toList=ms) (h:∀ K:ab→Hp→Prop,(∀ A H,Q .normal A H→K A H)→DO E ops.toList K ops.toList 0 ms [] A H):R1 E r (.region id ops true) A H Q:=
 R1.drw hs hm (h _ fun _ _ h=>h)
theorem R1.Rw {c:Operand} {b:Bool} (hc:ev A.tm c=.one (.b b)) (h1:b=true→R1 E r x A H Q) (h2:b=false→R1 E r y A H Q):R1 E r (.cond c x y) A H Q:=by
 refine R1.cond hc ?_;cases b with
 | true=>exact h1 rfl
 | false=>exact h2 rfl
theorem R1.Gt {c:Operand} (h:∀ Kx Ky:Prop,(R1 E r (.seq x z) A H Q→Kx)→(R1 E r (.seq y z) A H Q→Ky)→px (ev A.tm c) fun b=>if b=true then Kx else Ky):R1 E r (.seq (.cond c x y) z) A H Q:=by
 have h:=h _ _ id id;unfold px at h;split at h
 ·rename_i b hc
  cases b with
  | true=>exact R1.Ss hc (fun _=>h) (fun h=>by cases h)
  | false=>exact R1.Ss hc (fun h=>by cases h) (fun _=>h)
 exact h.elim
theorem R1.Gn {c:Operand} (h:∀ Kx Ky:Prop,(R1 E r x A H Q→Kx)→(R1 E r y A H Q→Ky)→px (ev A.tm c) fun b=>if b=true then Kx else Ky):R1 E r (.cond c x y) A H Q:=by
 have h:=h _ _ id id;unfold px at h;split at h
 ·rename_i b hc
  cases b with
  | true=>exact R1.Rw hc (fun _=>h) (fun h=>by cases h)
  | false=>exact R1.Rw hc (fun h=>by cases h) (fun _=>h)
 exact h.elim
theorem di {c:Prop} [Decidable c] {X Y:Prop} (h1:c→X) (h2:¬c→Y):if c then X else Y:=by
 by_cases h:c
 ·rw[zB0 h];exact h1 h
 rw[zB1 h];exact h2 h
theorem R1.Jj (P:ab→Prop) (hp:P A) (h:∀ A2,P A2→R1 E r x A2 H Q):R1 E r x A H Q:=h A hp
theorem R1.gen (P:ab→Hp→Prop) (hp:P A H) (h:∀ A2 H2,P A2 H2→R1 E r x A2 H2 Q):R1 E r x A H Q:=h A H hp
theorem R1.Za (P:ab→Hp→Prop) (h:R1 E r x A H (Thn P Q)) (h2:∀ A2 H2,P A2 H2→R1 E r z A2 H2 Q):R1 E r (.seq x z) A H Q:=by
 refine R1.seq (h.mono fun e A' H' hq=>?_);cases e with
 | normal=>exact h2 _ _ hq
 | exit i=>exact hq
 | ret=>exact hq
theorem R1.Sd {id:Nat} (P:ab→Hp→Prop) (h:∀ K:ax→ab→Hp→Prop,(∀ A H,P A H→K .normal A H)→(∀ A H,P A H→K (.exit id) A H)→(∀ i A H,i≠id→Q (.exit i) A H→K (.exit i) A H)→(∀ A H,Q .ret A H→K .ret A H)→R1 E r x A H K) (h2:∀ A2 H2,P A2 H2→R1 E r z A2 H2 Q):R1 E r (.seq (.block id x) z) A H Q:=
 R1.aU fun K k1 k2 k3 k4=>h K (fun A H hp=>k1 A H (h2 A H hp)) (fun A H hp=>k2 A H (h2 A H hp)) k3 k4
end
section
variable {st:Bool} {E:Env} {Q:ab→Hp→Prop} {gs:List (Option (Option Tmp×Bool))} {l:List Oper} {o:Oper} {A:ab} {H:Hp} {next:ab→Hp→Prop} {g:Option (Option Tmp×Bool)}
theorem TN:SG st E Q gs [] A H=Q A H:=by cases gs <;> rfl
theorem Ms:SG st E Q (g::gs) (o::l) A H=(aq o.dst A.nt=true∧SU st E o A H (SG st E Q gs l) (gw g A.tm)):=rfl
theorem SD:SU st E o A H next .yes=SK st E o A H next:=rfl
theorem WR:SU st E o A H next .no=next (bq A o.dst aF) H:=rfl
theorem Yz {tm:PT AV}:gw none tm=.yes:=rfl
theorem Xa {ops:List Oper}:gOf ops none=none:=rfl
def fT {α:Type} (o:Option α) (f:α→Prop):Prop:=match o with|some a=>f a|none=>False
theorem yM {α:Type} {a:α} {f:α→Prop}:fT (some a) f=f a:=rfl
def Wx (v:AV) (f:Bool→Prop):Prop:=match v with|.one (.b b)=>f b|_=>False
theorem Lc {b:Bool} {f:Bool→Prop}:Wx (.one (.b b)) f=f b:=rfl
def vN (next:ab→Hp→Prop) (A:ab) (d:Option Tmp) (n:ad):Prop:=cI (fun v H'=>next (bq A d v) H') n
theorem Ts {d:Option Tmp} {v:AV} {H':Hp}:vN next A d (.val v H')=next (bq A d v) H':=rfl
def ldN (next:ab→Hp→Prop) (A:ab) (d:Option Tmp) (H:Hp) (o:Option (Bool×Nat)) (v:AV):Prop:=fT o fun p=>vN next A d (bR H p.1 p.2 v)
theorem Es {d:Option Tmp} {a:Bool} {n:Nat} {v:AV}:ldN next A d H (some (a,n)) v=vN next A d (bR H a n v):=rfl
def stN (next:ab→Hp→Prop) (A:ab) (d:Option Tmp) (H:Hp) (o:Option Nat) (a x:AV):Prop:=fT o fun n=>vN next A d (fQ H n x a)
theorem EV {d:Option Tmp} {n:Nat} {a x:AV}:stN next A d H (some n) a x=vN next A d (fQ H n x a):=rfl
def faN (next:ab→Hp→Prop) (A:ab) (d:Option Tmp) (H:Hp) (o:Option (Nat×TypeId×Nat)) (v:AV):Prop:=fT o fun p=>vN next A d (dA H p.1 p.2.2 v)
theorem Fi {d:Option Tmp} {fo t n:Nat} {v:AV}:faN next A d H (some (fo,t,n)) v=vN next A d (dA H fo n v):=rfl
def iaN (next:ab→Hp→Prop) (A:ab) (d:Option Tmp) (H:Hp) (o:Option (TypeId×Nat)) (x i:AV):Prop:=fT o fun p=>vN next A d (ct H p.2 x i)
theorem Hy {d:Option Tmp} {t n:Nat} {x i:AV}:iaN next A d H (some (t,n)) x i=vN next A d (ct H n x i):=rfl
def lnN (next:ab→Hp→Prop) (A:ab) (d:Option Tmp) (H:Hp) (o:Option Nat) (x:AV):Prop:=fT o fun k=>vN next A d (cG H k x)
theorem Ij {d:Option Tmp} {k:Nat} {x:AV}:lnN next A d H (some k) x=vN next A d (cG H k x):=rfl
def pkN (next:ab→Hp→Prop) (A:ab) (d:Option Tmp) (H:Hp) (c x y:AV):Prop:=Wx c fun b=>next (bq A d (if b=true then x else y)) H
theorem WB {d:Option Tmp} {b:Bool} {x y:AV}:pkN next A d H (.one (.b b)) x y=next (bq A d (if b=true then x else y)) H:=rfl
def IE (H:Hp) (o:Option (TypeId×Nat)) (x:AV) (lo hi:Option AV) (alt:ad):ad:=match o with|some p=>cN H p.2 x lo hi alt|none=>alt
theorem tQ {H:Hp} {t n:Nat} {x:AV} {lo hi:Option AV} {alt:ad}:IE H (some (t,n)) x lo hi alt=cN H n x lo hi alt:=rfl
theorem BO {α:Type} {P:AV→Hp→Prop} {o:Option α} {s:String} {f:α→ad}:cI P (nd o s f)=fT o fun a=>cI P (f a):=by cases o <;> rfl
theorem pt {P:AV→Hp→Prop} {b:Bool} {s:String} {n:ad}:cI P (aH b s n)=(b=true∧cI P n):=by
 cases b
 ·exact propext ⟨fun h=>h.elim,fun h=>by cases h.1⟩
 exact propext ⟨fun h=>⟨rfl,h⟩,fun h=>h.2⟩
theorem bZ {α:Type} {P:AV→Hp→Prop} {o:Option α} {s:String} {f:α→SF} {tm:PT AV}:cI P ((ndF o s f).run tm H)=fT o fun a=>cI P ((f a).run tm H):=by cases o <;> rfl
theorem Mp {id g' off lim n:Nat}:ltV (.one (.o (.ptr id g' off lim))) n=(id<n):=propext ⟨fun h=>h id (List.mem_singleton.2 rfl),fun h i hi=>by rw[List.mem_singleton.1 hi];exact h⟩
theorem Bf {id g' off len sz n:Nat}:ltV (.one (.o (.sl id g' off len sz))) n=(id<n):=propext ⟨fun h=>h id (List.mem_singleton.2 rfl),fun h i hi=>by rw[List.mem_singleton.1 hi];exact h⟩
theorem uf {n:Nat}:ltV (.one (.o .nilS)) n=True:=propext ⟨fun _=>trivial,fun _ i hi=>by cases hi⟩
theorem LC {n:Nat} {s:List UInt8}:ltV (.one (.o (.str s))) n=True:=propext ⟨fun _=>trivial,fun _ i hi=>by cases hi⟩
theorem Xb {n:Nat} {k:IntKind} {i:Int}:ltV (.one (.i k i)) n=True:=propext ⟨fun _=>trivial,fun _ i hi=>by cases hi⟩
theorem lC {v:AC} {sz k:Nat} {c:List AC} (h:SlC H v sz k c):ltV (.one v) H.nx:=by
 rcases h.2 with ⟨rfl,_⟩|⟨id,g,off,rfl,hid,_⟩
 ·rw[uf];trivial
 rw[Bf];exact hid
variable {d:Option Tmp} {ty:TypeId} {pos:String} {af:Array Edge} {gd:Option (Nat×Bool)}
theorem kr {p:Prop}:(True∧p)=p:=propext ⟨fun h=>h.2,fun h=>⟨trivial,h⟩⟩
theorem MA {x:Operand}:SK st E ⟨d,.move x,ty,pos,af,gd⟩ A H next=next (bq A d (ev A.tm x)) H:=by cases x <;> exact kr
theorem yr {x:Operand}:SK st E ⟨d,.assign x,ty,pos,af,gd⟩ A H next=next (bq A d (ev A.tm x)) H:=by cases x <;> exact kr
theorem MV {c x y:Operand}:SK st E ⟨d,.pick c x y,ty,pos,af,gd⟩ A H next=pkN next A d H (ev A.tm c) (ev A.tm x) (ev A.tm y):=by
 refine kr.trans ?_;show cI _ (dz (ev A.tm c) (.bad "pick") fun b=>.val (ifE b (ev A.tm x) (ev A.tm y)) H)=_
 cases ev A.tm c with
 | one q=>cases q with
  | b b=>cases b <;> rfl
  | _=>rfl
 | _=>rfl
theorem DA {e:TypeId}:SK st E ⟨d,.alloc e,ty,pos,af,gd⟩ A H next=fT ((aB E.P e).map fun z=>(ofValue z).cells) fun c=>next (bq A d (.one (.o (.ptr H.nx 0 0 c.length)))) (H.new (.arr c e 0 0)):=by
 refine kr.trans ?_;show cI _ ((ndF (aB E.P e) _ _).run A.tm H)=_;rw[bZ];cases aB E.P e with
 | none=>rfl
 | some z=>
  show next (bq A d (.one (.o (.ptr H.nx 0 0 (bw (ofValue z).cells))))) _=_;rw[bj];rfl
theorem Rr {e:TypeId} {x:Operand}:SK st E ⟨d,.box e x,ty,pos,af,gd⟩ A H next=((ev A.tm x).bz=true∧next (bq A d (.one (.o (.ptr H.nx 0 0 (ev A.tm x).cells.length)))) (H.new (.arr (ev A.tm x).cells e 0 0))):=by
 refine kr.trans ?_;show cI _ (aH (ev A.tm x).bz _ (ib H (ev A.tm x).cells e))=_;rw[pt];unfold ib;rw[bj];rfl
theorem Nl {t:TypeId} {x:Operand}:SK st E ⟨d,.load t x,ty,pos,af,gd⟩ A H next=(ltV (ev A.tm x) H.nx∧ldN next A d H (loadT E.P t) (ev A.tm x)):=by
 show (_∧cI _ ((ndF (loadT E.P t) _ _).run A.tm H))=_;rw[bZ];rfl
theorem DZ {t:TypeId} {a x:Operand}:SK st E ⟨d,.store t a x,ty,pos,af,gd⟩ A H next=(ltV (ev A.tm a) H.nx∧stN next A d H (aS E.P t) (ev A.tm a) (ev A.tm x)):=by
 show (_∧cI _ ((ndF (aS E.P t) _ _).run A.tm H))=_;rw[bZ];rfl
theorem PC {op:BinOp} {t:TypeId} {x y:Operand} {c:TypeId}:SK st E ⟨d,.binOp op t x y c,ty,pos,af,gd⟩ A H next=vN next A d (bp H (aP E.P t) op (dV op) (ev A.tm x) (ev A.tm y) (an E.P A.tm H ⟨d,.binOp op t x y c,ty,pos,af,gd⟩)):=kr
theorem PF {t:TypeId} {x:Operand}:SK st E ⟨d,.unOp .not t x,ty,pos,af,gd⟩ A H next=vN next A d (dz (ev A.tm x) (an E.P A.tm H ⟨d,.unOp .not t x,ty,pos,af,gd⟩) fun b=>.val (.one (.b (!b))) H):=kr
theorem IK {a b:TypeId} {x:Operand}:SK st E ⟨d,.convert a b x,ty,pos,af,gd⟩ A H next=vN next A d (an E.P A.tm H ⟨d,.convert a b x,ty,pos,af,gd⟩):=kr
theorem pG {s:TypeId} {x:Operand} {f:Nat}:SK st E ⟨d,.fieldAddr s x f,ty,pos,af,gd⟩ A H next=faN next A d H (aI E.P s f) (ev A.tm x):=by
 refine kr.trans ?_;show cI _ ((ndF (aI E.P s f) _ _).run A.tm H)=_;rw[bZ];rfl
theorem En {s:TypeId} {x:Operand} {f:Nat}:SK st E ⟨d,.field s x f,ty,pos,af,gd⟩ A H next=fT (aI E.P s f) fun p=>fT (mW E.P p.2.1) fun a=>vN next A d (qL H p.1 p.2.2 a (ev A.tm x)):=by
 refine kr.trans ?_;show cI _ ((ndF (aI E.P s f) _ _).run A.tm H)=_;rw[bZ];cases aI E.P s f with
 | none=>rfl
 | some p=>
  show cI _ ((ndF (mW E.P p.2.1) _ _).run A.tm H)=_;rw[bZ];rfl
theorem pX {t:TypeId} {x i:Operand}:SK st E ⟨d,.indexAddr t x i,ty,pos,af,gd⟩ A H next=iaN next A d H (bm E.P t) (ev A.tm x) (ev A.tm i):=by
 refine kr.trans ?_;show cI _ ((ndF (bm E.P t) _ _).run A.tm H)=_;rw[bZ];rfl
theorem Gs {t:TypeId} {x:Operand} {lo hi:Option Operand}:SK st E ⟨d,.slice t x lo hi none,ty,pos,af,gd⟩ A H next=vN next A d (IE H (bm E.P t) (ev A.tm x) (lo.map (ev A.tm)) (hi.map (ev A.tm)) (an E.P A.tm H ⟨d,.slice t x lo hi none,ty,pos,af,gd⟩)):=by
 refine kr.trans ?_;cases he:bm E.P t with
 | none=>
  have:ao E.P ⟨d,.slice t x lo hi none,ty,pos,af,gd⟩=.mk fun tm h=>an E.P tm h ⟨d,.slice t x lo hi none,ty,pos,af,gd⟩:=by simp[ao,he]
  rw[this];rfl
 | some p=>
  have:ao E.P ⟨d,.slice t x lo hi none,ty,pos,af,gd⟩=.mk fun tm h=>cN h p.2 ((opF x).ev tm) (lo.map (ev tm)) (hi.map (ev tm)) (an E.P tm h ⟨d,.slice t x lo hi none,ty,pos,af,gd⟩):=by simp[ao,he]
  rw[this];rfl
theorem wB {x:Operand} {i:Nat}:SK st E ⟨d,.extract x i,ty,pos,af,gd⟩ A H next=vN next A d (cd H (ev A.tm x) i):=kr
theorem tN {x:Operand}:SK st E ⟨d,.nilCheck x,ty,pos,af,gd⟩ A H next=vN next A d (fX H (ev A.tm x)):=kr
theorem tz {f:FuncId} {cs:Array Operand}:SK st E ⟨d,.makeFunc (.func f) #[] cs,ty,pos,af,gd⟩ A H next=fT (ia (evs cs.toList A.tm)) fun c=>next (bq A d (.one (.o (.clo f c)))) H:=by
 refine kr.trans ?_;show cI _ (nd (ia (evs cs.toList A.tm)) _ _)=_;rw[BO];rfl
theorem vR {t:TypeId}:SK st E ⟨d,.makeMap t none,ty,pos,af,gd⟩ A H next=next (bq A d (.one (.o (.mp H.nx)))) (H.new (.oth (.map [] 0))):=kr
theorem qF {t:TypeId} {x c:Operand}:SK st E ⟨d,.makeSlice t x c,ty,pos,af,gd⟩ A H next=vN next A d (gU E.P H t (ev A.tm x) (ev A.tm c)):=kr
theorem Gi {t:TypeId} {ps:Array (Nat×Operand)}:SK st E ⟨d,.build t ps,ty,pos,af,gd⟩ A H next=fT ((aB E.P t).map fun z=>(ofValue z).cells) fun z=>fT (ca E.P t) fun pl=>fT (cC pl ps.toList) fun q=>fT (eZ A.tm q z) fun c=>next (bq A d (.agg c)) H:=by
 refine kr.trans ?_;show cI _ ((ndF (aB E.P t) _ _).run A.tm H)=_;rw[bZ];cases aB E.P t with
 | none=>rfl
 | some z=>
  show cI _ ((ndF (ca E.P t) _ _).run A.tm H)=_;rw[bZ];cases ca E.P t with
  | none=>rfl
  | some pl=>
   show cI _ ((ndF (cC pl ps.toList) _ _).run A.tm H)=fT (cC pl ps.toList) _;rw[bZ];cases cC pl ps.toList with
   | none=>rfl
   | some q=>
    show cI _ (nd (eZ A.tm q (ofValue z).cells) _ _)=_;rw[BO];rfl
theorem oK {t:TypeId} {n:Nat} {ps:Array (Nat×Operand)}:SK st E ⟨d,.buildSlice t n ps,ty,pos,af,gd⟩ A H next=fT (bm E.P t) fun es=>fT ((aB E.P es.1).map fun z=>(ofValue z).cells) fun z=>
  (n*es.2≤16777216∧z.length=es.2)∧fT (cC (fun i=>some (i*es.2,es.2)) ps.toList) fun q=>fT (eZ A.tm q (nq z n)) fun c=>next (bq A d (.one (.o (.sl H.nx 0 0 n es.2)))) (H.new (.arr c es.1 0 0)):=by
 refine kr.trans ?_;show cI _ ((ndF (bm E.P t) _ _).run A.tm H)=_;rw[bZ];cases bm E.P t with
 | none=>rfl
 | some es=>
  show cI _ ((ndF (aB E.P es.1) _ _).run A.tm H)=_;rw[bZ];show fT (aB E.P es.1) _=fT ((aB E.P es.1).map fun z=>(ofValue z).cells) _;cases aB E.P es.1 with
  | none=>rfl
  | some z=>
   show cI _ ((Eng.ifE (both (Nat.ble (Nat.mul n es.2) 16777216) (Nat.beq (bw (ofValue z).cells) es.2)) _ _:SF).run A.tm H)=(_∧_);rw[ck,bj];have hbc:((Nat.ble (Nat.mul n es.2) 16777216&&Nat.beq (ofValue z).cells.length es.2)=true)↔(n*es.2≤16777216∧(ofValue z).cells.length=es.2):=by
    rw[Bool.and_eq_true,Nat.ble_eq,Nat.beq_eq];exact Iff.rfl
   cases hb:(Nat.ble (Nat.mul n es.2) 16777216&&Nat.beq (ofValue z).cells.length es.2) with
   | false=>exact propext ⟨fun h=>h.elim,fun h=>by have:=hbc.2 h.1;rw[hb] at this;cases this⟩
   | true=>
    refine Eq.trans ?_ (propext ⟨fun h=>⟨hbc.1 hb,h⟩,fun h=>h.2⟩);show cI _ ((ndF (cC (fun i=>some (i*es.2,es.2)) ps.toList) _ _).run A.tm H)=_;rw[bZ];cases cC (fun i=>some (i*es.2,es.2)) ps.toList with
    | none=>rfl
    | some q=>
     show cI _ (nd (eZ A.tm q (nq (ofValue z).cells n)) _ _)=_;rw[BO];rfl
theorem QF {x:Operand} {t:TypeId}:SK st E ⟨d,.call ⟨.builtin .len,#[x],#[t]⟩,ty,pos,af,gd⟩ A H next=(ltV (ev A.tm x) H.nx∧lnN next A d H (eu E.P t) (ev A.tm x)):=by
 show (_∧cI _ ((ndF (eu E.P t) _ _).run A.tm H))=_;rw[bZ];rfl
theorem xV {s x:Operand} {t:TypeId}:SK st E ⟨d,.call ⟨.builtin .append,#[s,x],#[t,t]⟩,ty,pos,af,gd⟩ A H next=((ltV (ev A.tm s) H.nx∧ltV (ev A.tm x) H.nx)∧vN next A d (aV E.P H t (ev A.tm s) (ev A.tm x))):=by
 show (_∧cI _ ((Eng.ifE (Nat.beq t t) (.mk fun tm h=>aV E.P h t (ev tm s) (ev tm x)) (kW "append - types"):SF).run A.tm H))=_
 rw[Nat.beq_refl];rfl
theorem Li {f:Operand} {as:Array Operand} {ts:Array TypeId}:SK st E ⟨d,.call ⟨.value f,as,ts⟩,ty,pos,af,gd⟩ A H next=WE st E A d next H (lG E.P (ev A.tm f) (evs as.toList A.tm)):=rfl
theorem oV {P:Program} {f:FuncId} {caps:List (Nat×Nat×Nat×Nat)} {args:List AV} (h:al P f=true):lG P (.one (.o (.clo f caps))) args=.enter f (args++dX caps):=by
 show aH (al P f) _ _=_;rw[h];rfl
theorem vu:ia []=some []:=rfl
theorem tA {id g off lim:Nat} {l:List AV}:ia (.one (.o (.ptr id g off lim))::l)=(ia l).map fun r=>(id,g,off,lim)::r:=by
 show (match ia l with|some r=>some ((id,g,off,lim)::r)|none=>none)=_;cases ia l <;> rfl
theorem tp:dX []=[]:=rfl
theorem pO {id g off lim:Nat} {l:List (Nat×Nat×Nat×Nat)}:dX ((id,g,off,lim)::l)=.one (.o (.ptr id g off lim))::dX l:=rfl
theorem AG {c:AC}:(AV.one c).cells=[c]:=congrArg (fun n=>n) (rfl:[c]=[c])
theorem AY {c:List AC}:(AV.agg c).cells=c:=congrArg (fun n=>n) (rfl:c=c)
theorem zO {c:AC}:(AV.one c).bz=true:=congrArg (fun n=>n) (rfl:true=true)
theorem AK {c:List AC}:(AV.agg c).bz=true:=congrArg (fun n=>n) (rfl:true=true)
theorem YC {c:AC} {l:List (Bool×List AC)}:cd H (.tup ((false,[c])::l)) 0=.val (.one c) H:=rfl
theorem Xc {c:List AC} {l:List (Bool×List AC)}:cd H (.tup ((true,c)::l)) 0=.val (.agg c) H:=rfl
theorem YV {c:AC} {x:Bool×List AC} {l:List (Bool×List AC)}:cd H (.tup (x::(false,[c])::l)) 1=.val (.one c) H:=rfl
theorem WH {c:List AC} {x:Bool×List AC} {l:List (Bool×List AC)}:cd H (.tup (x::(true,c)::l)) 1=.val (.agg c) H:=rfl
theorem YR {c:AC} {x y:Bool×List AC} {l:List (Bool×List AC)}:cd H (.tup (x::y::(false,[c])::l)) 2=.val (.one c) H:=rfl
theorem WM {c:List AC} {x y:Bool×List AC} {l:List (Bool×List AC)}:cd H (.tup (x::y::(true,c)::l)) 2=.val (.agg c) H:=rfl
theorem GH {s:List UInt8}:cG H 0 (.one (.o (.str s)))=.val (.one (.i .i64 (s.length:Int))) H:=by
 show ad.val (Cm (IT s)) H=_;rw[BR];rfl
theorem vP {pl:Nat→Option (Nat×Nat)}:cC pl []=some []:=rfl
theorem tl {pl:Nat→Option (Nat×Nat)} {i:Nat} {x:Operand} {l:List (Nat×Operand)}:cC pl ((i,x)::l)=(pl i).bind fun p=>(cC pl l).map fun r=>(p.1,p.2,opF x)::r:=by
 show (match pl i,cC pl l with|some p,some r=>some ((p.1,p.2,opF x)::r)|_,_=>none)=_;cases pl i <;> cases cC pl l <;> rfl
theorem FQ {tm:PT AV} {c:List AC}:eZ tm [] c=some c:=rfl
theorem xS {tm:PT AV} {o n:Nat} {f:OpF} {l:List (Nat×Nat×OpF)} {c:List AC} (h1:(f.ev tm).cells.length=n) (h2:o+n≤c.length) (h3:(f.ev tm).bz=true):eZ tm ((o,n,f)::l) c=eZ tm l (c.take o++((f.ev tm).cells++c.drop (o+n))):=by
 show Eng.ifE (both (Nat.beq (bw (f.ev tm).cells) n) (both (Nat.ble (Nat.add o n) (bw c)) (f.ev tm).bz)) (eZ tm l (eQ c o (f.ev tm).cells)) none=_;have e2:Nat.ble (Nat.add o n) c.length=true:=zA5 h2;rw[bj,bj,h1,Nat.beq_refl,e2,h3,fz,h1];rfl
theorem rj {z:List AC}:nq z 1=z:=by
 show pd z []=z;induction z with
 | nil=>rfl
 | cons x z ih=>show x::pd z []=_;rw[ih]
theorem rI {id g off len sz i:Nat} {k:IntKind} {alt:ad} (h:i≤len):cN H sz (.one (.o (.sl id g off len sz))) (some (.one (.i k (i:Int)))) none alt=.val (.one (.o (.sl id g (off+i*sz) (len - i) sz))) H:=by
 show aH (both (Nat.beq sz sz) (both (Nat.ble i len) (Nat.ble len len))) _ _=_;rw[Nat.beq_refl,zA5 h,zA5 (zA1 len)];rfl
theorem wF {id g off len sz i:Nat} {k:IntKind} {alt:ad} (h:i≤len):cN H sz (.one (.o (.sl id g off len sz))) none (some (.one (.i k (i:Int)))) alt=.val (.one (.o (.sl id g off i sz))) H:=by
 show aH (both (Nat.beq sz sz) (both (Nat.ble 0 i) (Nat.ble i len))) _ _=_;rw[Nat.beq_refl,zA5 (Nat.zero_le i),zA5 h];show ad.val (.one (.o (.sl id g (off+0*sz) (i - 0) sz))) H=_;rw[Nat.zero_mul,Nat.add_zero,Nat.sub_zero]
theorem tJ {id g off len sz:Nat} (h:0<len):ct H sz (.one (.o (.sl id g off len sz))) (.one (.i .i64 0))=.val (.one (.o (.ptr id g off sz))) H:=by
 have:=eD (H:=H) (id:=id) (g:=g) (off:=off) (sz:=sz) (i:=0) h;rw[Nat.zero_mul,Nat.add_zero] at this;exact this
theorem Lv {id g off len sz:Nat} {k:IntKind} {alt:ad} (h:1≤len):cN H sz (.one (.o (.sl id g off len sz))) (some (.one (.i k 1))) none alt=.val (.one (.o (.sl id g (off+1*sz) (len - 1) sz))) H:=rI h
theorem Qc {id g off n sz:Nat}:cG H 1 (.one (.o (.sl id g off n sz)))=.val (.one (.i .i64 (n:Int))) H:=rfl
theorem QP:cG H 1 (.one (.o .nilS))=.val (.one (.i .i64 0)) H:=rfl
end
section
variable {P:Program} {tm:PT AV} {H:Hp} {d:Option Tmp} {ty:TypeId} {pos:String} {af:Array Edge} {g:Option (Nat×Bool)}
def ndN {α:Type} (o:Option α) (f:α→ad):ad:=match o with|some a=>f a|none=>.bad "lacks"
theorem FU {α:Type} {a:α} {f:α→ad}:ndN (some a) f=f a:=rfl
def ldS (H:Hp) (o:Option (Bool×Nat)) (v:AV):ad:=match o with|some p=>bR H p.1 p.2 v|none=>.bad "load - type"
theorem EU {a:Bool} {n:Nat} {v:AV}:ldS H (some (a,n)) v=bR H a n v:=rfl
theorem Hf {t:TypeId} {x:Operand}:(ao P ⟨d,.load t x,ty,pos,af,g⟩).run tm H=ldS H (loadT P t) (ev tm x):=by
 show (ndF (loadT P t) _ _).run tm H=_;cases loadT P t <;> rfl
def stS (H:Hp) (o:Option Nat) (a x:AV):ad:=match o with|some n=>fQ H n x a|none=>.bad "store - type"
theorem Im {n:Nat} {a x:AV}:stS H (some n) a x=fQ H n x a:=rfl
theorem AQ {t:TypeId} {a x:Operand}:(ao P ⟨d,.store t a x,ty,pos,af,g⟩).run tm H=stS H (aS P t) (ev tm a) (ev tm x):=by
 show (ndF (aS P t) _ _).run tm H=_;cases aS P t <;> rfl
def alS (H:Hp) (e:TypeId) (o:Option (List AC)):ad:=match o with|some c=>.val (.one (.o (.ptr H.nx 0 0 c.length))) (H.new (.arr c e 0 0))|none=>.bad "alloc - zero"
theorem Hl {e:TypeId} {c:List AC}:alS H e (some c)=.val (.one (.o (.ptr H.nx 0 0 c.length))) (H.new (.arr c e 0 0)):=rfl
theorem Af {e:TypeId}:(ao P ⟨d,.alloc e,ty,pos,af,g⟩).run tm H=alS H e ((aB P e).map fun z=>(ofValue z).cells):=by
 show (ndF (aB P e) _ _).run tm H=_;cases aB P e with
 | none=>rfl
 | some z=>
  show ib H (ofValue z).cells e=_;unfold ib;rw[bj];rfl
theorem xI {t:TypeId} {x:Operand} {lo hi:Option Operand}:(ao P ⟨d,.slice t x lo hi none,ty,pos,af,g⟩).run tm H=IE H (bm P t) (ev tm x) (lo.map (ev tm)) (hi.map (ev tm)) (an P tm H ⟨d,.slice t x lo hi none,ty,pos,af,g⟩):=by
 cases he:bm P t with
 | none=>
  have:ao P ⟨d,.slice t x lo hi none,ty,pos,af,g⟩=.mk fun tm h=>an P tm h ⟨d,.slice t x lo hi none,ty,pos,af,g⟩:=by simp[ao,he]
  rw[this];rfl
 | some p=>
  have:ao P ⟨d,.slice t x lo hi none,ty,pos,af,g⟩=.mk fun tm h=>cN h p.2 ((opF x).ev tm) (lo.map (ev tm)) (hi.map (ev tm)) (an P tm h ⟨d,.slice t x lo hi none,ty,pos,af,g⟩):=by simp[ao,he]
  rw[this];rfl
def iaS (H:Hp) (o:Option (TypeId×Nat)) (x i:AV):ad:=match o with|some p=>ct H p.2 x i|none=>.bad "indexAddr - type"
theorem FR {t n:Nat} {x i:AV}:iaS H (some (t,n)) x i=ct H n x i:=rfl
theorem oM {t:TypeId} {x i:Operand}:(ao P ⟨d,.indexAddr t x i,ty,pos,af,g⟩).run tm H=iaS H (bm P t) (ev tm x) (ev tm i):=by
 show (ndF (bm P t) _ _).run tm H=_;cases bm P t <;> rfl
def faS (H:Hp) (o:Option (Nat×TypeId×Nat)) (x:AV):ad:=match o with|some p=>dA H p.1 p.2.2 x|none=>.bad "fieldAddr - type"
theorem Hr {fo t n:Nat} {x:AV}:faS H (some (fo,t,n)) x=dA H fo n x:=rfl
theorem oD {s:TypeId} {x:Operand} {f:Nat}:(ao P ⟨d,.fieldAddr s x f,ty,pos,af,g⟩).run tm H=faS H (aI P s f) (ev tm x):=by
 show (ndF (aI P s f) _ _).run tm H=_;cases aI P s f <;> rfl
end
section
variable {H:Hp} {o:aK} {i k a b c:Nat}
theorem aG (h:i=H.nx):(H.new o).get i=some o:=by rw[Fh,zB0 h]
theorem aZ (h:i<H.nx):(H.new o).get i=H.get i:=by rw[Fh,zB1 (by omega)]
theorem aj (h:i=k):(H.mod k o).get i=some o:=by rw[FO,zB0 h]
theorem az (h:i≠k):(H.mod k o).get i=H.get i:=by rw[FO,zB1 h]
theorem Ku (tm:PT AV) (t:Nat):ev tm (.tmp t)=slot tm t:=congrArg (fun n=>n) (rfl:slot tm t=slot tm t)
theorem WY (tm:PT AV) (x:Operand):(opF x).ev tm=ev tm x:=congrArg (fun n=>n) (rfl:ev tm x=ev tm x)
theorem YM {n:Nat}:((0:Int)<((n+1:Nat):Int))=True:=eq_true (by omega)
theorem Ys {n:Nat}:((((n+1:Nat):Int))==0)=false:=beq_eq_false_iff_ne.2 (by omega)
theorem Mo:(((0:Nat):Int))=0:=congrArg (fun n=>n) (rfl:(0:Int)=0)
theorem gN:(H.new o).nx=H.nx+1:=congrArg (fun n=>n) (rfl:H.nx+1=H.nx+1)
theorem mb:(H.mod k o).nx=H.nx:=congrArg (fun n=>n) (rfl:H.nx=H.nx)
theorem Mn (h:a<b):(a<b+c)=True:=eq_true (by omega)
theorem RL (h:0<c):(a<a+c)=True:=eq_true (by omega)
theorem Yy (h:a<b):(a=b)=False:=eq_false (by omega)
theorem Yw (h:b<a):(a=b)=False:=eq_false (by omega)
theorem Xd (h:a<b):(a=b+c)=False:=eq_false (by omega)
theorem WZ (h:b<a):(a+c=b)=False:=eq_false (by omega)
theorem MB (h:0<c):(a=a+c)=False:=eq_false (by omega)
theorem MD (h:0<c):(a+c=a)=False:=eq_false (by omega)
theorem YW (h:b≠c):(a+b=a+c)=False:=eq_false (by omega)
theorem YN:(a+b<a+c)=(b<c):=propext (by omega)
end
theorem au {n:Int} (h1:-9223372036854775808≤n) (h2:n≤9223372036854775807):IntKind.i64.wrap n=n:=by rw[IntKind.wrap_i64];omega
def Con (E:Env) (f:FuncId) (args:List AV) (H:Hp) (X:Nat→Prop) (Q:AV→Hp→Prop):Prop:=
 ∀ lg,N1 E ⟨H.t,H.nx,lg⟩ (.enter f args) fun v h'=>Fr X ⟨H.t,H.nx,lg⟩ h'∧∀ lg',Q v ⟨h'.t,h'.nx,lg'⟩
section
variable {E:Env} {f:FuncId} {args:List AV} {H:Hp} {X:Nat→Prop} {Q:AV→Hp→Prop}
theorem Con.cn {next:AV→Hp→Prop} (h:Con E f args H X Q) (hn:∀ v H',Fr X H H'→Q v H'→next v H'):CN E H (.enter f args) next:=fun lg=>
 (h lg).mono fun v h' ⟨h1,h2⟩ lg' hx=>hn _ _ (hx X h1) (h2 lg')
theorem WE.con {A:ab} {d:Option Tmp} {next:ab→Hp→Prop} (h:Con E f args H X Q) (hn:∀ v H',Fr X H H'→Q v H'→next (bq A d v) H'):WE false E A d next H (.enter f args):=fun lg=>
 (h lg).mono fun _ _ ⟨h1,h2⟩=>⟨fun h=>(by cases h),fun lg' hx=>hn _ _ (hx X h1) (h2 lg')⟩
theorem WE.Pm {st:Bool} {A:ab} {d:Option Tmp} {next:ab→Hp→Prop} (h:Con E f args H (fun _=>False) Q) (hn:∀ v H',Gr H H'→Q v H'→next (bq A d v) H'):WE st E A d next H (.enter f args):=fun lg=>
 (h lg).mono fun _ _ ⟨h1,h2⟩=>⟨fun _=>h1,fun lg' hx=>hn _ _ (hx _ h1) (h2 lg')⟩
theorem WE.fE {st:Bool} {A:ab} {d:Option Tmp} {next:ab→Hp→Prop} {v:AV} (hp:E.fE f args=some v) (hn:∀ H',Gr H H'→H'.nx=H.nx→(∀ i,H'.get i=H.get i)→next (bq A d v) H'):WE st E A d next H (.enter f args):=fun lg=>
 N1.fE hp ⟨fun _=>Fr.refl _,fun lg' hx=>hn ⟨H.t,H.nx,lg'⟩ (hx _ (Fr.refl _)) rfl fun _=>rfl⟩
theorem ub {st:Bool} {o:Oper} {A:ab} {next:ab→Hp→Prop} {c:Prop} [Decidable c] (h1:c→SU st E o A H next .yes) (h2:¬c→SU st E o A H next .no):SU st E o A H next (if c then .yes else .no):=by
 by_cases h:c
 ·rw[zB0 h];exact h1 h
 rw[zB1 h];exact h2 h
theorem Con.of (hp:E.fE f args=none) (h:∀ lg,C1 E f args ⟨H.t,H.nx,lg⟩ fun v h'=>Fr X ⟨H.t,H.nx,lg⟩ h'∧∀ lg',Q v ⟨h'.t,h'.nx,lg'⟩):Con E f args H X Q:=fun lg=>N1.call hp (h lg)
theorem Con.fE {v:AV} (hp:E.fE f args=some v) (h:∀ lg,Q v ⟨H.t,H.nx,lg⟩):Con E f args H X Q:=fun lg=>N1.fE hp ⟨Fr.refl _,h⟩
end
theorem aN {α β:Type} {P:Program} (f:α→Sem β):∀ x:Sem α,aw P (x.bind f)=(aw P x).bind fun a=>aw P (f a)
 | .pure a=>rfl
 | .load _ _ _=>rfl
 | .store _ _ _ _=>rfl
 | .new _ _=>rfl
 | .shape _ _=>rfl
 | .freeze _ _ _=>rfl
 | .frozen _ _=>rfl
 | .getObj _ _=>rfl
 | .setObj _ _ _=>rfl
 | .choose _ _=>rfl
 | .sys _ _=>rfl
 | .program k=>aN f (k P)
 | .mark _ k=>aN f k
 | .halt _=>rfl
theorem ba {α β:Type} {P:Program} (f:α→Sem β) (x:Sem α):aw P (x >>= f)=(aw P x).bind fun a=>aw P (f a):=aN f x
theorem OY {P:Program} {t:TypeId} {n:Nat} (h:aw P (underlying t)=some .string) (a b:ByteArray):aw P (Op.equalIn (n+1) t (.string a) (.string b))=some (a==b):=by
 unfold Op.equalIn;rw[ba,h];rfl
theorem eq_int {P:Program} {t:TypeId} {n:Nat} {k:IntKind} (h:aw P (underlying t)=some (.int k)) (k':IntKind) (a b:Int):aw P (Op.equalIn (n+1) t (.int k' a) (.int k' b))=some (a==b):=by
 unfold Op.equalIn;rw[ba,h];show aw P (if k'=k' then pure (a==b) else _)=_;rw[zB0 rfl];rfl
theorem Lt {P:Program} {t:TypeId} {n:Nat} (h:aw P (underlying t)=some .bool) (a b:Bool):aw P (Op.equalIn (n+1) t (.bool a) (.bool b))=some (a==b):=by
 unfold Op.equalIn;rw[ba,h];rfl
theorem tO {P:Program} (g:Field→Sem Bool):∀ (fs:List Field) (bs:List Bool),(∀ f∈fs,f.name ≠ "_")→fs.map (fun f=>aw P (g f))=bs.map some →
  aw P (forIn fs ((none,()):Option Bool×Unit) fun f __s=>(if f.name ≠ "_" then (g f).bind fun b=>if (!b)=true then pure (ForInStep.done (some false,())) else pure (ForInStep.yield (none,())) else pure (ForInStep.yield (none,())):Sem (ForInStep (Option Bool×Unit)))) =
   some (if bs.all id=true then (none,()) else (some false,()))
 | [],[],_,_=>rfl
 | [],_::_,_,h=>by cases h
 | _::_,[],_,h=>by cases h
 | f::fs,b::bs,hn,h=>by
  simp only[List.map_cons,List.cons.injEq] at h;have ih:=tO g fs bs (fun f hf=>hn f (List.mem_cons_of_mem _ hf)) h.2;rw[List.forIn_cons,ba,zB0 (hn f (List.mem_cons_self ..)),aN,h.1];simp only[Option.bind_some];cases b with
  | false=>rfl
  | true=>
   show aw P _=_;refine ih.trans ?_;rfl
theorem OI {P:Program} {t:TypeId} {n:Nat} {fs:Array Field} (h:aw P (underlying t)=some (.struct fs)) (hs:P.stoodInHeld t=false) (hn:∀ f∈fs.toList,f.name ≠ "_") (xs ys:Array Value) (bs:List Bool)
  (hf:fs.toList.map (fun f=>aw P ((part f.type xs f.offset).bind fun a=>(part f.type ys f.offset).bind fun b=>Op.equalIn n f.type a b))=bs.map some):
  aw P (Op.equalIn (n+1) t (.agg xs) (.agg ys))=some (bs.all id):=by
 unfold Op.equalIn;rw[ba,h];simp only[Option.bind_some];rw[ba];have hp:aw P program=some P:=rfl;rw[hp];simp only[Option.bind_some,hs];rw[zB1 (by decide),ba];have key:=tO (P:=P) (fun f=>(part f.type xs f.offset).bind fun a=>(part f.type ys f.offset).bind fun b=>Op.equalIn n f.type a b) fs.toList bs hn hf;have e:aw P (forIn fs ((none,()):Option Bool×Unit) fun f __s=>(if f.name ≠ "_" then do
        let __do_lift ←part f.type xs f.offset
        let __do_lift_1 ←part f.type ys f.offset
        let __do_lift ←Op.equalIn n f.type __do_lift __do_lift_1
        if (!__do_lift)=true then pure (ForInStep.done (some false,()))
         else pure (ForInStep.yield (none,()))
       else pure (ForInStep.yield (none,())):Sem (ForInStep (Option Bool×Unit))))=some (if bs.all id=true then (none,()) else (some false,())):=by
  rw[←key,←Array.forIn_toList];congr 2
  funext f s
  split
  ·show Sem.bind _ _=Sem.bind _ _;have asc:∀ {α β γ:Type} (x:Sem α) (f:α→Sem β) (g:β→Sem γ),(x.bind f).bind g=x.bind fun a=>(f a).bind g:=by
    intro α β γ x f g;induction x with
    | pure a=>rfl
    | load m a k ih=>simp only[Sem.bind,ih]
    | store m a v k ih=>simp only[Sem.bind,ih]
    | new o k ih=>simp only[Sem.bind,ih]
    | shape r k ih=>simp only[Sem.bind,ih]
    | freeze a n k ih=>simp only[Sem.bind,ih]
    | frozen a k ih=>simp only[Sem.bind,ih]
    | getObj r k ih=>simp only[Sem.bind,ih]
    | setObj r o k ih=>simp only[Sem.bind,ih]
    | choose q k ih=>simp only[Sem.bind,ih]
    | sys c k ih=>simp only[Sem.bind,ih]
    | program k ih=>simp only[Sem.bind,ih]
    | mark m k ih=>simp only[Sem.bind,ih]
    | halt h=>rfl
   rw[asc];congr 1
   funext a
   rw[asc];rfl
  rfl
 rw[e];cases hb:bs.all id <;> rfl
theorem bL {P:Program} {t:TypeId} {d:TypeDesc} (h:P.underlying t=some d):aw P (underlying t)=some d:=by
 show aw P (match P.underlying t with|some d=>pure d|none=>stuck "no such type")=_
 rw[h];rfl
inductive FK where
 | s
 | i
 | b
def jP (P:Program):Nat→List Field→Option (List FK)
 | _,[]=>some []
 | i,f::fs=>
  bif f.name == "_" || !(f.offset==i) then none else
  match P.underlying f.type with
  | some .string=>(jP P (i+1) fs).map (.s::·)
  | some (.int _)=>(jP P (i+1) fs).map (.i::·)
  | some .bool=>(jP P (i+1) fs).map (.b::·)
  | _=>none
def eqK (P:Program) (t:TypeId):Option (List FK):=
 match P.underlying t with
 | some (.struct fs)=>bif P.stoodInHeld t||P.eqGuardType P.depth t then none else jP P 0 fs.toList
 | _=>none
def dm:List FK→List AC→List AC→Option Bool
 | [],[],[]=>some true
 | .s::ks,.o (.str a)::l,.o (.str b)::l'=>(dm ks l l').map fun r=>a==b&&r
 | .i::ks,.i k n::l,.i k' m::l'=>if k=k' then (dm ks l l').map fun r=>n==m&&r else none
 | .b::ks,.b x::l,.b y::l'=>(dm ks l l').map fun r=>x==y&&r
 | _,_,_=>none
theorem rY:dm [] [] []=some true:=rfl
theorem Df {ks:List FK} {a b:List UInt8} {l l':List AC}:dm (.s::ks) (.o (.str a)::l) (.o (.str b)::l')=(dm ks l l').map fun r=>a==b&&r:=rfl
theorem Db {ks:List FK} {k:IntKind} {a b:Int} {l l':List AC}:dm (.i::ks) (.i k a::l) (.i k b::l')=(dm ks l l').map fun r=>a==b&&r:=by
 show (if k=k then _ else _)=_;rw[zB0 rfl]
theorem De {ks:List FK} {a b:Bool} {l l':List AC}:dm (.b::ks) (.b a::l) (.b b::l')=(dm ks l l').map fun r=>a==b&&r:=rfl
theorem Hw {P:Program} {t:TypeId} {d:TypeDesc} (h:P.underlying t=some d) (hd:∀ fs,d≠.struct fs) (hd2:∀ n e,d≠.array n e) (cs:Array Value) (off:Nat) (v:Value) (hv:cs[off]?=some v):aw P (part t cs off)=some v:=by
 unfold part;rw[ba];have:aw P (isAgg t)=some false:=by
  unfold isAgg;rw[ba,bL h];cases d <;> first|rfl|exact absurd rfl (hd _)|exact absurd rfl (hd2 _ _)
 rw[this];simp only[Option.bind_some,hv];rfl
theorem vG (a b:List UInt8):((⟨a.toArray⟩:ByteArray)==⟨b.toArray⟩)=(a==b):=by
 show (a.toArray==b.toArray)=_;simp
theorem Fp {P:Program} {n:Nat}:∀ (fs:List Field) (i:Nat) (ks:List FK) (l l':List AC) (r:Bool) (us us' vs vs':List Value),jP P i fs=some ks→dm ks l l'=some r→aX l=some vs→aX l'=some vs'→us.length=i→us'.length=i →
  (∀ f∈fs,f.name ≠ "_")∧∃ bs:List Bool,fs.map (fun f=>aw P ((part f.type (us++vs).toArray f.offset).bind fun a=>(part f.type (us'++vs').toArray f.offset).bind fun b=>Op.equalIn (n+1) f.type a b))=bs.map some∧bs.all id=r
 | [],i,ks,l,l',r,us,us',vs,vs',h,he,hv,X2,_,_=>by
  cases h
  cases l <;> cases l' <;> first|(cases he;done)|(cases he;exact ⟨fun f hf=>(by cases hf),[],rfl,rfl⟩)
 | f::fs,i,ks,l,l',r,us,us',vs,vs',h,he,hv,X2,hu,hu'=>by
  unfold jP at h;cases hc:(f.name == "_" || !(f.offset==i)) with
  | true=>rw[hc] at h;cases h
  | false=>
   rw[hc] at h;rw[Bool.or_eq_false_iff] at hc;have hname:f.name ≠ "_" := fun e=>by rw[e] at hc;exact absurd hc.1 (by decide)
   have N':f.offset=i:=by simpa using hc.2
   simp only[cond_false] at h;have step:∀ (d:TypeDesc) (v v':Value) (ws ws':List Value) (ks':List FK) (m m':List AC) (b r':Bool),P.underlying f.type=some d→(∀ fs,d≠.struct fs)→(∀ n e,d≠.array n e)→aw P (Op.equalIn (n+1) f.type v v')=some b→vs=v::ws→vs'=v'::ws' →
     jP P (i+1) fs=some ks'→dm ks' m m'=some r'→aX m=some ws→aX m'=some ws'→(b&&r')=r →
     (∀ f'∈f::fs,f'.name ≠ "_")∧∃ bs:List Bool,(f::fs).map (fun f=>aw P ((part f.type (us++vs).toArray f.offset).bind fun a=>(part f.type (us'++vs').toArray f.offset).bind fun b=>Op.equalIn (n+1) f.type a b))=bs.map some∧bs.all id=r:=by
    intro d v v' ws ws' ks' m m' b r' hd h1 h2 hb e1 e2 hk hm hw U1 hr;subst e1 e2;obtain ⟨ih1,bs,ih2,ih3⟩:=Fp (P:=P) (n:=n) fs (i+1) ks' m m' r' (us++[v]) (us'++[v']) ws ws' hk hm hw U1 (by simp[hu]) (by simp[hu']);refine ⟨fun f' v_=>?_,b::bs,?_,?_⟩
    ·rcases List.mem_cons.1 v_ with rfl|v_
     ·exact hname
     exact ih1 f' v_
    ·rw[List.map_cons,List.map_cons,aN,Hw hd h1 h2 _ _ v (by rw[N'];simp[←hu])];simp only[Option.bind_some];rw[aN,Hw hd h1 h2 _ _ v' (by rw[N'];simp[←hu'])];simp only[Option.bind_some];rw[hb];have:us++[v]++ws=us++v::ws:=by simp
     rw[this] at ih2;have:us'++[v']++ws'=us'++v'::ws':=by simp
     rw[this] at ih2;rw[ih2]
    rw[List.all_cons,ih3];exact hr
   have cons1:∀ {c:AC} {m:List AC} {v:Value},c.val?=some v→aX (c::m)=some vs→∃ ws,vs=v::ws∧aX m=some ws:=by
    intro c m v h1 h2;unfold aX at h2;rw[h1] at h2;cases hm:aX m with
    | none=>rw[hm] at h2;cases h2
    | some ws=>rw[hm] at h2;cases h2;exact ⟨ws,rfl,rfl⟩
   have cons2:∀ {c:AC} {m:List AC} {v:Value},c.val?=some v→aX (c::m)=some vs'→∃ ws,vs'=v::ws∧aX m=some ws:=by
    intro c m v h1 h2;unfold aX at h2;rw[h1] at h2;cases hm:aX m with
    | none=>rw[hm] at h2;cases h2
    | some ws=>rw[hm] at h2;cases h2;exact ⟨ws,rfl,rfl⟩
   cases hd:P.underlying f.type with
   | none=>rw[hd] at h;cases h
   | some d=>
    rw[hd] at h;cases hk:jP P (i+1) fs with
    | none=>rw[hk] at h;cases d <;> cases h
    | some ks'=>
     rw[hk] at h;cases d with
     | string=>
      have h2:FK.s::ks'=ks:=Option.some.inj h;subst h2;unfold dm at he;split at he <;> first|(cases he;done)|skip
      ·rename_i e;cases e
      ·rename_i e
       cases e
       rename_i a m b m'
       obtain ⟨ws,e1,hw⟩:=cons1 (v:=.string ⟨a.toArray⟩) rfl hv;obtain ⟨ws',e2,U1⟩:=cons2 (v:=.string ⟨b.toArray⟩) rfl X2;cases hr:dm ks' m m' with
       | none=>rw[hr] at he;cases he
       | some r'=>
        rw[hr] at he;cases he
        exact step .string _ _ ws ws' ks' m m' (a==b) r' hd (fun _ h=>by cases h) (fun _ _ h=>by cases h) (by rw[OY (bL hd),vG]) e1 e2 hk hr hw U1 rfl
      ·rename_i e;cases e
      rename_i e;cases e
     | int kk=>
      have h2:FK.i::ks'=ks:=Option.some.inj h;subst h2;unfold dm at he;split at he <;> first|(cases he;done)|skip
      ·rename_i e;cases e
      ·rename_i e;cases e
      ·rename_i e
       cases e
       rename_i k a m k' b m'
       split at he
       ·rename_i ek
        subst ek;obtain ⟨ws,e1,hw⟩:=cons1 (v:=.int k a) rfl hv;obtain ⟨ws',e2,U1⟩:=cons2 (v:=.int k b) rfl X2;cases hr:dm ks' m m' with
        | none=>rw[hr] at he;cases he
        | some r'=>
         rw[hr] at he;cases he
         exact step (.int kk) _ _ ws ws' ks' m m' (a==b) r' hd (fun _ h=>by cases h) (fun _ _ h=>by cases h) (eq_int (bL hd) k a b) e1 e2 hk hr hw U1 rfl
       cases he
      rename_i e;cases e
     | bool=>
      have h2:FK.b::ks'=ks:=Option.some.inj h;subst h2;unfold dm at he;split at he <;> first|(cases he;done)|skip
      ·rename_i e;cases e
      ·rename_i e;cases e
      ·rename_i e;cases e
      rename_i e
      cases e
      rename_i a m b m'
      obtain ⟨ws,e1,hw⟩:=cons1 (v:=.bool a) rfl hv;obtain ⟨ws',e2,U1⟩:=cons2 (v:=.bool b) rfl X2;cases hr:dm ks' m m' with
      | none=>rw[hr] at he;cases he
      | some r'=>
       rw[hr] at he;cases he
       exact step .bool _ _ ws ws' ks' m m' (a==b) r' hd (fun _ h=>by cases h) (fun _ _ h=>by cases h) (Lt (bL hd) a b) e1 e2 hk hr hw U1 rfl
     | _=>cases h
def bD (P:Program) (tm:PT AV) (h:Hp) (o:Oper):ad:=an P tm h o
def RY (ks:List FK) (f:Bool→Bool) (H:Hp) (alt:ad) (x y:AV):ad:=
 match x,y with
 | .agg l,.agg l'=>match dm ks l l' with|some b=>.val (.one (.b (f b))) H|none=>alt
 | _,_=>alt
def YE (f:Bool→Bool) (H:Hp) (alt:ad) (o:Option Bool):ad:=match o with|some b=>.val (.one (.b (f b))) H|none=>alt
theorem AI {f:Bool→Bool} {H:Hp} {alt:ad} {b:Bool}:YE f H alt (some b)=.val (.one (.b (f b))) H:=rfl
theorem FD {ks:List FK} {f:Bool→Bool} {H:Hp} {alt:ad} {l l':List AC}:RY ks f H alt (.agg l) (.agg l')=YE f H alt (dm ks l l'):=rfl
theorem tX {P:Program} {op:BinOp} {t:TypeId} {x y:Operand} {a b:Array Value} (hg:P.eqGuardType P.depth t=false):aw P (eqGuard op t x y (.agg a) (.agg b))=some ():=by
 unfold eqGuard;cases op <;> first
  | rfl
  | (show aw P (Sem.bind _ _)=_
     rw[aN];show aw P (if (!P.eqGuardType P.depth t)=true then _ else _)=_;rw[hg];rfl)
theorem VA {ks:List FK}:∀ {l l':List AC} {r:Bool},dm ks l l'=some r→(∃ vs,aX l=some vs)∧(∃ vs,aX l'=some vs)∧(aX l).isSome=true:=by
 induction ks with
 | nil=>
  intro l l' r h;cases l <;> cases l' <;> first|(cases h;done)|exact ⟨⟨[],rfl⟩,⟨[],rfl⟩,rfl⟩
 | cons k ks ih=>
  intro l l' r h;unfold dm at h;split at h <;> first|(cases h;done)|skip
  ·rename_i e;cases e
  ·rename_i e;cases e
   rename_i a m b m'
   cases hr:dm ks m m' with
   | none=>rw[hr] at h;cases h
   | some r'=>
    obtain ⟨⟨vs,h1⟩,⟨vs',h2⟩,_⟩:=ih hr;exact ⟨⟨.string ⟨a.toArray⟩::vs,by simp only[aX,AC.val?,h1]⟩,⟨.string ⟨b.toArray⟩::vs',by simp only[aX,AC.val?,h2]⟩,by simp only[aX,AC.val?,h1];rfl⟩
  ·rename_i e;cases e
   rename_i k a m k' b m'
   split at h
   ·cases hr:dm ks m m' with
    | none=>rw[hr] at h;cases h
    | some r'=>
     obtain ⟨⟨vs,h1⟩,⟨vs',h2⟩,_⟩:=ih hr;exact ⟨⟨.int k a::vs,by simp only[aX,AC.val?,h1]⟩,⟨.int k' b::vs',by simp only[aX,AC.val?,h2]⟩,by simp only[aX,AC.val?,h1];rfl⟩
   cases h
  rename_i e;cases e
  rename_i a m b m'
  cases hr:dm ks m m' with
  | none=>rw[hr] at h;cases h
  | some r'=>
   obtain ⟨⟨vs,h1⟩,⟨vs',h2⟩,_⟩:=ih hr;exact ⟨⟨.bool a::vs,by simp only[aX,AC.val?,h1]⟩,⟨.bool b::vs',by simp only[aX,AC.val?,h2]⟩,by simp only[aX,AC.val?,h1];rfl⟩
theorem yK {P:Program} {t:TypeId} {ks:List FK} (h:eqK P t=some ks) {l l':List AC} {vs vs':List Value} {r:Bool} (hr:dm ks l l'=some r) (hv:aX l=some vs) (X2:aX l'=some vs'):
  aw P (Op.equal t (.agg vs.toArray) (.agg vs'.toArray))=some r∧P.eqGuardType P.depth t=false:=by
 unfold eqK at h;cases hu:P.underlying t with
 | none=>rw[hu] at h;cases h
 | some d=>
  rw[hu] at h;cases d with
  | struct fs=>
   simp only at h
   cases hb:(P.stoodInHeld t||P.eqGuardType P.depth t) with
   | true=>rw[hb] at h;cases h
   | false=>
    rw[hb] at h;rw[Bool.or_eq_false_iff] at hb;obtain ⟨h1,bs,h2,h3⟩:=Fp (P:=P) (n:=9998) fs.toList 0 ks l l' r [] [] vs vs' h hr hv X2 rfl rfl;refine ⟨?_,hb.2⟩;rw[←h3];exact OI (n:=9999) (bL hu) hb.1 h1 _ _ bs h2
  | _=>cases h
theorem yG {P:Program} {tm:PT AV} {H:Hp} {d:Option Tmp} {t c:TypeId} {x y:Operand} {ty:TypeId} {pos:String} {af:Array Edge} {g:Option (Nat×Bool)} {ks:List FK} (h:eqK P t=some ks) (op:BinOp) (f:Bool→Bool)
  (e7:∀ a b:Array Value,binOp op t (.agg a) (.agg b)=(do pure (.bool (f (←Op.equal t (.agg a) (.agg b)))))):an P tm H ⟨d,.binOp op t x y c,ty,pos,af,g⟩=RY ks f H (bD P tm H ⟨d,.binOp op t x y c,ty,pos,af,g⟩) (ev tm x) (ev tm y):=by
 unfold RY;split
 ·rename_i l l' hx hy
  split
  ·rename_i r hr
   obtain ⟨⟨vs,h1⟩,⟨vs',h2⟩,_⟩:=VA hr;obtain ⟨h3,h4⟩:=yK h hr h1 h2;have vx:(ev tm x).val?=some (.agg vs.toArray):=by rw[hx];simp only[AV.val?,h1]
   have vy:(ev tm y).val?=some (.agg vs'.toArray):=by rw[hy];simp only[AV.val?,h2]
   have dx:aY (ev tm x)=.agg vs.toArray:=by unfold aY;rw[vx]
   have dy:aY (ev tm y)=.agg vs'.toArray:=by unfold aY;rw[vy]
   unfold an;have e1:((⟨d,.binOp op t x y c,ty,pos,af,g⟩:Oper).op.operands.toList.all fun x=>(ev tm x).val?.isSome)=true:=by
    show ([x,y].all fun x=>(ev tm x).val?.isSome)=true;simp only[List.all_cons,List.all_nil,vx,vy];rfl
   rw[e1];have e2:aw P (execOp (fun x=>aY (ev tm x)) ⟨d,.binOp op t x y c,ty,pos,af,g⟩)=some (.value (.bool (f r))):=by
    show aw P (Sem.bind (Sem.bind (eqGuard op t x y (aY (ev tm x)) (aY (ev tm y))) fun _=>binOp op t (aY (ev tm x)) (aY (ev tm y))) fun v=>Sem.pure (Next.value v))=_;rw[dx,dy,aN,aN,tX h4,e7];simp only[Option.bind_some];rw[ba,h3];rfl
   rw[e2];rfl
  rfl
 rfl
theorem NV {P:Program} {tm:PT AV} {H:Hp} {d:Option Tmp} {t c:TypeId} {x y:Operand} {ty:TypeId} {pos:String} {af:Array Edge} {g:Option (Nat×Bool)} {ks:List FK} (h:eqK P t=some ks):
  an P tm H ⟨d,.binOp .neq t x y c,ty,pos,af,g⟩=RY ks (!·) H (bD P tm H ⟨d,.binOp .neq t x y c,ty,pos,af,g⟩) (ev tm x) (ev tm y):=yG h .neq (!·) fun _ _=>rfl
theorem OK {P:Program} {tm:PT AV} {H:Hp} {d:Option Tmp} {t c:TypeId} {x y:Operand} {ty:TypeId} {pos:String} {af:Array Edge} {g:Option (Nat×Bool)} {ks:List FK} (h:eqK P t=some ks):
  an P tm H ⟨d,.binOp .eql t x y c,ty,pos,af,g⟩=RY ks id H (bD P tm H ⟨d,.binOp .eql t x y c,ty,pos,af,g⟩) (ev tm x) (ev tm y):=yG h .eql id fun _ _=>rfl
theorem Mt {H:Hp} {kd:Nat} {op:BinOp} {f:BF} {l:List AC} {y:AV} {alt:ad}:bp H kd op f (.agg l) y alt=alt:=rfl
theorem Wv {H:Hp} {kd:Nat} {op:BinOp} {f:BF} {x:Bool} {y:AV} {alt:ad}:bp H kd op f (.one (.b x)) y alt=alt:=rfl
def LR (f:Bool→Bool→Bool) (H:Hp) (alt:ad) (x y:AV):ad:=
 match x,y with
 | .one (.b a),.one (.b b)=>.val (.one (.b (f a b))) H
 | _,_=>alt
theorem Kd {f:Bool→Bool→Bool} {H:Hp} {alt:ad} {a b:Bool}:LR f H alt (.one (.b a)) (.one (.b b))=.val (.one (.b (f a b))) H:=rfl
theorem IG {P:Program} {tm:PT AV} {H:Hp} {d:Option Tmp} {t c:TypeId} {x y:Operand} {ty:TypeId} {pos:String} {af:Array Edge} {g:Option (Nat×Bool)} (h:P.underlying t=some .bool) (op:BinOp) (f:Bool→Bool→Bool)
  (e7:∀ a b:Bool,aw P (binOp op t (.bool a) (.bool b))=some (.bool (f a b))) (hg:∀ a b,eqGuard op t x y (.bool a) (.bool b)=pure ()):an P tm H ⟨d,.binOp op t x y c,ty,pos,af,g⟩=LR f H (bD P tm H ⟨d,.binOp op t x y c,ty,pos,af,g⟩) (ev tm x) (ev tm y):=by
 unfold LR;split
 ·rename_i a b hx hy
  have vx:(ev tm x).val?=some (.bool a):=by rw[hx];rfl
  have vy:(ev tm y).val?=some (.bool b):=by rw[hy];rfl
  have dx:aY (ev tm x)=.bool a:=by unfold aY;rw[vx]
  have dy:aY (ev tm y)=.bool b:=by unfold aY;rw[vy]
  unfold an;have e1:((⟨d,.binOp op t x y c,ty,pos,af,g⟩:Oper).op.operands.toList.all fun x=>(ev tm x).val?.isSome)=true:=by
   show ([x,y].all fun x=>(ev tm x).val?.isSome)=true;simp only[List.all_cons,List.all_nil,vx,vy];rfl
  rw[e1];have e2:aw P (execOp (fun x=>aY (ev tm x)) ⟨d,.binOp op t x y c,ty,pos,af,g⟩)=some (.value (.bool (f a b))):=by
   show aw P (Sem.bind (Sem.bind (eqGuard op t x y (aY (ev tm x)) (aY (ev tm y))) fun _=>binOp op t (aY (ev tm x)) (aY (ev tm y))) fun v=>Sem.pure (Next.value v))=_;rw[dx,dy,aN,aN,hg];show (((aw P (binOp op t (.bool a) (.bool b)))).bind _)=_;rw[e7];rfl
  rw[e2];rfl
 rfl
theorem Jd {P:Program} {tm:PT AV} {H:Hp} {d:Option Tmp} {t c:TypeId} {x y:Operand} {ty:TypeId} {pos:String} {af:Array Edge} {g:Option (Nat×Bool)} (h:P.underlying t=some .bool):
  an P tm H ⟨d,.binOp .neq t x y c,ty,pos,af,g⟩=LR (fun a b=>!(a==b)) H (bD P tm H ⟨d,.binOp .neq t x y c,ty,pos,af,g⟩) (ev tm x) (ev tm y):=
 IG h .neq _ (fun a b=>by
  show aw P (Sem.bind (Op.equalIn 10000 t (.bool a) (.bool b)) fun r=>Sem.pure (Value.bool (!r)))=_;rw[aN,Lt (n:=9999) (bL h)];rfl) fun _ _=>rfl
structure jA where
 cells:List AC
 p:Place
def Io:Nat→List (Option jA)→PT aK
 | _,[]=>.leaf
 | n,none::l=>Io (n+1) l
 | n,some x::l=>(Io (n+1) l).set n (.ro x.cells)
def jz (l:List (Option jA)):Pl:=fun i g=>if g=0 then ((l[i]?).join).map jA.p else none
theorem uZ (i:Nat):∀ (l:List (Option jA)) (n:Nat),(Io n l).get i=if n≤i then ((l[i - n]?).join).map fun x=>.ro x.cells else none
 | [],n=>by
  show (PT.leaf:PT aK).get i=_;split <;> simp[PT.get]
 | none::l,n=>by
  show (Io (n+1) l).get i=_;rw[uZ i l (n+1)];by_cases h:n+1≤i
  ·have e:i - n=(i - (n+1))+1:=by omega
   rw[zB0 h,zB0 (by omega),e,List.getElem?_cons_succ]
  rw[zB1 h];by_cases h2:n≤i
  ·have e:i - n=0:=by omega
   rw[zB0 h2,e];rfl
  rw[zB1 h2]
 | some x::l,n=>by
  show ((Io (n+1) l).set n (.ro x.cells)).get i=_;rw[PT.cS,uZ i l (n+1)];by_cases h0:i=n
  ·subst h0;rw[zB0 rfl,zB0 (zA1 _),Nat.sub_self];rfl
  rw[zB1 h0];by_cases h:n+1≤i
  ·have e:i - n=(i - (n+1))+1:=by omega
   rw[zB0 h,zB0 (by omega),e,List.getElem?_cons_succ]
  rw[zB1 h,zB1 (by omega)]
def nz (l:List (Option jA)):Hp:=⟨Io 0 l,l.length,[]⟩
theorem kU (l:List (Option jA)) (i:Nat):(nz l).get i=((l[i]?).join).map fun x=>.ro x.cells:=by
 show (Io 0 l).get i=_;rw[uZ i l 0,zB0 (Nat.zero_le _),Nat.sub_zero]
theorem Cu {l:List (Option jA)} {id:Nat} {o:aK} (h:(nz l).get id=some o):o.mu=true:=by
 rw[kU] at h;cases hl:(l[id]?).join with
 | none=>rw[hl] at h;cases h
 | some x=>rw[hl] at h;cases h;rfl
theorem Pk {l:List (Option jA)} {w:World} (h:∀ (i:Nat) (x:jA),(l[i]?).join=some x→py (jz l) w x.cells x.p) (m:Nat):Rel m (jz l) (nz l) w where
 obj:=fun id o ho=>by
  rw[kU] at ho;cases hl:(l[id]?).join with
  | none=>rw[hl] at ho;cases ho
  | some x=>
   rw[hl] at ho;cases ho;exact ⟨x.p,by show (if (0:Nat)=0 then _ else _)=_;rw[zB0 rfl,hl];rfl,h id x hl⟩
 sep:=fun id id' o o' g g' p p' h1 h2 _ _ _ _ _=>.inr ⟨Cu h1,Cu h2⟩
 wf:=fun id hid=>by
  have L2:l.length≤id:=hid;rw[kU,List.getElem?_eq_none L2];rfl
 free:=fun id g hid _=>by
  have L2:l.length≤id:=hid;unfold jz;split
  ·rw[List.getElem?_eq_none L2];rfl
  rfl
theorem Dz {E:Env} (hE:vY E) {f:FuncId} {args:List AV} {vs:List Value} {w:World} {l:List (Option jA)} (h:∀ (i:Nat) (x:jA),(l[i]?).join=some x→py (jz l) w x.cells x.p) (ha:ARs (jz l) args vs)
  (hc:C1 E f args (nz l) fun v _=>v=.one (.b true)):Calls E.P f vs.toArray w fun e w'=>e=.returned (.bool true)∧Grown w w':=by
 obtain ⟨n,v,H',h1,rfl⟩:=hc;refine (callsIn_wide (n:=0)).1 (((qf hE (GI hE) n).call (m:=H'.nx) (zA1 _) (Pk h _) ha h1 fun x hx=>?_).mono fun e w' he=>?_)
 ·rw[List.mem_singleton.1 hx];exact zA1 _
 obtain ⟨u,rfl,x,hx,β',har,_,P0⟩:=he;rw[List.mem_singleton.1 hx] at har P0;have hu:u=.bool true:=har;subst hu;refine ⟨rfl,P0.os,P0.tape,P0.output,P0.size,fun b hb=>P0.frame b hb fun id o g p ho hg _=>?_⟩;have:=Cu ho;rw[hg.2] at this;cases this
end Go.Eng
end
