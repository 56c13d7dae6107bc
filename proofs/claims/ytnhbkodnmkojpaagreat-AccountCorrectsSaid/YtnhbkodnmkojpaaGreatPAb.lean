/- A part of the proof: EngAbs, EngAbs2, EngOps1, EngOps2, EngOps3, EngOps4. No conditions. -/
import Derived.Test.YtnhbkodnmkojpaaGreatPAa
set_option maxRecDepth 100000
set_option maxHeartbeats 64000000
namespace Go.Eng
open Go
def NM (H:Hp):ae→Prop
 | .val _ H'=>H.nx≤H'.nx
 | .vals l=>l≠[]∧∀ x∈l,H.nx≤x.2.nx
 | _=>True
section
variable {P:Program} {H:Hp}
theorem NM.nd {α:Type} {o:Option α} {s:String} {f:α→ae} (h:∀ a,NM H (f a)):NM H (nd o s f):=by cases o with|none=>exact trivial|some a=>exact h a
theorem NM.guard {b:Bool} {s:String} {n:ae} (h:NM H n):NM H (aK b s n):=by cases b with|true=>exact h|false=>exact trivial
theorem NM.ifE {b:Bool} {x y:ae} (hx:NM H x) (hy:NM H y):NM H (ifE b x y):=by cases b with|true=>exact hx|false=>exact hy
theorem NM.ay {α:Type} {o:Option α} {e:ae} {f:α→ae} (he:NM H e) (h:∀ a,NM H (f a)):NM H (ay o e f):=by cases o with|none=>exact he|some a=>exact h a
theorem NM.rk {x:AV} {e:ae} {f:Nat→Nat→Nat→Nat→ae} (he:NM H e) (h:∀ a b c d,NM H (f a b c d)):NM H (rk x e f):=by
 cases x with
 | one c=>cases c with
  | o q=>cases q <;> first|exact he|exact h _ _ _ _
  | b _=>exact he
  | i _ _=>exact he
 | agg _=>exact he
 | tup _=>exact he
 | any=>exact he
theorem NM.slE {x:AV} {e:ae} {f:Nat→Nat→Nat→Nat→Nat→ae} (he:NM H e) (h:∀ a b c d g,NM H (f a b c d g)):NM H (slE x e f):=by
 cases x with
 | one c=>cases c with
  | o q=>cases q <;> first|exact he|exact h _ _ _ _ _
  | b _=>exact he
  | i _ _=>exact he
 | agg _=>exact he
 | tup _=>exact he
 | any=>exact he
theorem NM.eJ {x:AV} {e:ae} {f:IntKind→Int→ae} (he:NM H e) (h:∀ a b,NM H (f a b)):NM H (eJ x e f):=by
 cases x with
 | one c=>cases c with
  | o q=>exact he
  | b _=>exact he
  | i _ _=>exact h _ _
 | agg _=>exact he
 | tup _=>exact he
 | any=>exact he
theorem NM.dP {x:AV} {e:ae} {f:Bool→ae} (he:NM H e) (h:∀ a,NM H (f a)):NM H (dP x e f):=by
 cases x with
 | one c=>cases c with
  | o q=>exact he
  | b _=>exact h _
  | i _ _=>exact he
 | agg _=>exact he
 | tup _=>exact he
 | any=>exact he
theorem NM.gH {x:AV} {e:ae} {f:List UInt8→ae} (he:NM H e) (h:∀ a,NM H (f a)):NM H (gH x e f):=by
 cases x with
 | one c=>cases c with
  | o q=>cases q <;> first|exact he|exact h _
  | b _=>exact he
  | i _ _=>exact he
 | agg _=>exact he
 | tup _=>exact he
 | any=>exact he
theorem NM.nk {o:Option aO} {e:ae} {f:List AC→TypeId→Nat→Nat→ae} (he:NM H e) (h:∀ a b c d,NM H (f a b c d)):NM H (nk o e f):=by
 cases o with
 | none=>exact he
 | some o=>cases o with
  | arr _ _ _ _=>exact h _ _ _ _
  | oth _=>exact he
  | ro _=>exact he
theorem NM.same {v:AV}:NM H (.val v H):=Nat.le_refl _
theorem NM.mod {v:AV} {i:Nat} {o:aO}:NM H (.val v (H.mod i o)):=Nat.le_refl _
theorem NM.new {v:AV} {o:aO}:NM H (.val v (H.new o)):=Nat.le_succ _
theorem NM.bad {s:String}:NM H (.bad s):=trivial
theorem SD {a:Bool} {n:Nat} {v:AV}:NM H (cm H a n v):=
 NM.rk NM.bad fun _ _ _ _=>NM.nd fun c=>NM.ifE NM.same (by cases c <;> first|exact NM.bad|exact NM.same)
theorem QV {n:Nat} {x v:AV}:NM H (fC H n x v):=NM.rk NM.bad fun _ _ _ _=>NM.nk NM.bad fun _ _ _ _=>NM.guard NM.mod
theorem Ag {c:List AC} {e:TypeId}:NM H (gJ H c e):=NM.new
theorem oh {ok:Bool} {v:AV} {b:Bool}:NM H (bQ H ok v b):=by cases ok with|false=>exact NM.same|true=>exact NM.guard NM.same
theorem MS {kt:TypeId} {z m k:AV} {ok:Bool}:NM H (bp P H kt z m k ok):=by
 unfold bp
 split
 ·exact NM.nd fun _=>oh
 ·split
  ·refine NM.nd fun _=>?_
   split
   ·exact oh
   ·exact oh
   ·exact NM.bad
  ·exact NM.bad
 ·exact NM.bad
theorem pZ {kt:TypeId} {m k x:AV}:NM H (aW P H kt m k x):=by
 unfold aW
 split
 ·split
  ·exact NM.nd fun _=>NM.guard (NM.nd fun _=>NM.ifE NM.mod NM.mod)
  ·exact NM.bad
 ·exact NM.bad
theorem Tm {x:AV}:NM H (qJ H x):=by
 unfold qJ
 split
 ·split
  ·exact NM.same
  ·split
   ·refine NM.guard ?_
    split
    ·exact NM.same
    ·refine NM.guard ⟨by simp,fun x hx=>?_⟩
     obtain ⟨e,_,rfl⟩:=List.mem_map.1 hx
     exact Nat.le_refl _
   ·exact NM.bad
  ·exact NM.bad
 ·exact NM.bad
theorem Ry {x:AV}:NM H (my H x):=by
 unfold my
 split
 ·split
  ·split
   ·split
    ·refine NM.guard ?_
     split
     ·exact NM.same
     ·exact NM.bad
    ·exact NM.bad
   ·exact NM.bad
  ·exact NM.bad
 ·exact NM.bad
theorem MQ {t:TypeId} {s x:AV}:NM H (bd P H t s x):=by
 refine NM.nd fun es=>NM.nd fun by_=>NM.nd fun z=>NM.guard (NM.nd fun nc=>?_)
 unfold dQ
 split
 ·exact NM.ifE NM.same (NM.guard NM.new)
 ·exact NM.nk NM.bad fun _ _ _ _=>NM.guard (NM.ifE NM.same (NM.ifE NM.mod NM.mod))
 ·exact NM.bad
theorem Sj {t:TypeId} {s x:AV}:NM H (AL P H t s x):=by
 refine NM.nd fun es=>?_
 split
 ·exact NM.guard (NM.nd fun _=>NM.nk NM.bad fun _ _ _ _=>NM.guard NM.mod)
 ·exact NM.same
 ·exact NM.same
 ·exact NM.same
 ·exact NM.bad
theorem Tf {f:AV} {l:List AV}:NM H (kg P f l):=by
 cases f with
 | one c=>cases c with
  | o q=>cases q <;> first|exact trivial|exact NM.guard trivial
  | b _=>exact trivial
  | i _ _=>exact trivial
 | agg _=>exact trivial
 | tup _=>exact trivial
 | any=>exact trivial
theorem vT {tm:PT AV} {o:Oper}:NM H (ax P tm H o):=by
 unfold ax
 refine NM.guard ?_
 split
 ·exact NM.guard NM.same
 ·exact NM.bad
theorem rW (i:Nat):∀ l:List (Bool×List AC),NM H (Nat.rec (motive:=fun _=>List (Bool×List AC)→ae)
   (fun l=>List.rec (motive:=fun _=>ae) (.bad "extract") (fun x _ _=>
    ifE x.1 (.val (.agg x.2) H) (List.rec (motive:=fun _=>ae) (.bad "extract") (fun c m _=>List.rec (motive:=fun _=>ae) (.val (.one c) H) (fun _ _ _=>.bad "extract") m) x.2)) l)
   (fun _ ih l=>List.rec (motive:=fun _=>ae) (.bad "extract") (fun _ l' _=>ih l') l) i l):=by
 induction i with
 | zero=>
  intro l
  cases l with
  | nil=>exact NM.bad
  | cons x l=>
   refine NM.ifE NM.same ?_
   obtain ⟨b,c⟩:=x
   cases c with
   | nil=>exact NM.bad
   | cons y c=>cases c <;> first|exact NM.same|exact NM.bad
 | succ i ih=>
  intro l
  cases l with
  | nil=>exact NM.bad
  | cons x l=>exact ih l
theorem Im {x:AV} {i:Nat}:NM H (cN H x i):=by
 cases x with
 | tup l=>exact rW i l
 | one _=>exact NM.bad
 | agg _=>exact NM.bad
 | any=>exact rW i []
theorem OS {x:AV}:NM H (oT H x):=by
 unfold oT
 split
 ·exact NM.new
 ·split
  ·exact NM.new
  ·exact NM.bad
 ·exact NM.bad
theorem UX {k:Nat} {x:AV}:NM H (cS H k x):=by
 match k with
 | 0=>exact NM.gH NM.bad fun _=>NM.same
 | 1=>exact NM.slE (NM.guard NM.same) fun _ _ _ _ _=>NM.same
 | k+2=>
  show NM H (dU H x)
  unfold dU
  split
  ·exact NM.same
  ·split
   ·exact NM.same
   ·exact NM.bad
  ·exact NM.bad
theorem Vc {kd:Nat} {op:BinOp} {f:BF} {x y:AV} {alt:ae} (ha:NM H alt):NM H (bL H kd op f x y alt):=by
 cases x with
 | one c=>cases c with
  | o q=>
   show NM H (jC H kd op (.one (.o q)) y alt)
   refine NM.gH ?_ fun _=>NM.gH ha fun _=>NM.ay ha fun _=>NM.same
   unfold mZ
   split
   ·split
    ·exact NM.same
    ·exact NM.same
    ·exact NM.bad
   ·exact ha
  | b _=>exact ha
  | i k a=>
   show NM H (Eng.eJ y alt fun k' b=>jV H f k a k' b alt)
   exact NM.eJ ha fun _ _=>NM.ifE (by cases f <;> first|exact NM.same|exact ha) ha
 | agg _=>exact ha
 | tup _=>exact ha
 | any=>exact ha
theorem RA {fo n:Nat} {a:Bool} {x:AV}:NM H (pK H fo n a x):=by
 cases x with
 | agg l=>exact NM.ifE (NM.guard NM.same) (NM.nd fun _=>NM.same)
 | one _=>exact NM.bad
 | tup _=>exact NM.bad
 | any=>exact NM.bad
theorem DE {x:AV}:NM H (fW H x):=by
 cases x with
 | one c=>cases c with
  | o q=>cases q <;> first|exact NM.bad|exact NM.same
  | b _=>exact NM.bad
  | i _ _=>exact NM.bad
 | agg _=>exact NM.bad
 | tup _=>exact NM.bad
 | any=>exact NM.bad
theorem SF.ke {α:Type} {o:Option α} {s:String} {f:α→SF} {tm:PT AV} (h:∀ a,NM H ((f a).run tm H)):NM H ((ndF o s f).run tm H):=by
 cases o with
 | none=>exact trivial
 | some a=>exact h a
theorem SF.Su {b:Bool} {s:String} {f:SF} {tm:PT AV} (h:NM H (f.run tm H)):NM H ((Eng.ifE b f (jW s)).run tm H):=by
 cases b with
 | false=>exact trivial
 | true=>exact h
theorem Be {tm:PT AV} (o:Oper):NM H ((aq P o).run tm H):=by
 have hp:∀ o,NM H (ax P tm H o):=fun _=>vT
 obtain ⟨dst,op,type,pos,after,guard⟩:=o
 cases op with
 | move x=>cases x <;> exact NM.same
 | assign x=>cases x <;> exact NM.same
 | pick c x y=>exact NM.dP NM.bad fun _=>NM.same
 | alloc e=>exact SF.ke fun _=>Ag
 | box e x=>exact NM.guard Ag
 | build t parts=>exact SF.ke fun _=>SF.ke fun _=>SF.ke fun _=>NM.nd fun _=>NM.same
 | buildSlice t len parts=>exact SF.ke fun _=>SF.ke fun _=>SF.Su (SF.ke fun _=>NM.nd fun _=>NM.new)
 | load t x=>exact SF.ke fun _=>SD
 | store t x y=>exact SF.ke fun _=>QV
 | nilCheck x=>exact DE
 | binOp op t x y c=>exact Vc (hp _)
 | unOp op t x=>
  show NM H (Ht H op _ (ax P tm H _))
  unfold Ht
  split
  ·exact NM.dP vT fun _=>NM.same
  ·exact vT
 | convert s d x=>exact hp _
 | fieldAddr s x f=>exact SF.ke fun _=>NM.rk NM.bad fun _ _ _ _=>NM.guard NM.same
 | field t x f=>exact SF.ke fun _=>SF.ke fun _=>RA
 | indexAddr t x i=>exact SF.ke fun _=>NM.slE NM.bad fun _ _ _ _ _=>NM.eJ NM.bad fun _ _=>NM.nd fun _=>NM.guard NM.same
 | index t x i=>exact NM.ifE (NM.gH (hp _) fun _=>NM.eJ (hp _) fun _ _=>NM.nd fun _=>NM.nd fun _=>NM.same) (hp _)
 | slice t x lo hi mx=>
  cases mx with
  | some _=>exact trivial
  | none=>
   cases he:bk P t with
   | none=>
    have:aq P ⟨dst,.slice t x lo hi none,type,pos,after,guard⟩=.mk fun tm h=>ax P tm h ⟨dst,.slice t x lo hi none,type,pos,after,guard⟩:=by
     simp[aq,he]
    rw[this]
    exact hp _
   | some p=>
    have:aq P ⟨dst,.slice t x lo hi none,type,pos,after,guard⟩=.mk fun tm h=>de h p.2 ((opF x).ev tm) (lo.map (ev tm)) (hi.map (ev tm)) (ax P tm h ⟨dst,.slice t x lo hi none,type,pos,after,guard⟩):=by
     simp[aq,he]
    rw[this]
    exact NM.slE (hp _) fun _ _ _ _ _=>NM.nd fun _=>NM.nd fun _=>NM.guard NM.same
 | extract x i=>exact Im
 | makeFunc fn first caps=>
  cases fn with
  | func f=>exact SF.Su (NM.nd fun _=>NM.same)
  | _=>exact trivial
 | makeMap t r=>
  cases r with
  | some _=>exact trivial
  | none=>exact NM.new
 | makeSlice t l c=>exact NM.nd fun _=>NM.nd fun _=>NM.nd fun _=>NM.eJ NM.bad fun _ _=>NM.eJ NM.bad fun _ _=>NM.nd fun _=>NM.nd fun _=>NM.guard NM.new
 | lookup t x k ok=>exact SF.ke fun _=>SF.ke fun _=>MS
 | mapUpdate t x k y=>exact SF.ke fun _=>pZ
 | insert t x k y=>exact SF.ke fun _=>pZ
 | range t x=>exact SF.ke fun _=>OS
 | next x b=>
  cases b with
  | true=>exact trivial
  | false=>exact Tm
 | entry x=>exact Ry
 | call c=>
  show NM H ((rX P _ c).run tm H)
  unfold rX
  split
  ·exact Tf
  ·unfold iu
   split
   ·exact SF.Su MQ
   ·exact SF.Su Sj
   ·exact SF.ke fun _=>UX
   ·exact hp _
   ·exact hp _
   ·exact trivial
  ·exact trivial
 | _=>exact trivial
end
def RG {α:Type} (k:Nat) (nx:α→Nat) (r:R α):Prop:=∀ outs,r=.ok outs→outs≠[]∧∀ x∈outs,k≤nx x
section
variable {α γ:Type} {k:Nat} {nx:α→Nat} {nx':γ→Nat}
theorem RG.bad {s:String}:RG k nx (.bad s:R α):=fun _ h=>by cases h
theorem RG.one {x:α} (h:k≤nx x):RG k nx (.ok [x]):=fun outs h'=>by
 cases h'
 exact ⟨by simp,fun y hy=>by rw[List.mem_singleton.1 hy];exact h⟩
theorem RG.cM {f:α→R γ}:∀ (l:List α),(∀ x∈l,RG k nx' (f x))→RG k nx' (Eng.cM f l)
 | [],_=>RG.bad
 | [x],h=>h x (List.mem_singleton.2 rfl)
 | x::y::l,h=>by
  have h1:=h x (List.mem_cons_self ..)
  have h2:=RG.cM (y::l) fun z hz=>h z (List.mem_cons_of_mem _ hz)
  intro outs ho
  have ho':wc (f x) (Eng.cM f (y::l))=.ok outs:=ho
  cases ha:f x with
  | bad s=>rw[ha] at ho';cases ho'
  | ok oa=>
   cases hb:Eng.cM f (y::l) with
   | bad s=>rw[ha,hb] at ho';cases ho'
   | ok ob=>
    rw[ha,hb] at ho'
    have he:oa++ob=outs:=by injection ho'
    subst he
    refine ⟨fun h0=>(h1 oa ha).1 (List.append_eq_nil_iff.1 h0).1,fun z hz=>?_⟩
    rcases List.mem_append.1 hz with hz|hz
    ·exact (h1 oa ha).2 z hz
    ·exact (h2 ob hb).2 z hz
theorem RG.bind {r:R α} {f:α→R γ} (hr:RG k nx r) (hf:∀ x,k≤nx x→RG k nx' (f x)):RG k nx' (r.bind f):=by
 cases r with
 | bad s=>exact RG.bad
 | ok l=>exact RG.cM l fun x hx=>hf x ((hr l rfl).2 x hx)
theorem RG.le {r:R α} {k':Nat} (hr:RG k nx r) (h:k'≤k):RG k' nx r:=fun outs ho=>⟨(hr outs ho).1,fun x hx=>Nat.le_trans h ((hr outs ho).2 x hx)⟩
theorem RG.ifE {b:Bool} {x y:R α} (hx:RG k nx x) (hy:RG k nx y):RG k nx (Eng.ifE b x y):=by cases b with|true=>exact hx|false=>exact hy
theorem RG.ay {o:Option γ} {e:R α} {f:γ→R α} (he:RG k nx e) (h:∀ a,RG k nx (f a)):RG k nx (Eng.ay o e f):=by cases o with|none=>exact he|some a=>exact h a
end
abbrev nV (x:AV×Hp):Nat:=x.2.nx
abbrev nA (x:ab×Hp):Nat:=x.2.nx
abbrev nE (x:aE×ab×Hp):Nat:=x.2.2.nx
theorem ES {k:Nat} {tm:PT AV} {g:Option (Option Tmp×Bool)} {yes no:R (ab×Hp)} (hy:RG k nA yes) (hn:RG k nA no):RG k nA (bC tm g yes no):=by
 unfold bC
 refine RG.ay hy fun p=>RG.ay hn fun t=>RG.ay hn fun v=>?_
 cases v with
 | one c=>cases c with
  | b b=>exact RG.ifE (RG.ifE hy hn) (RG.ifE hn hy)
  | i _ _=>exact hn
  | o _=>exact RG.bad
 | agg _=>exact hn
 | tup _=>exact hn
 | any=>exact RG.bad
structure RecM (rec:Rec):Prop where
 code:∀ r c a h,RG h.nx nE (rec.code r c a h)
 call:∀ f args h,RG h.nx nV (rec.call f args h)
section
variable {E:Env} {rec:Rec} (hrec:RecM rec)
theorem rN {k id:Nat} {x:aE×ab×Hp} (hk:k≤nE x):RG k nV (iJ id x):=by
 unfold iJ
 split
 ·split <;> exact RG.one hk
 ·exact RG.bad
include hrec
theorem rS {k id:Nat} {body:Code} {x:aE×ab×Hp} (hk:k≤nE x):RG k nV (eC rec id body x):=by
 unfold eC
 split
 ·refine RG.bind (nx:=nE) (RG.le (hrec.code _ _ _ _) hk) fun y hy=>rN hy
 ·exact RG.bad
theorem tK {id:Nat} {args:List AV} {h:Hp}:RG h.nx nV (fm rec id args h):=by
 unfold fm
 split
 ·exact RG.ifE (RG.bind (nx:=nE) (hrec.code _ _ _ _) fun x hx=>rS hrec hx) RG.bad
 ·exact RG.bad
theorem zY {f:FuncId} {args:List AV} {h:Hp}:RG h.nx nV (mr E rec f args h):=by
 unfold mr
 exact RG.ay (hrec.call _ _ _) fun _=>RG.one (Nat.le_refl _)
theorem wF {h:Hp} {n:ae} (hn:NM h n):RG h.nx nV (ig E rec h n):=by
 cases n with
 | val v h'=>exact RG.one hn
 | vals l=>intro outs ho;cases ho;exact hn
 | enter f args=>exact zY hrec
 | round id args=>exact tK hrec
 | bad s=>exact RG.bad
omit hrec in
theorem jj {k0:Nat} {a:ab} {dst:Option Tmp} {v:AV} {h:Hp} {k:ab→Hp→R (ab×Hp)} (hk:∀ a,RG k0 nA (k a h)):RG k0 nA (fK a dst v h k):=by
 unfold fK
 exact RG.ay (hk _) fun d=>RG.ifE (hk _) RG.bad
theorem RV {a:ab} {dst:Option Tmp} {h:Hp} {k:ab→Hp→R (ab×Hp)} {n:ae} (hn:NM h n) (hk:∀ a h',RG h'.nx nA (k a h')):RG h.nx nA (nz E rec a dst h k n):=by
 cases n with
 | val v h'=>exact jj fun a=>(hk a h').le hn
 | vals l=>exact RG.cM l fun x hx=>jj fun a=>(hk a x.2).le (hn.2 x hx)
 | enter f args=>exact RG.bind (nx:=nV) (zY hrec) fun x hx=>jj fun a=>(hk a x.2).le hx
 | round id args=>exact RG.bind (nx:=nV) (tK hrec) fun x hx=>jj fun a=>(hk a x.2).le hx
 | bad s=>exact RG.bad
theorem pD {P:Program} {ops:List Oper}:∀ (l:List Oper) (a:ab) (h:Hp),RG h.nx nA (fE E rec (fB P ops l) a h)
 | [],a,h=>RG.one (Nat.le_refl _)
 | o::l,a,h=>by
  show RG h.nx nA (bC a.tm (gOf ops o.guard) (nz E rec a o.dst h (fE E rec (fB P ops l)) ((aq P o).run a.tm h)) (fK a o.dst aG h (fE E rec (fB P ops l))))
  exact ES (RV hrec (Be o) fun a h'=>pD l a h') (jj fun a=>pD l a h)
omit hrec in
theorem QB {kk j:Nat} {a:ab} {dst:Option Tmp} {h:Hp} {sub:PT aO} {us did:List Did} {K:List Did→ab→Hp→R (ab×Hp)} {x:R (AV×Hp)} (hx:RG h.nx nV x) (hK:∀ d a h',RG h'.nx nA (K d a h')):
  RG h.nx nA (ud kk j a dst h sub us did K x):=by
 cases x with
 | bad s=>exact RG.bad
 | ok l=>
  cases l with
  | nil=>exact RG.bad
  | cons y l=>
   cases l with
   | cons z l=>exact RG.bad
   | nil=>
    have h1:=(hx [y] rfl).2 y (List.mem_singleton.2 rfl)
    exact RG.ifE (jj fun a=>RG.le (hK _ _ _) h1) RG.bad
theorem rr {P:Program} {ops:List Oper}:∀ (l:List Oper) (j:Nat) (ms:List Nat) (did:List Did) (a:ab) (h:Hp),RG h.nx nA (cW E rec (fB P ops l) j ms did a h)
 | [],j,ms,did,a,h=>RG.one (Nat.le_refl _)
 | o::l,j,ms,did,a,h=>by
  cases ms with
  | nil=>exact RG.bad
  | cons m ms=>
   show RG h.nx nA (bC a.tm (gOf ops o.guard)
    (ud (bh o) j a o.dst h (aI h.t h.nx a.tm o (aF m did)) (aF m did) did (cW E rec (fB P ops l) (Nat.add j 1) ms) (Qe E rec a.tm ⟨aI h.t h.nx a.tm o (aF m did),h.nx,[]⟩ (aq P o)))
    (fK a o.dst aG h (cW E rec (fB P ops l) (Nat.add j 1) ms did)))
   refine ES (QB ?_ fun d a h'=>rr l _ ms d a h') (jj fun a=>rr l _ ms did a h)
   have hn:NM ⟨aI h.t h.nx a.tm o (aF m did),h.nx,[]⟩ ((aq P o).run a.tm ⟨aI h.t h.nx a.tm o (aF m did),h.nx,[]⟩):=Be o
   exact wF hrec hn
omit hrec in
theorem lR {k:Nat} {e:aE} {n r:R (aE×ab×Hp)} {x:Nat→R (aE×ab×Hp)} (hn:RG k nE n) (hx:∀ i,RG k nE (x i)) (hr:RG k nE r):RG k nE (exE e n x r):=by
 cases e with
 | normal=>exact hn
 | exit i=>exact hx i
 | ret=>exact hr
omit hrec in
theorem sj {k l:Nat} {a:ab} {x:AV×Hp} (hk:k≤nV x):RG k nE (eB l a x):=by
 unfold eB
 split
 ·split
  ·exact RG.bad
  ·split
   ·exact RG.one hk
   ·exact RG.one hk
   ·exact RG.one hk
   ·exact RG.bad
 ·exact RG.bad
theorem HO {r:Option Nat} {f:OpF} {ps:List Tmp} {as bo:Code} {a:ab} {h:Hp}:RG h.nx nE (gb E rec r f ps as bo a h):=by
 unfold gb
 split
 ·exact RG.bad
 ·rename_i d h1 a1 hs
  have h0:h.nx≤h1.nx:=by
   unfold ky at hs
   split at hs
   ·cases hs;exact Nat.le_succ _
   ·split at hs
    ·cases hs;exact Nat.le_refl _
    ·cases hs
  split
  ·refine RG.ifE (RG.bind (nx:=nV) (RG.le (hrec.call _ _ _) (Nat.le_trans h0 (Nat.le_succ _))) fun x hx=>sj hx) RG.bad
  ·exact RG.bad
theorem oY:∀ (c:Code) (r:Option Nat) (a:ab) (h:Hp),RG h.nx nE ((codeF E c).run rec r a h):=by
 intro c
 induction c with
 | skip=>intro r a h;exact RG.one (Nat.le_refl _)
 | region id ops draw=>
  intro r a h
  cases draw with
  | false=>exact RG.bind (nx:=nA) (pD hrec _ a h) fun x hx=>RG.one hx
  | true=>
   show RG h.nx nE ((Eng.ifE (dY ops) (CF.mk fun rec _ a h=>(cW E rec (rp E.P ops) 0 (dV [] 0 ops.toList) [] a h).bind fI) (CF.mk fun _ _ _ _=>.bad "draw - slots")).run rec r a h)
   cases dY ops with
   | false=>exact RG.bad
   | true=>exact RG.bind (nx:=nA) (rr hrec _ _ _ _ a h) fun x hx=>RG.one hx
 | seq x y hx hy=>
  intro r a h
  refine RG.bind (nx:=nE) (hx r a h) fun z hz=>lR ((hy r _ _).le hz) (fun _=>RG.one hz) (RG.one hz)
 | cond c x y hx hy=>
  intro r a h
  show RG h.nx nE (dP ((opF c).ev a.tm) (.bad "cond") fun b=>Eng.ifE b ((codeF E x).run rec r a h) ((codeF E y).run rec r a h))
  cases (opF c).ev a.tm with
  | one q=>
   cases q with
   | b b=>exact RG.ifE (hx r a h) (hy r a h)
   | i _ _=>exact RG.bad
   | o _=>exact RG.bad
  | agg _=>exact RG.bad
  | tup _=>exact RG.bad
  | any=>exact RG.bad
 | block id x hx=>
  intro r a h
  refine RG.bind (nx:=nE) (hx r a h) fun z hz=>lR (RG.one hz) (fun _=>RG.ifE (RG.one hz) (RG.one hz)) (RG.one hz)
 | loop x hx=>
  intro r a h
  refine RG.bind (nx:=nE) (hx r a h) fun z hz=>lR (RG.le (hrec.code _ _ _ _) hz) (fun _=>RG.one hz) (RG.one hz)
 | rangeFunc f ps as bo _ _=>intro r a h;exact HO hrec
 | exit id=>intro r a h;exact RG.one (Nat.le_refl _)
 | scope x hx=>intro r a h;exact hx r a h
 | label l=>intro r a h;exact RG.one (Nat.le_refl _)
 | goto l=>intro r a h;exact RG.bad
 | ret=>intro r a h;exact RG.one (Nat.le_refl _)
 | refuse x=>intro r a h;exact RG.bad
end
theorem sh:∀ (l:List Nat) (h h':Hp),closeAll h l=some h'→h'.nx=h.nx
 | [],h,h',e=>by cases e;rfl
 | d::l,h,h',e=>by
  unfold closeAll at e
  split at e
  ·have:=sh l _ h' e
   exact this
  ·cases e
theorem oA {E:Env} {k:Nat} {res:List ResultVar} {x:aE×ab×Hp} (hk:k≤nE x):RG k nV (ao E res x):=by
 have key:RG k nV (ay (closeAll x.2.2 x.2.1.dfr) (.bad "marks") fun h2=>ay (bj E.P res x.2.1.tm h2) (.bad "results") fun l=>.ok [(dm l,h2)]):=by
  cases hc:closeAll x.2.2 x.2.1.dfr with
  | none=>exact RG.bad
  | some h2=>
   refine RG.ay (o:=bj E.P res x.2.1.tm h2) RG.bad fun l=>RG.one ?_
   show k≤h2.nx
   rw[sh _ _ _ hc]
   exact hk
 unfold ao
 cases x.1 with
 | normal=>exact key
 | exit i=>exact RG.bad
 | ret=>exact key
theorem oK:∀ {l:List (AV×Hp)} {x:AV×Hp},x∈l→x.2.nx≤lZ l
 | y::l,x,h=>by
  show x.2.nx≤Nat.max y.2.nx (lZ l)
  rcases List.mem_cons.1 h with rfl|h
  ·exact Nat.le_max_left _ _
  ·exact Nat.le_trans (oK h) (Nat.le_max_right _ _)
theorem mo (h:Hp) (l:List (AV×Hp)):uM h l=l∨∃ x,x∈l∧(∀ z∈l,z.1=x.1∧∀ id,id<h.nx→z.2.get id=x.2.get id)∧uM h l=[(x.1,DX h l x.2.t)]:=by
 cases l with
 | nil=>exact .inl rfl
 | cons x l=>
  cases l with
  | nil=>exact .inl rfl
  | cons y l=>
   have e:uM h (x::y::l)=Uj h (x::y::l) x:=rfl
   by_cases hc:∀ z∈x::y::l,z.1=x.1∧∀ id,id<h.nx→z.2.t.get id=x.2.t.get id
   ·exact .inr ⟨x,List.mem_cons_self ..,hc,by rw[e];exact if_pos hc⟩
   ·exact .inl (by rw[e];exact if_neg hc)
theorem EO {h:Hp} {r:R (AV×Hp)} {outs:List (AV×Hp)} (hj:sf h r=.ok outs):∃ l,r=.ok l∧outs=uM h l:=by
 cases r with
 | ok l=>cases hj;exact ⟨l,rfl,rfl⟩
 | bad s=>cases hj
theorem Rn {h:Hp} {l:List (AV×Hp)} {m:Nat} (hb:∀ x∈uM h l,nV x≤m):∀ x∈l,nV x≤m:=by
 rcases mo h l with e|⟨x,hx,hc,e⟩
 ·rw[e] at hb;exact hb
 ·intro y hy
  rw[e] at hb
  exact Nat.le_trans (oK hy) (hb _ (List.mem_singleton.2 rfl))
theorem RG.join {h:Hp} {r:R (AV×Hp)} {k:Nat} (hr:RG k nV r):RG k nV (sf h r):=by
 intro outs ho
 obtain ⟨l,rfl,rfl⟩:=EO ho
 obtain ⟨h1,h2⟩:=hr l rfl
 rcases mo h l with e|⟨x,hx,hc,e⟩
 ·rw[e];exact ⟨h1,h2⟩
 ·rw[e]
  refine ⟨by simp,fun y hy=>?_⟩
  rw[List.mem_singleton.1 hy]
  exact Nat.le_trans (h2 x hx) (oK hx)
theorem Mt {E:Env} {rec:Rec} (hrec:RecM rec) {f:FuncId} {args:List AV} {h:Hp}:RG h.nx nV (jv E rec f args h):=by
 unfold jv QT
 split
 ·split
  ·exact RG.ifE (RG.join (RG.bind (nx:=nE) (oY hrec _ none _ h) fun x hx=>oA hx)) RG.bad
  ·exact RG.bad
 ·exact RG.bad
theorem kE (E:Env):∀ n,RecM (eval E n)
 | 0=>⟨fun _ _ _ _=>RG.bad,fun _ _ _=>RG.bad⟩
 | n+1=>⟨fun r c a h=>oY (kE E n) c r a h,fun f args h=>Mt (kE E n)⟩
theorem Pq {β:Pl} {v:Value} (h:v.oneCell'=true):CR β (cOf v) v:=by
 unfold cOf
 split
 ·rfl
 ·rfl
 ·rfl
 ·rfl
 ·rfl
 ·rfl
 ·rfl
 ·exact ⟨rfl,h⟩
theorem JI {β:Pl}:∀ (l:List Value),l.all Value.oneCell'=true→CRs β (l.map cOf) l
 | [],_=>trivial
 | v::l,h=>by
  simp only[List.all_cons,Bool.and_eq_true] at h
  exact ⟨Pq h.1,JI l h.2⟩
theorem dN {β:Pl} {v:Value} (h:okV v=true):AR β (ofValue v) v:=by
 unfold ofValue
 split
 ·rename_i cs
  exact ⟨cs.toList,JI _ h,by simp⟩
 ·rename_i vs
  have h':vs.toList=[]:=by simpa [okV] using h
  have:vs=#[]:=by cases vs;simpa using h'
  subst this
  exact ⟨[],trivial,rfl⟩
 ·rename_i h1 h2
  refine Pq ?_
  cases v <;> first|rfl|exact absurd rfl (h1 _)|exact absurd rfl (h2 _)
theorem lH {v:Value} (h:∀ vs,v≠.tuple vs):(ofValue v).bA=true:=by
 unfold ofValue
 split
 ·rfl
 ·exact absurd rfl (h _)
 ·rfl
theorem AC.hG {β:Pl} {c:AC} {u v:Value} (h:c.val?=some u) (hr:CR β c v):v=u:=by
 cases c with
 | b x=>cases h;exact hr
 | i k n=>cases h;exact hr
 | o x=>cases x <;> simp[AC.val?] at h <;> subst h <;> first|exact hr|exact hr.1
theorem sA {β:Pl}:∀ {l:List AC} {us vs:List Value},ba l=some us→CRs β l vs→vs=us
 | [],us,vs,h,hr=>by
  cases h
  cases vs with
  | nil=>rfl
  | cons=>exact hr.elim
 | c::l,us,vs,h,hr=>by
  cases vs with
  | nil=>exact hr.elim
  | cons v vs=>
   unfold ba at h
   split at h
   ·rename_i u us' hc hl
    cases h
    rw[AC.hG hc hr.1,sA hl hr.2]
   ·cases h
theorem AV.hG {β:Pl} {x:AV} {u v:Value} (h:x.val?=some u) (hr:AR β x v):v=u:=by
 cases x with
 | one c=>exact AC.hG h hr
 | agg l=>
  obtain ⟨vs,h1,rfl⟩:=hr
  unfold AV.val? at h
  simp only at h
  split at h
  ·rename_i us hu
   cases h
   rw[sA hu h1]
  ·cases h
 | tup l=>
  obtain ⟨vs,h1,rfl⟩:=hr
  cases l with
  | nil=>
   cases h
   cases vs with
   | nil=>rfl
   | cons=>exact h1.elim
  | cons=>cases h
 | any=>cases h
theorem bM {β:Pl} {tm:PT AV} {a:Act} (h:∀ t,AR β (ay (tm.get t) aG fun v=>v) (a.tmps.getD t undef)) (x:Operand):AR β (ev tm x) (a.eval x):=by
 cases x with
 | tmp t=>exact h t
 | const v=>
  show AR β (bif okV v then ofValue v else .any) v
  cases ho:okV v with
  | true=>exact dN ho
  | false=>trivial
 | global g=>trivial
 | func f=>exact ⟨[],rfl,rfl,fun k c v hc _=>by simp at hc⟩
theorem oB {α:Type} {P:Program}:∀ {s:Sem α} {a:α},aC P s=some a→∀ w,s.run P w=.ok a w:=by
 intro s
 induction s with
 | pure a=>intro b h w;cases h;rfl
 | program k ih=>intro b h w;exact ih P h w
 | mark m k ih=>intro b h w;exact ih h w
 | load m a k _=>intro b h;cases h
 | store m a v k _=>intro b h;cases h
 | new o k _=>intro b h;cases h
 | shape r k _=>intro b h;cases h
 | freeze a n k _=>intro b h;cases h
 | frozen a k _=>intro b h;cases h
 | getObj r k _=>intro b h;cases h
 | setObj r o k _=>intro b h;cases h
 | choose q k _=>intro b h;cases h
 | sys c k _=>intro b h;cases h
 | halt hl=>intro b h;cases h
section tables
variable {P:Program} {t:TypeId} {w:World}
theorem eF {a:Bool} (h:lI P t=some a):(isAgg t).run P w=.ok a w:=by
 unfold lI at h
 split at h
 ·rename_i fs hu;cases h;simp[isAgg,run_underlying hu]
 ·rename_i n e hu;cases h;simp[isAgg,run_underlying hu]
 ·rename_i d h1 h2 hu
  cases h
  simp only[isAgg,Sem.run_bind,run_underlying hu,Result.andThen_ok]
  cases d <;> first|rfl|exact absurd hu (h1 _)|exact absurd hu (h2 _ _)
 ·cases h
theorem gX {n:Nat} (h:aV P t=some n):∃ i,P.info? t=some i∧i.size=n:=by
 unfold aV at h
 split at h
 ·rename_i i hi;cases h;exact ⟨i,hi,rfl⟩
 ·cases h
theorem cD {n:Nat} (h:aV P t=some n):(sizeOf t).run P w=.ok n w:=by
 obtain ⟨i,hi,rfl⟩:=gX h
 simp[sizeOf,typeInfo,hi]
theorem nO {n:Nat} (h:cQ P t=some n):∃ i,P.info? t=some i∧i.bytes=n:=by
 unfold cQ at h
 split at h
 ·rename_i i hi;cases h;exact ⟨i,hi,rfl⟩
 ·cases h
theorem iA {z:Value} (h:aB P t=some z):okV z=true∧(∀ vs,z≠.tuple vs)∧∃ i,P.info? t=some i∧i.zero=some z:=by
 unfold aB at h
 split at h
 ·rename_i i hi
  split at h
  ·rename_i y hy
   split at h
   ·cases h
   ·rename_i hne
    cases ho:okV y with
    | true=>rw[ho] at h;cases h;exact ⟨ho,fun vs=>hne vs,i,hi,hy⟩
    | false=>rw[ho] at h;cases h
  ·cases h
 ·cases h
theorem eE {z:Value} (h:aB P t=some z):(zeroValue t).run P w=.ok z w:=by
 obtain ⟨_,_,i,hi,hz⟩:=iA h
 simp[zeroValue,typeInfo,hi,hz]
theorem Au {e:TypeId} (h:qw P t=some e):P.underlying t=some (.slice e):=by
 unfold qw at h
 split at h
 ·cases h;assumption
 ·cases h
theorem jM {e:TypeId} {n:Nat} (h:bk P t=some (e,n)):P.underlying t=some (.slice e)∧aV P e=some n:=by
 unfold bk at h
 split at h
 ·rename_i e' he
  split at h
  ·rename_i n' hn;cases h;exact ⟨Au he,hn⟩
  ·cases h
 ·cases h
theorem Bx {k e:TypeId} (h:iT P t=some (k,e)):P.underlying t=some (.map k e):=by
 unfold iT at h
 split at h
 ·cases h;assumption
 ·cases h
theorem Fl {a:Bool} {n:Nat} (h:loadT P t=some (a,n)):lI P t=some a∧aV P t=some n:=by
 unfold loadT at h
 split at h
 ·rename_i a' n' h1 h2;cases h;exact ⟨h1,h2⟩
 ·cases h
theorem xw {f:Nat} {fo:Nat} {ft:TypeId} {n:Nat} (h:aH P t f=some (fo,ft,n)):
  ∃ fs fd,P.underlying t=some (.struct fs)∧fs[f]?=some fd∧fd.offset=fo∧fd.type=ft∧aV P ft=some n:=by
 unfold aH at h
 split at h
 ·rename_i fs hu
  split at h
  ·rename_i fd hf
   split at h
   ·rename_i n' hn;cases h;exact ⟨fs,fd,hu,hf,rfl,rfl,hn⟩
   ·cases h
  ·cases h
 ·cases h
end tables
def Out (m:Nat) (β:Pl) (H:Hp) (w:World) (l:List (AV×Hp)) (v:Value) (w':World):Prop:=
 ∃ x,x∈l∧∃ β',AR β' x.1 v∧Rel m β' x.2 w'∧Ext β H w β' x.2 w'
def aj (P:Program) (m:Nat) (β:Pl) (H:Hp) (w:World) (n:ae) (r:Result Next):Prop:=
 match n with
 | .val av H'=>H'.nx≤m→∃ v w',(r=.ok (.value v) w'∨(r=.ok .skip w'∧v=undef))∧Out m β H w [(av,H')] v w'
 | .vals l=>(∀ x∈l,x.2.nx≤m)→∃ v w',r=.ok (.value v) w'∧Out m β H w l v w'
 | .enter f args=>∃ vs:List Value,r=(callFunc f vs.toArray).run P w∧ARs β args vs∧al P f=true
 | .round id args=>∃ p vs,β id 0=some p∧ARs β args vs∧r=(Instr.yield p.b vs.toArray).run P w
 | .bad _=>True
section
variable {P:Program} {m:Nat} {β:Pl} {H:Hp} {w:World}
theorem aj.same (hR:Rel m β H w) {av:AV} {v:Value} {r:Result Next} (hr:r=.ok (.value v) w) (ha:AR β av v):aj P m β H w (.val av H) r:=
 fun _=>⟨v,w,.inl hr,_,List.mem_singleton.2 rfl,β,ha,hR,Ext.refl _ _ _⟩
theorem aj.guard {b:Bool} {s:String} {n:ae} {r:Result Next} (h:b=true→aj P m β H w n r):aj P m β H w (aK b s n) r:=by
 cases b with
 | true=>exact h rfl
 | false=>exact trivial
theorem aj.nd {α:Type} {o:Option α} {s:String} {f:α→ae} {r:Result Next} (h:∀ a,o=some a→aj P m β H w (f a) r):aj P m β H w (nd o s f) r:=by
 cases o with
 | none=>exact trivial
 | some a=>exact h a rfl
theorem ah {a b:Bool} (h:both a b=true):a=true∧b=true:=by
 cases a <;> cases b <;> first|exact ⟨rfl,rfl⟩|cases h
end
theorem Cd {P:Program} {m:Nat} {β:Pl} {H:Hp} {w:World} {x:AV} {v:Value} {e:ae} {f:Nat→Nat→Nat→Nat→ae} {r:Result Next} (hx:AR β x v) (he:∃ s,e=.bad s)
  (h:∀ id g off lim p,x=.one (.o (.ptr id g off lim))→β id g=some p→off+lim≤p.hi→v=.pointer (some ⟨p.b,p.o+off,none⟩)→aj P m β H w (f id g off lim) r):
  aj P m β H w (rk x e f) r:=by
 obtain ⟨s,rfl⟩:=he
 cases x with
 | one c=>
  cases c with
  | b _=>exact trivial
  | i _ _=>exact trivial
  | o x=>
   cases x with
   | ptr id g off lim=>
    obtain ⟨p,h1,h2,h3⟩:=hx
    exact h id g off lim p rfl h1 h2 h3
   | _=>exact trivial
 | agg _=>exact trivial
 | tup _=>exact trivial
 | any=>exact trivial
theorem IE {P:Program} {m:Nat} {β:Pl} {H:Hp} {w:World} {x:AV} {v:Value} {e:ae} {f:Nat→Nat→Nat→Nat→Nat→ae} {r:Result Next} (hx:AR β x v) (he:aj P m β H w e r)
  (h:∀ id g off len sz p cap o',x=.one (.o (.sl id g off len sz))→β id g=some p→off+len*sz≤p.hi→len≤cap→v=.slice (some o') len cap →
   (cap=0∨(o'=⟨p.b,p.o+off,none⟩∧p.o+off+cap*sz≤p.n))→aj P m β H w (f id g off len sz) r):
  aj P m β H w (slE x e f) r:=by
 cases x with
 | one c=>
  cases c with
  | b _=>exact he
  | i _ _=>exact he
  | o x=>
   cases x with
   | sl id g off len sz=>
    obtain ⟨p,cap,o',h1,h2,h3,h4,h5⟩:=hx
    exact h id g off len sz p cap o' rfl h1 h2 h3 h4 h5
   | _=>exact he
 | agg _=>exact he
 | tup _=>exact he
 | any=>exact he
theorem ph {P:Program} {m:Nat} {β:Pl} {H:Hp} {w:World} {x:AV} {v:Value} {e:ae} {f:IntKind→Int→ae} {r:Result Next} (hx:AR β x v) (he:aj P m β H w e r)
  (h:∀ k n,v=.int k n→aj P m β H w (f k n) r):aj P m β H w (eJ x e f) r:=by
 cases x with
 | one c=>
  cases c with
  | b _=>exact he
  | i k n=>exact h k n hx
  | o x=>exact he
 | agg _=>exact he
 | tup _=>exact he
 | any=>exact he
theorem FG {P:Program} {m:Nat} {β:Pl} {H:Hp} {w:World} {x:AV} {v:Value} {e:ae} {f:Bool→ae} {r:Result Next} (hx:AR β x v) (he:aj P m β H w e r)
  (h:∀ b,v=.bool b→aj P m β H w (f b) r):aj P m β H w (dP x e f) r:=by
 cases x with
 | one c=>
  cases c with
  | b b=>exact h b hx
  | i k n=>exact he
  | o x=>exact he
 | agg _=>exact he
 | tup _=>exact he
 | any=>exact he
theorem sQ {P:Program} {m:Nat} {β:Pl} {H:Hp} {w:World} {x:AV} {v:Value} {e:ae} {f:List UInt8→ae} {r:Result Next} (hx:AR β x v) (he:aj P m β H w e r)
  (h:∀ s,v=.string ⟨s.toArray⟩→aj P m β H w (f s) r):aj P m β H w (gH x e f) r:=by
 cases x with
 | one c=>
  cases c with
  | b b=>exact he
  | i k n=>exact he
  | o x=>
   cases x with
   | str s=>exact h s hx
   | _=>exact he
 | agg _=>exact he
 | tup _=>exact he
 | any=>exact he
theorem lG {β:Pl} {w:World} {cells:List AC} {p:Place} (h:oe β w cells p) (off n:Nat) (hn:off+n≤p.hi):
  ∃ vs:List Value,vs.length=n∧CRs β ((cells.drop off).take n) vs∧∀ j v,vs[j]?=some v→w.cell? ((⟨p.b,p.o+off,none⟩:Addr).add j)=some v:=by
 obtain ⟨c,e,f,h1,h2,h3,h4,h5⟩:=h
 refine ⟨(c.toList.drop (p.o+off)).take n,?_,?_,?_⟩
 ·simp only[List.length_take,List.length_drop,Array.length_toList];omega
 ·refine CRs.dJ (by simp only[List.length_take,List.length_drop,Array.length_toList];omega) fun k x v hx hv=>?_
  rw[List.getElem?_take] at hx hv
  split at hx
  ·rename_i hk
   rw[if_pos hk] at hv
   rw[List.getElem?_drop] at hx hv
   obtain ⟨v',hv',hr⟩:=h5 (off+k) x (by omega) hx
   have:v'=v:=by
    rw[Array.getElem?_toList] at hv
    rw[show p.o+(off+k)=p.o+off+k from by omega,hv] at hv'
    exact (Option.some.inj hv').symm
   exact this ▸ hr
  ·cases hx
 ·intro j v hv
  rw[List.getElem?_take] at hv
  split at hv
  ·rename_i hk
   rw[List.getElem?_drop,Array.getElem?_toList] at hv
   have:(⟨p.b,p.o+off,none⟩:Addr).add j=⟨p.b,p.o+off+j,none⟩:=by unfold Addr.add;split <;> simp_all
   rw[this]
   simp[World.cell?,h1,hv]
  ·cases hv
theorem mH {m:Nat} {β:Pl} {H:Hp} {w:World} (hR:Rel m β H w) {id g:Nat} {cells:List AC} {e:TypeId} {lo gen:Nat} (ho:H.get id=some (.arr cells e lo gen)) (h1:lo≤g) (h2:g≤gen)
  {p:Place} (hp:β id g=some p):gj β w cells e p∧(g=gen→p.hi=cells.length):=by
 obtain ⟨_,hrow,_,_⟩:=hR.obj id _ ho
 obtain ⟨q,hq,hr,hh⟩:=hrow g h1 h2
 rw[hp] at hq;cases hq
 exact ⟨hr,hh⟩
theorem mE {H:Hp} {id g off lim n:Nat} {c:List AC} (h:eL H id g off lim n=some c):
  ∃ cells,(∀ {m:Nat} {β:Pl} {w:World},Rel m β H w→∀ {p:Place},β id g=some p→oe β w cells p)∧n≤lim∧off+n≤cells.length∧c=(cells.drop off).take n:=by
 unfold eL rdO at h
 cases ho:H.get id with
 | none=>rw[ho] at h;cases h
 | some o=>
  cases o with
  | oth x=>rw[ho] at h;cases h
  | arr cells e lo gen=>
   rw[ho] at h
   simp only[bV,cO,bq,kB] at h
   split at h
   ·rename_i hc
    simp only[Bool.and_eq_true,Nat.ble_eq] at hc
    cases h
    exact ⟨cells,fun hR _ hp=>(mH hR ho hc.1 hc.2.1 hp).1.d,hc.2.2.1,hc.2.2.2,rfl⟩
   ·cases h
  | ro cells=>
   rw[ho] at h
   simp only[bV,cO,bq,kB] at h
   split at h
   ·rename_i hc
    simp only[Bool.and_eq_true,Nat.ble_eq] at hc
    cases h
    have hg0:=Nat.eq_of_beq_eq_true hc.1
    refine ⟨cells,fun hR p hp=>?_,hc.2.1,hc.2.2,rfl⟩
    obtain ⟨q,hq,hr⟩:=hR.obj id _ ho
    rw[hg0,hq] at hp;cases hp
    exact hr
   ·cases h
theorem Sa {P:Program} {m:Nat} {β:Pl} {H:Hp} {w:World} (hR:Rel m β H w) {t:TypeId} {a:Bool} {n:Nat} (ht:loadT P t=some (a,n)) {x:AV} {v:Value} (hx:AR β x v):
  aj P m β H w (cm H a n x) ((do let y ←Instr.loadAt t v;pure (Next.value y):Sem Next).run P w):=by
 obtain ⟨ha,hn⟩:=Fl ht
 unfold cm
 refine Cd hx ⟨_,rfl⟩ fun id g off lim p _ hp hlim hv=>?_
 subst hv
 refine aj.nd fun c hc=>?_
 obtain ⟨cells,hD,h3,h4,rfl⟩:=mE hc
 have hr:=hD hR hp
 obtain ⟨vs,hvl,hvs,hcell⟩:=lG hr off n (by omega)
 cases a with
 | true=>
  show aj P m β H w (.val (.agg _) H) _
  refine aj.same hR (v:=.agg vs.toArray) ?_ ⟨vs,hvs,rfl⟩
  have hl:=run_loadCells_list (P:=P) w ⟨p.b,p.o+off,none⟩ vs hcell
  rw[hvl] at hl
  simp[Instr.loadAt,Instr.sureAddr,loadVar,eF ha,cD hn,hl]
 | false=>
  cases hcs:(cells.drop off).take n with
  | nil=>exact trivial
  | cons y l=>
   rw[hcs] at hvs
   cases vs with
   | nil=>exact hvs.elim
   | cons u us=>
    show aj P m β H w (.val (.one y) H) _
    refine aj.same hR (v:=u) ?_ hvs.1
    have h0:=hcell 0 u rfl
    have:(⟨p.b,p.o+off,none⟩:Addr).add 0=⟨p.b,p.o+off,none⟩:=rfl
    rw[this] at h0
    simp[Instr.loadAt,Instr.sureAddr,loadVar,eF ha,run_load,h0]
theorem fV {α:Type} (l:List α) (off:Nat) (c:List α) (k:Nat) (h:off+c.length≤l.length):
  (l.take off++(c++l.drop (off+c.length)))[k]?=if k<off then l[k]? else if k<off+c.length then c[k - off]? else l[k]?:=by
 have ht:(l.take off).length=off:=by simp;omega
 by_cases h1:k<off
 ·rw[if_pos h1,List.getElem?_append_left (by omega),List.getElem?_take,if_pos h1]
 ·rw[if_neg h1,List.getElem?_append_right (by omega),ht]
  by_cases h2:k<off+c.length
  ·rw[if_pos h2,List.getElem?_append_left (by omega)]
  ·rw[if_neg h2,List.getElem?_append_right (by omega),List.getElem?_drop]
   congr 1
   omega
theorem eV {α:Type} (l:List α) (off:Nat) (c:List α) (h:off+c.length≤l.length):(l.take off++(c++l.drop (off+c.length))).length=l.length:=by
 simp only[List.length_append,List.length_take,List.length_drop];omega
theorem tn {β:Pl} {w:World} {cells:List AC} {e:TypeId} {p:Place} (h:gj β w cells e p) (hp:p.hi=cells.length) {off:Nat} {c:List AC} {vs:List Value} (hc:CRs β c vs) (hoff:off+c.length≤cells.length):
  ∃ cur:Array Value,w.heap[p.b]?=some (.cells cur e (0,0))∧p.o+off+0+vs.length≤cur.size ∧
   gj β (w.setRow p.b (cur.toList.take (p.o+off+0)++vs++cur.toList.drop (p.o+off+0+vs.length)).toArray) (cells.take off++(c++cells.drop (off+c.length))) e p:=by
 obtain ⟨cur,h1,h2,h3,h4,h5⟩:=h
 have hl:=hc.length
 refine ⟨cur,h1,by omega,?_⟩
 have hfit:p.o+off+0+vs.length≤cur.toList.length:=by simp;omega
 refine ⟨_,setRow_heap w p.b cur _ e _ h1,?_,h3,by rw[eV _ _ _ hoff];exact h4,?_⟩
 ·rw[List.append_assoc,List.size_toArray,eV _ _ _ hfit];simpa using h2
 ·intro k x hk hx
  rw[fV _ _ _ _ hoff] at hx
  rw[List.append_assoc,List.getElem?_toArray,fV _ _ _ _ hfit]
  by_cases a1:k<off
  ·rw[if_pos a1] at hx
   rw[if_pos (by omega)]
   simpa using h5 k x hk hx
  ·rw[if_neg a1] at hx
   rw[if_neg (by omega)]
   by_cases a2:k<off+c.length
   ·rw[if_pos a2] at hx
    rw[if_pos (by omega)]
    have hlt:k - off<vs.length:=by omega
    refine ⟨vs[k - off],?_,hc.get (k - off) x _ hx (List.getElem?_eq_getElem hlt)⟩
    rw[show p.o+k - (p.o+off+0)=k - off from by omega,List.getElem?_eq_getElem hlt]
   ·rw[if_neg a2] at hx
    rw[if_neg (by omega)]
    simpa using h5 k x hk hx
theorem LU {β:Pl} {w w':World} {id:Nat} {cells cells':List AC} {e:TypeId} {lo gen:Nat} {p:Place} (h:fN β w id (.arr cells e lo gen)) (hp:β id gen=some p) (hr:gj β w' cells' e p) (hl:p.hi=cells'.length):
  fN β w' id (.arr cells' e gen gen):=by
 refine ⟨Nat.le_refl _,?_,?_,h.2.2.2⟩
 ·intro g h1 h2
  have:g=gen:=by omega
  subst this
  exact ⟨p,hp,hr,fun _=>hl⟩
 ·intro g g' q q' h1 h2 h3 hq hq'
  have e1:g=gen:=by omega
  have e2:g'=gen:=by omega
  subst e1;subst e2
  rw[hq] at hq';cases hq'
  exact ⟨Nat.le_refl _,fun _=>rfl⟩
theorem Ro {P:Program} {m:Nat} {β:Pl} {H:Hp} {w:World} (hR:Rel m β H w) (hm:m≤m) {t:TypeId} {n:Nat} (ht:aV P t=some n) {x y:AV} {v u:Value} (hx:AR β x v) (hy:AR β y u):
  aj P m β H w (fC H n x y) ((do Instr.storeAt t u v;pure Next.skip:Sem Next).run P w):=by
 unfold fC
 refine Cd hy ⟨_,rfl⟩ fun id g off lim p _ hp hlim hu=>?_
 subst hu
 unfold nk
 cases ho:H.get id with
 | none=>exact trivial
 | some o=>
  cases o with
  | oth x=>exact trivial
  | ro x=>exact trivial
  | arr cells e lo gen=>
   refine aj.guard fun hc=>?_
   have hnt:x.bA=true:=(ah (ah (ah (ah (ah hc).2).2).2).2).2
   have hc1:Nat.beq g gen=true:=(ah hc).1
   have hc2:Nat.beq (bE x.cells) n=true:=(ah (ah hc).2).1
   have hc3:Nat.ble n lim=true:=(ah (ah (ah hc).2).2).1
   have hc4:Nat.ble (Nat.add off n) (bE cells)=true:=(ah (ah (ah (ah hc).2).2).2).1
   have hc5:Nat.ble lo gen=true:=(ah (ah (ah (ah (ah hc).2).2).2).2).1
   have e1:g=gen:=Nat.eq_of_beq_eq_true hc1
   have e2:(bE x.cells)=n:=Nat.eq_of_beq_eq_true hc2
   have e4:off+n≤bE cells:=Nat.le_of_ble_eq_true hc4
   have e5:lo≤gen:=Nat.le_of_ble_eq_true hc5
   rw[bq] at e2 e4
   subst e1
   intro hnx
   have hcs:=hx.cells hnt
   have hvl:v.cells.size=n:=by rw[←e2];simpa using hcs.length
   obtain ⟨hrow,hhi⟩:=mH hR ho e5 (Nat.le_refl _) hp
   obtain ⟨cur,hg,hfit,hrow'⟩:=tn hrow (hhi rfl) hcs (by rw[e2];exact e4)
   have hst:=run_storeCells_at P p.b (p.o+off) e v.cells.toList 0 cur w hg hfit hcs.kO
   have hmod:=jZ hR hm hnx ho (.arr (eN cells off x.cells) e g g) (β':=β) (w':=w.setRow p.b (cur.toList.take (p.o+off+0)++v.cells.toList++cur.toList.drop (p.o+off+0+v.cells.toList.length)).toArray)
    (fun _ _ _ h=>h) (fun _ _ _=>rfl) (by simp) (by simp) (by simp) (by simp)
    (fun b _ hb=>setRow_other w p.b b _ (fun hh=>hb g p ⟨e5,Nat.le_refl _⟩ hp hh.symm))
    (by rw[fi];exact LU (hR.obj id _ ho) hp hrow' (by rw[eV _ _ _ (by rw[e2];exact e4)];exact hhi rfl))
    (fun g0 p0 hg0 hp0=>.inr ⟨g,p,⟨e5,Nat.le_refl _⟩,hp,by
     have:g0=g:=by have:=hg0.1;have:=hg0.2;omega
     subst this;rw[hp] at hp0;cases hp0;rfl⟩)
   refine ⟨undef,_,.inr ⟨?_,rfl⟩,_,List.mem_singleton.2 rfl,β,⟨[],trivial,rfl⟩,hmod.1,hmod.2⟩
   simp[Instr.storeAt,Instr.sureAddr,storeVar,cD ht,hvl,hst]
theorem Out.one {m:Nat} {β β':Pl} {H H':Hp} {w w':World} {av:AV} {v:Value} (ha:AR β' av v) (h:Rel m β' H' w'∧Ext β H w β' H' w'):Out m β H w [(av,H')] v w':=
 ⟨_,List.mem_singleton.2 rfl,β',ha,h.1,h.2⟩
theorem xl {P:Program} {m:Nat} {β:Pl} {H:Hp} {w:World} (hR:Rel m β H w) (hm:m≤m) {cells:List AC} {vs:Array Value} (e:TypeId) (hc:CRs β cells vs.toList) {r:Result Next}
  (hr:r=.ok (.value (.pointer (some ⟨w.heap.size,0,none⟩))) (w.alloc (.cells vs e))):aj P m β H w (gJ H cells e) r:=by
 intro hnx
 have hnx':H.nx+1≤m:=hnx
 have h:=sT hR hm (by omega) cells vs e hc w rfl rfl rfl rfl #[]
 refine ⟨_,_,.inl hr,Out.one ?_ (by simpa using h)⟩
 refine ⟨_,aQ _ _ _ _,?_,rfl⟩
 show 0+bE cells≤cells.length
 rw[bq];omega
theorem Pk {P:Program} {m:Nat} {β:Pl} {H:Hp} {w:World} (hR:Rel m β H w) (hm:m≤m) {e:TypeId} {z:Value} (hz:aB P e=some z):
  aj P m β H w (gJ H (ofValue z).cells e) ((do let y ←Instr.alloc e true (.tuple #[]);pure (Next.value y):Sem Next).run P w):=by
 obtain ⟨ho,hn,_⟩:=iA hz
 refine xl hR hm e (vs:=z.cells) ((dN ho).cells (lH hn)) ?_
 simp only[Instr.alloc,Sem.run_bind,eE hz,Result.andThen_ok]
 rfl
theorem Ux {P:Program} {m:Nat} {β:Pl} {H:Hp} {w:World} (hR:Rel m β H w) (hm:m≤m) (e:TypeId) {x:AV} {v:Value} (hx:AR β x v):
  aj P m β H w (aK x.bA "box - a tuple" (gJ H x.cells e)) ((do let y ←Instr.box e v;pure (Next.value y):Sem Next).run P w):=by
 refine aj.guard fun hn=>?_
 refine xl hR hm e (vs:=v.cells) (hx.cells hn) ?_
 rfl
theorem ML (off:Nat):∀ (vs:List Value) (i:Nat) (cs:Array Value),off+i+vs.length≤cs.size →
  ((vs.zipIdx i).foldl (fun cs (x:Value×Nat)=>cs.setIfInBounds (off+x.2) x.1) cs).toList=cs.toList.take (off+i)++(vs++cs.toList.drop (off+i+vs.length)):=by
 intro vs
 induction vs with
 | nil=>intro i cs _;simp
 | cons v vs ih=>
  intro i cs h
  simp only[List.length_cons] at h
  simp only[List.zipIdx_cons,List.foldl_cons]
  rw[ih (i+1) _ (by simp;omega)]
  rw[Array.toList_setIfInBounds]
  apply List.ext_getElem?
  intro k
  have hlen:cs.toList.length=cs.size:=by simp
  have e1:=fV (cs.toList.set (off+i) v) (off+(i+1)) vs k (by simp;omega)
  have e2:=fV cs.toList (off+i) (v::vs) k (by simp;omega)
  rw[e1]
  rw[e2]
  simp only[List.length_cons]
  by_cases a1:k<off+i
  ·rw[if_pos (by omega),if_pos a1,List.getElem?_set_ne (by omega)]
  ·by_cases a2:k=off+i
   ·subst a2
    rw[if_pos (by omega),if_neg (by omega),if_pos (by omega),List.getElem?_set_self (by omega)]
    simp
   ·rw[if_neg (by omega),if_neg a1]
    by_cases a3:k<off+(i+1)+vs.length
    ·rw[if_pos a3,if_pos (by omega)]
     rw[show k - (off+i)=(k - (off+(i+1)))+1 from by omega,List.getElem?_cons_succ]
    ·rw[if_neg a3,if_neg (by omega),List.getElem?_set_ne (by omega)]
theorem Le {β:Pl} {tm:PT AV} {a:Act} (htm:∀ t,AR β (ay (tm.get t) aG fun v=>v) (a.tmps.getD t undef)) {place:Nat→Option (Nat×Nat)}:
  ∀ {l:List (Nat×Operand)} {r:List (Nat×Nat×OpF)} {z:List AC} {c:List AC} {vs:Array Value},cP place l=some r→eS tm r z=some c→CRs β z vs.toList →
   ∃ us:Array Value,Instr.fill place vs (l.map fun p=>(p.1,a.eval p.2))=some us∧CRs β c us.toList∧c.length=z.length:=by
 intro l
 induction l with
 | nil=>
  intro r z c vs h hf hz
  cases h
  have:z=c:=by injection hf
  subst this
  exact ⟨vs,rfl,hz,rfl⟩
 | cons q l ih=>
  intro r z c vs h hf hz
  obtain ⟨i,x⟩:=q
  unfold cP at h
  split at h
  ·rename_i p r' hp hr'
   cases h
   have hx:=bM htm x
   have hf':ifE (both (Nat.beq (bE ((opF x).ev tm).cells) p.2) (both (Nat.ble (Nat.add p.1 p.2) (bE z)) ((opF x).ev tm).bA)) (eS tm r' (eN z p.1 ((opF x).ev tm).cells)) none=some c:=hf
   rw[bV] at hf'
   split at hf'
   ·rename_i hc
    have h1:bE ((opF x).ev tm).cells=p.2:=Nat.eq_of_beq_eq_true (ah hc).1
    have h2:p.1+p.2≤bE z:=Nat.le_of_ble_eq_true (ah (ah hc).2).1
    have h3:((opF x).ev tm).bA=true:=(ah (ah hc).2).2
    rw[bq] at h1 h2
    have hcs:CRs β ((opF x).ev tm).cells (a.eval x).cells.toList:=AR.cells hx h3
    have hl:=hcs.length
    have hzl:=hz.length
    simp only[Array.length_toList] at hl hzl
    have hsz:¬((a.eval x).cells.size≠p.2∨p.1+(a.eval x).cells.size>vs.size):=by omega
    have hfs:=ML p.1 (a.eval x).cells.toList 0 vs (by simp;omega)
    have hrel:CRs β (eN z p.1 ((opF x).ev tm).cells) (((a.eval x).cells.zipIdx.foldl (fun cs (x:Value×Nat)=>cs.setIfInBounds (p.1+x.2) x.1) vs)).toList:=by
     rw[←Array.foldl_toList,Array.toList_zipIdx,hfs,fi]
     refine CRs.append (by simpa using hz.take p.1) (CRs.append hcs ?_)
     have:=hz.drop (p.1+((opF x).ev tm).cells.length)
     simpa [hl] using this
    obtain ⟨us,hu1,hu2,hu3⟩:=ih hr' hf' hrel
    refine ⟨us,?_,hu2,by rw[hu3,fi,eV _ _ _ (by omega)]⟩
    simp only[List.map_cons,Instr.fill,hp]
    rw[if_neg (by simpa using hsz)]
    exact hu1
   ·cases hf'
  ·cases h
theorem QD {P:Program} {m:Nat} {β:Pl} {H:Hp} {w:World} (hR:Rel m β H w) {tm:PT AV} {a:Act} (htm:∀ t,AR β (ay (tm.get t) aG fun v=>v) (a.tmps.getD t undef))
  {t:TypeId} {z:Value} {pl:Nat→Option (Nat×Nat)} {parts:Array (Nat×Operand)} {ps:List (Nat×Nat×OpF)} (hz:aB P t=some z) (hpl:cC P t=some pl) (hps:cP pl parts.toList=some ps):
  aj P m β H w (mG H (ofValue z).cells tm ps) ((do let y ←Instr.build t (parts.map fun (i,x)=>(i,a.eval x));pure (Next.value y):Sem Next).run P w):=by
 refine aj.nd fun c hc=>?_
 obtain ⟨ho,hn,it,hit,hiz⟩:=iA hz
 obtain ⟨us,hu,hcs,_⟩:=Le htm hps hc (vs:=z.cells) ((dN ho).cells (lH hn))
 have hb:P.built t (parts.map fun (i,x)=>(i,a.eval x)).toList=some us:=by
  unfold cC at hpl
  unfold Program.built
  rw[hit]
  split at hpl
  ·rename_i fs hun
   split at hpl
   ·rename_i places hp
    cases hpl
    simp only[hun,hiz,hp]
    rw[←hu]
    simp
   ·cases hpl
  ·rename_i n el hun
   split at hpl
   ·rename_i ie hie
    cases hpl
    simp only[hun,hiz,hie]
    rw[←hu]
    simp
   ·cases hpl
  ·cases hpl
 refine aj.same hR (v:=.agg us) ?_ ⟨us.toList,hcs,by simp⟩
 simp only[Sem.run_bind,run_build w t _ us hb,Result.andThen_ok]
 rfl
theorem QE (z:List AC):∀ (n k:Nat),(jt z n)[k]?=if k<n*z.length then z[k % z.length]? else none:=by
 intro n
 induction n with
 | zero=>intro k;show ([]:List AC)[k]?=_;simp
 | succ n ih=>
  intro k
  show (nn z (jt z n))[k]?=_
  rw[kM]
  have e:(n+1)*z.length=n*z.length+z.length:=by rw[Nat.add_mul];simp
  by_cases h:k<z.length
  ·rw[List.getElem?_append_left h,if_pos (by omega),Nat.mod_eq_of_lt h]
  ·rw[List.getElem?_append_right (by omega),ih]
   by_cases h2:k<(n+1)*z.length
   ·rw[if_pos h2,if_pos (by omega)]
    congr 1
    exact (Nat.mod_eq_sub_mod (by omega)).symm
   ·rw[if_neg h2,if_neg (by omega)]
theorem vp (z:List AC) (n:Nat):(jt z n).length=n*z.length:=by
 induction n with
 | zero=>show ([]:List AC).length=_;simp
 | succ n ih=>
  show (nn z (jt z n)).length=_
  rw[kM,List.length_append,ih,Nat.add_mul];omega
theorem KB {β:Pl} {z:List AC} {vs:Array Value} (h:CRs β z vs.toList) (n:Nat):CRs β (jt z n) ((Array.range (n*vs.size)).map (vs[· % vs.size]!)).toList:=by
 have hl:vs.size=z.length:=by simpa using h.length
 refine CRs.dJ (by simp[vp,hl]) fun k c v hc hv=>?_
 rw[QE] at hc
 split at hc
 ·rename_i hk
  have hk':k<n*vs.size:=by rw[hl];exact hk
  have hpos:0<vs.size:=by
   rcases Nat.eq_zero_or_pos vs.size with h0|h0
   ·rw[h0] at hk';omega
   ·exact h0
  have hm:k % vs.size<vs.size:=Nat.mod_lt _ hpos
  have hv':v=vs[k % vs.size]:=by
   simp[hk'] at hv
   rw[←hv,getElem!_pos vs _ hm]
  rw[hv']
  refine h.get (k % vs.size) c _ ?_ ?_
  ·rw[hl];exact hc
  ·simp[hm]
 ·cases hc
theorem wx {P:Program} {m:Nat} {β:Pl} {H:Hp} {w:World} (hR:Rel m β H w) (hm:m≤m) {tm:PT AV} {a:Act} (htm:∀ t,AR β (ay (tm.get t) aG fun v=>v) (a.tmps.getD t undef))
  {t e:TypeId} {sz len:Nat} {z:Value} {parts:Array (Nat×Operand)} {ps:List (Nat×Nat×OpF)} (he:bk P t=some (e,sz)) (hz:aB P e=some z) (h24:len*sz≤16777216) (hzl:(ofValue z).cells.length=sz)
  (hps:cP (fun i=>some (i*sz,sz)) parts.toList=some ps):
  aj P m β H w (gZ H (jt (ofValue z).cells len) tm e sz len ps) ((do let y ←Instr.buildSlice t len (parts.map fun (i,x)=>(i,a.eval x));pure (Next.value y):Sem Next).run P w):=by
 refine aj.nd fun c hc=>?_
 intro hnx
 have hnx':H.nx+1≤m:=hnx
 obtain ⟨hu,hs⟩:=jM he
 obtain ⟨ho,hn,it,hit,hiz⟩:=iA hz
 have hzc:CRs β (ofValue z).cells z.cells.toList:=(dN ho).cells (lH hn)
 have hzs:z.cells.size=sz:=by rw[←hzl];simpa using hzc.length
 have hrep:=KB hzc len
 rw[hzs] at hrep
 obtain ⟨us,hus,hcs,hclen⟩:=Le htm hps hc hrep
 have hlen:c.length=len*sz:=by rw[hclen,vp,hzl]
 have h:=sT hR hm (by omega) c us e hcs w rfl rfl rfl rfl #[]
 have hus':Instr.fill (fun i=>some (i*sz,sz)) ((Array.range (len*sz)).map (z.cells[· % sz]!)) (parts.map fun (i,x)=>(i,a.eval x)).toList=some us:=by rw[←hus];simp
 have hrun:(Instr.buildSlice t len (parts.map fun (i,x)=>(i,a.eval x))).run P w=.ok (.slice (some ⟨w.heap.size,0,none⟩) len len) (w.alloc (.cells us e)):=by
  have h24':¬(len*sz>2 ^ 24):=by omega
  by_cases h0:len*sz=0
  ·rw[h0] at hus'
   simp only[Instr.buildSlice,Sem.run_bind,run_underlying hu,Result.andThen_ok,cD hs,h0]
   rw[if_neg (by omega)]
   simp only[if_true,Sem.run_bind,Sem.run_pure,Result.andThen_ok]
   have hr:∀ f:Nat→Value,(Array.range 0).map f=#[]:=fun f=>by apply Array.ext';simp
   simp only[hr] at hus' ⊢
   rw[hus']
   rfl
  ·simp only[Instr.buildSlice,Sem.run_bind,run_underlying hu,Result.andThen_ok,cD hs,if_neg h24',if_neg h0,eE hz,Sem.run_pure]
   rw[hzs,hus']
   rfl
 refine ⟨_,_,.inl (by simp only[Sem.run_bind,hrun,Result.andThen_ok];rfl),Out.one ?_ (by simpa using h)⟩
 refine ⟨_,len,_,aQ _ _ _ _,?_,Nat.le_refl _,rfl,.inr ⟨rfl,?_⟩⟩
 ·show 0+len*sz≤c.length
  omega
 ·have:=hcs.length
  simp at this
  show 0+0+len*sz≤us.size+(#[]:Array Value).size
  simp
  omega
section
variable {P:Program} {m:Nat} {β:Pl} {H:Hp} {w:World}
theorem qj (b o n:Nat):(⟨b,o,none⟩:Addr).add n=⟨b,o+n,none⟩:=by unfold Addr.add;split <;> simp_all
theorem Bk (hR:Rel m β H w) {s:TypeId} {f fo:Nat} {ft:TypeId} {n:Nat} (ht:aH P s f=some (fo,ft,n)) {x:AV} {v:Value} (hx:AR β x v):
  aj P m β H w (dF H fo n x) ((do let y ←Instr.fieldAt s v f;pure (Next.value y):Sem Next).run P w):=by
 obtain ⟨fs,fd,hu,hf,rfl,rfl,hn⟩:=xw ht
 unfold dF
 refine Cd hx ⟨_,rfl⟩ fun id g off lim p _ hp hlim hv=>?_
 subst hv
 refine aj.guard fun hc=>?_
 have h1:1≤n:=Nat.le_of_ble_eq_true (ah hc).1
 have h2:fd.offset+n≤lim:=Nat.le_of_ble_eq_true (ah hc).2
 refine aj.same hR (v:=.pointer (some ⟨p.b,p.o+off+fd.offset,none⟩)) ?_ ⟨p,hp,?_,?_⟩
 ·have hn0:¬n=0:=by omega
  simp[Instr.fieldAt,run_underlying hu,hf,Instr.sureAddr,fieldPlace,cD hn,hn0,qj]
 ·show Nat.add off fd.offset+Nat.sub lim fd.offset≤p.hi
  have e1:Nat.add off fd.offset=off+fd.offset:=rfl
  have e2:Nat.sub lim fd.offset=lim - fd.offset:=rfl
  omega
 ·show _=Value.pointer (some ⟨p.b,p.o+(off+fd.offset),none⟩)
  rw[Nat.add_assoc]
theorem lW {n:Int} {k:Nat} (h:uZ n=some k):n=(k:Int):=by
 cases n with
 | ofNat j=>cases h;rfl
 | negSucc j=>cases h
theorem BH (hR:Rel m β H w) {t e:TypeId} {sz':Nat} (ht:bk P t=some (e,sz')) {x i:AV} {v u:Value} (hx:AR β x v) (hi:AR β i u):
  aj P m β H w (bR H sz' x i) ((do let y ←Instr.indexAt t v u;pure (Next.value y):Sem Next).run P w):=by
 obtain ⟨hu,hs⟩:=jM ht
 unfold bR
 refine IE hx trivial fun id g off len sz p cap o' _ hp hlen hcap hv hex=>?_
 subst hv
 refine ph hi trivial fun k n hn=>?_
 subst hn
 refine aj.nd fun n' hn'=>?_
 rw[lW hn']
 refine aj.guard fun hc=>?_
 have h1:sz=sz':=Nat.eq_of_beq_eq_true (ah hc).1
 have h2:n'<len:=Nat.le_of_ble_eq_true (ah hc).2
 subst h1
 have hex':o'=⟨p.b,p.o+off,none⟩:=by
  rcases hex with h|h
  ·omega
  ·exact h.1
 subst hex'
 have hmul:(n'+1)*sz≤len*sz:=Nat.mul_le_mul_right _ h2
 rw[Nat.add_mul] at hmul
 refine aj.same hR (v:=.pointer (some ⟨p.b,p.o+off+n'*sz,none⟩)) ?_ ⟨p,hp,?_,?_⟩
 ·simp[Instr.indexAt,asIntOf,run_underlying hu,cD hs,qj]
  intro hge
  omega
 ·show Nat.add off (Nat.mul n' sz)+sz≤p.hi
  have e1:Nat.add off (Nat.mul n' sz)=off+n'*sz:=rfl
  omega
 ·show _=Value.pointer (some ⟨p.b,p.o+(off+n'*sz),none⟩)
  rw[Nat.add_assoc]
theorem uL {lo:Option Operand} {tm:PT AV} {a:Act} (htm:∀ t,AR β (ay (tm.get t) aG fun v=>v) (a.tmps.getD t undef)) {d k:Nat} (h:Ca (lo.map (ev tm)) d=some k):
  match lo.map a.eval with
  | none=>k=d
  | some v=>∃ kd,v=.int kd k:=by
 cases lo with
 | none=>exact (Option.some.inj h).symm
 | some x=>
  have hx:=bM htm x
  show ∃ kd,a.eval x=.int kd k
  have h':eJ (ev tm x) none (fun _ n=>uZ n)=some k:=h
  revert hx h'
  cases ev tm x with
  | one c=>
   cases c with
   | i kd n=>intro hx h';rw[lW h'] at hx;exact ⟨kd,hx⟩
   | b _=>intro _ h';cases h'
   | o _=>intro _ h';cases h'
  | agg _=>intro _ h';cases h'
  | tup _=>intro _ h';cases h'
  | any=>intro _ h';cases h'
theorem run_sliceBound (kd:IntKind) (k y:Nat) (code:BoundsCode) (h:k≤y):(Instr.sliceBound (.int kd k) y code).run P w=.ok k w:=by
 have h':(k:Int)≤(y:Int):=by omega
 simp[Instr.sliceBound,asIntOf,h']
theorem Ri (hR:Rel m β H w) {tm:PT AV} {a:Act} (htm:∀ t,AR β (ay (tm.get t) aG fun v=>v) (a.tmps.getD t undef)) {t e:TypeId} {sz':Nat} (ht:bk P t=some (e,sz')) {x:Operand} {lo hi:Option Operand}
  {alt:ae} (halt:aj P m β H w alt ((do let y ←Instr.sliceAt t (a.eval x) (lo.map a.eval) (hi.map a.eval) none;pure (Next.value y):Sem Next).run P w)):
  aj P m β H w (de H sz' (ev tm x) (lo.map (ev tm)) (hi.map (ev tm)) alt) ((do let y ←Instr.sliceAt t (a.eval x) (lo.map a.eval) (hi.map a.eval) none;pure (Next.value y):Sem Next).run P w):=by
 obtain ⟨hu,hs⟩:=jM ht
 unfold de
 refine IE (bM htm x) halt fun id g off len sz p cap o' _ hp hlen hcap hv hex=>?_
 rw[hv]
 refine aj.nd fun l hl=>aj.nd fun r hr=>aj.guard fun hc=>?_
 have h1:sz=sz':=Nat.eq_of_beq_eq_true (ah hc).1
 have h2:l≤r:=Nat.le_of_ble_eq_true (ah (ah hc).2).1
 have h3:r≤len:=Nat.le_of_ble_eq_true (ah (ah hc).2).2
 subst h1
 have bl:=uL htm hl
 have br:=uL htm hr
 have hb:(Instr.sliceBounds true len cap (lo.map a.eval) (hi.map a.eval) none).run P w=.ok (l,r,cap) w:=by
  cases hi with
  | none=>
   have hr':r=len:=br
   cases lo with
   | none=>
    have hl':l=0:=bl
    rw[hr',hl']
    rfl
   | some y=>
    obtain ⟨kd,hk⟩:=(bl:∃ kd,a.eval y=.int kd l)
    rw[hr']
    simp only[Instr.sliceBounds,Option.map_some,Option.map_none,hk,Sem.run_bind,Sem.run_pure,Result.andThen_ok,run_sliceBound kd l len _ (by omega)]
  | some z=>
   obtain ⟨kd2,hk2⟩:=(br:∃ kd,a.eval z=.int kd r)
   cases lo with
   | none=>
    have hl':l=0:=bl
    rw[hl']
    simp only[Instr.sliceBounds,Option.map_some,Option.map_none,hk2,Sem.run_bind,Sem.run_pure,Result.andThen_ok,run_sliceBound kd2 r cap _ (by omega)]
   | some y=>
    obtain ⟨kd,hk⟩:=(bl:∃ kd,a.eval y=.int kd l)
    simp only[Instr.sliceBounds,Option.map_some,hk,hk2,Sem.run_bind,Sem.run_pure,Result.andThen_ok,run_sliceBound kd2 r cap _ (by omega),run_sliceBound kd l r _ h2]
 have hmul:r*sz≤len*sz:=Nat.mul_le_mul_right _ h3
 have hsub:(r - l)*sz=r*sz - l*sz:=Nat.sub_mul _ _ _
 have hmul2:l*sz≤r*sz:=Nat.mul_le_mul_right _ h2
 refine aj.same hR (v:=.slice (some (if cap=l then o' else o'.add (l*sz))) (r - l) (cap - l)) ?_ ⟨p,cap - l,_,hp,?_,?_,rfl,?_⟩
 ·simp only[Instr.sliceAt,Instr.slice,Sem.run_bind,run_underlying hu,Result.andThen_ok,hb,cD hs]
  by_cases hcl:cap=l
  ·simp[hcl]
  ·simp[hcl]
 ·show Nat.add off (Nat.mul l sz)+Nat.sub r l*sz≤p.hi
  have e1:Nat.add off (Nat.mul l sz)=off+l*sz:=rfl
  have e2:Nat.sub r l=r - l:=rfl
  rw[e1,e2,hsub]
  omega
 ·show Nat.sub r l≤cap - l
  have e2:Nat.sub r l=r - l:=rfl
  omega
 ·by_cases hcl:cap=l
  ·exact .inl (by omega)
  ·rw[if_neg hcl]
   have hcs:(cap - l)*sz=cap*sz - l*sz:=Nat.sub_mul _ _ _
   have hcm:l*sz≤cap*sz:=Nat.mul_le_mul_right _ (by omega)
   rcases hex with h|⟨h,h'⟩
   ·omega
   ·refine .inr ⟨?_,?_⟩
    ·show o'.add (l*sz)=⟨p.b,p.o+(off+l*sz),none⟩
     rw[h,qj,Nat.add_assoc]
    ·show p.o+(off+l*sz)+(cap - l)*sz≤p.n
     omega
theorem Ir (hR:Rel m β H w) {x:AV} {v:Value} (hx:AR β x v) (i:Nat):aj P m β H w (cN H x i) ((do let y ←Instr.extract v i;pure (Next.value y):Sem Next).run P w):=by
 cases x with
 | one c=>exact trivial
 | agg l=>exact trivial
 | any => 
  show aj P m β H w (Nat.rec (motive:=fun _=>List (Bool×List AC)→ae) _ _ i []) _
  cases i <;> exact trivial
 | tup l=>
  obtain ⟨vs,hvs,rfl⟩:=hx
  have key:∀ (l:List (Bool×List AC)) (vs:List Value) (i:Nat),TRs β l vs→∀ r:Result Next,(∀ u,vs[i]?=some u→r=.ok (.value u) w) →
    aj P m β H w (cN H (.tup l) i) r:=by
   intro l vs i
   induction i generalizing l vs with
   | zero=>
    intro h r hr
    cases l with
    | nil=>exact trivial
    | cons c l=>
     cases vs with
     | nil=>exact h.elim
     | cons u us=>
      obtain ⟨b,cs⟩:=c
      have h0:=hr u rfl
      cases b with
      | true=>exact aj.same hR h0 h.1
      | false=>
       match cs,h.1 with
       | [c],hc=>exact aj.same hR h0 hc
   | succ i ih=>
    intro h r hr
    cases l with
    | nil=>exact trivial
    | cons c l=>
     cases vs with
     | nil=>exact h.elim
     | cons u us=>exact ih l us h.2 r (fun y hy=>hr y (by simpa using hy))
  refine key l vs i hvs _ fun u hu=>?_
  simp[Instr.extract,hu]
theorem OO (hR:Rel m β H w) {t:TypeId} {f fo:Nat} {ft:TypeId} {n:Nat} {a:Bool} (ht:aH P t f=some (fo,ft,n)) (ha:lI P ft=some a) {x:AV} {v:Value} (hx:AR β x v):
  aj P m β H w (pK H fo n a x) ((do let y ←Instr.field t v f;pure (Next.value y):Sem Next).run P w):=by
 obtain ⟨fs,fd,hu,hf,rfl,rfl,hn⟩:=xw ht
 cases x with
 | one c=>exact trivial
 | tup l=>exact trivial
 | any=>exact trivial
 | agg l=>
  obtain ⟨vs,hvs,rfl⟩:=hx
  cases a with
  | true=>
   show aj P m β H w (aK (Nat.ble (Nat.add fd.offset n) (bE l)) "field - part" (.val (.agg (cut l fd.offset n)) H)) _
   refine aj.guard fun hc=>?_
   have h1:fd.offset+n≤bE l:=Nat.le_of_ble_eq_true hc
   rw[bq] at h1
   refine aj.same hR (v:=.agg ((vs.drop fd.offset).take n).toArray) ?_ ⟨_,?_,rfl⟩
   ·simp[Instr.field,run_underlying hu,hf,asAgg,part,eF ha,cD hn]
   ·rw[kB];exact (hvs.drop _).take _
  | false=>
   show aj P m β H w (nd (TB fd.offset l) "field - part" fun c=>.val (.one c) H) _
   refine aj.nd fun c hc=>?_
   rw[SY] at hc
   have hlt:fd.offset<vs.length:=by rw[hvs.length];exact (List.getElem?_eq_some_iff.1 hc).1
   have hv:vs[fd.offset]?=some vs[fd.offset]:=List.getElem?_eq_getElem hlt
   refine aj.same hR (v:=vs[fd.offset]) ?_ (hvs.get _ c _ hc hv)
   simp[Instr.field,run_underlying hu,hf,asAgg,part,eF ha,hlt]
end
section
variable {P:Program} {m:Nat} {β:Pl} {H:Hp} {w:World}
theorem UZ (hR:Rel m β H w) {sz:Nat} {x:AV} {v:Value} (hx:AR β x v) {n:Nat} {c:List AC} (h:jA H sz x=some (n,c)):
  (n=0∧c=[]∧v=.slice none 0 0)∨∃ (o':Addr) (cap:Nat) (vs:List Value),v=.slice (some o') n cap∧vs.length=n*sz∧CRs β c vs ∧
   ∀ w':World,(∀ b,b<w.heap.size→w'.heap[b]?=w.heap[b]?)→∀ j u,vs[j]?=some u→w'.cell? (o'.add j)=some u:=by
 unfold jA at h
 split at h
 ·rename_i id g off len sz'
  split at h
  ·rename_i c' hsz hc'
   cases h
   have hs:sz'=sz:=Nat.eq_of_beq_eq_true hsz
   subst hs
   obtain ⟨p,cap,o',hp,hlen,hcap,rfl,hex⟩:=hx
   obtain ⟨cells,hD,h3,h4,rfl⟩:=mE hc'
   have hr:=hD hR hp
   obtain ⟨vs,hvl,hvs,hcell⟩:=lG hr off (Nat.mul n sz') hlen
   refine .inr ⟨o',cap,vs,rfl,hvl,hvs,fun w' hw' j u hu=>?_⟩
   have hb:p.b<w.heap.size:=by obtain ⟨cc,_,_,hcc,_⟩:=hr;exact dj hcc
   have hlt:=(List.getElem?_eq_some_iff.1 hu).1
   have hj:j<n*sz':=by rw[hvl] at hlt;exact hlt
   have hpos:0<n:=by
    rcases Nat.eq_zero_or_pos n with h0|h0
    ·rw[h0] at hj;omega
    ·exact h0
   have ho':o'=⟨p.b,p.o+off,none⟩:=by
    rcases hex with h|h
    ·omega
    ·exact h.1
   subst ho'
   have:=hcell j u hu
   rw[←this]
   have e:((⟨p.b,p.o+off,none⟩:Addr).add j).block=p.b:=by unfold Addr.add;split <;> rfl
   exact World.cell?_of_block (by rw[e];exact hw' p.b hb)
  ·cases h
 ·cases h
  exact .inl ⟨rfl,rfl,hx⟩
 ·cases h
theorem fz {sz n:Nat} {o':Addr} {cap:Nat} {vs:List Value} {w':World} (hl:vs.length=n*sz) (h:∀ j u,vs[j]?=some u→w'.cell? (o'.add j)=some u) (len:Nat):
  (Builtin.firstCells sz n (.slice (some o') len cap)).run P w'=.ok vs.toArray w':=run_firstCells_some (P:=P) w' sz n o' len cap vs hl h
theorem uo {cells:List AC} {e:TypeId} {p:Place} (h:gj β w cells e p) {c:List AC} {vs:List Value} (hc:CRs β c vs) {pre:List AC} (k0:Nat) (hk0:k0+pre.length≤p.hi) (hpre:pre=(cells.drop k0).take pre.length)
  (hfit:p.o+k0+pre.length+c.length≤p.n):
  ∃ cur:Array Value,w.heap[p.b]?=some (.cells cur e (0,0))∧p.o+k0+pre.length+vs.length≤cur.size ∧
   gj β (w.setRow p.b (cur.toList.take (p.o+k0+pre.length)++vs++cur.toList.drop (p.o+k0+pre.length+vs.length)).toArray) (pre++c) e ⟨p.b,p.o+k0,p.n,pre.length+c.length⟩:=by
 obtain ⟨cur,h1,h2,h3,h4,h5⟩:=h
 have hl:=hc.length
 refine ⟨cur,h1,by omega,?_⟩
 have hfit':p.o+k0+pre.length+vs.length≤cur.toList.length:=by simp;omega
 refine ⟨_,setRow_heap w p.b cur _ e _ h1,?_,?_,?_,?_⟩
 ·rw[List.append_assoc,List.size_toArray,eV _ _ _ hfit'];simpa using h2
 ·show p.o+k0+(pre.length+c.length)≤p.n
  omega
 ·show pre.length+c.length≤(pre++c).length
  simp
 ·intro k x hk hx
  have hk':k<pre.length+c.length:=hk
  show ∃ v,(List.toArray (cur.toList.take (p.o+k0+pre.length)++vs++cur.toList.drop (p.o+k0+pre.length+vs.length)))[p.o+k0+k]?=some v∧CR β x v
  rw[List.append_assoc,List.getElem?_toArray,fV _ _ _ _ hfit']
  by_cases a1:k<pre.length
  ·rw[List.getElem?_append_left a1] at hx
   rw[if_pos (by omega)]
   have hx':cells[k0+k]?=some x:=by
    have e1:((cells.drop k0).take pre.length)[k]?=some x:=by rw[←hpre];exact hx
    rw[List.getElem?_take,if_pos a1,List.getElem?_drop] at e1
    exact e1
   obtain ⟨v,hv,hr⟩:=h5 (k0+k) x (by omega) hx'
   exact ⟨v,by rw[Array.getElem?_toList,Nat.add_assoc];exact hv,hr⟩
  ·rw[List.getElem?_append_right (by omega)] at hx
   rw[if_neg (by omega),if_pos (by omega)]
   have hlt:k - pre.length<vs.length:=by omega
   refine ⟨vs[k - pre.length],?_,hc.get _ x _ hx (List.getElem?_eq_getElem hlt)⟩
   rw[show p.o+k0+k - (p.o+k0+pre.length)=k - pre.length from by omega,List.getElem?_eq_getElem hlt]
theorem yJ {pre c:List AC} {us vs:List Value} (hp:CRs β pre us) (hc:CRs β c vs) (e:TypeId) (tail:Array Value) (w0:World) (hw:w0.heap=w.heap):
  gj β { w0 with heap:=w0.heap.push (.cells (us.toArray++vs.toArray++tail) e) } (pre++c) e ⟨w.heap.size,0,us.length+vs.length+tail.size,pre.length+c.length⟩:=by
 have h1:=hp.length
 have h2:=hc.length
 refine ⟨us.toArray++vs.toArray++tail,?_,by simp,?_,?_,?_⟩
 ·show (w0.heap.push _)[w.heap.size]?=_
  rw[←hw,Array.getElem?_push_size]
 ·show 0+(pre.length+c.length)≤us.length+vs.length+tail.size
  omega
 ·show pre.length+c.length≤(pre++c).length
  simp
 ·intro k x hk hx
  have hk':k<pre.length+c.length:=hk
  have hcc:=(hp.append hc)
  have hlt:k<(us++vs).length:=by simp;omega
  refine ⟨(us++vs)[k],?_,hcc.get k x _ hx (List.getElem?_eq_getElem hlt)⟩
  show (us.toArray++vs.toArray++tail)[0+k]?=_
  rw[Nat.zero_add,Array.getElem?_append_left (by simp;simp at hlt;omega)]
  rw[←Array.getElem?_toList,Array.toList_append,List.getElem?_eq_getElem]
theorem we (t ty e:TypeId) (i:TypeInfo) (ht:P.underlying t=some (.slice e)) (hi:P.info? e=some i)
  (g o sLen sCap:Nat) (cur:Array Value) (hg:w.heap[g]?=some (.cells cur e (0,0)))
  (v:Value) (m:Nat) (news:List Value) (hv:(Builtin.lenOf v).run P w=.ok m w) (hn:(Builtin.firstCells i.size m v).run P w=.ok news.toArray w) (h1:∀ u∈news,u.oneCell'=true)
  (hroom:sLen+m≤sCap) (hfit:o+sLen*i.size+news.length≤cur.size):
  (Builtin.append_ #[t,t] ty #[.slice (some ⟨g,o,none⟩) sLen sCap,v]).run P w =
   .ok (.slice (some ⟨g,o,none⟩) (sLen+m) sCap) (w.setRow g (cur.toList.take (o+sLen*i.size)++news++cur.toList.drop (o+sLen*i.size+news.length)).toArray):=by
 have hst:=run_storeCells_at P g (o+sLen*i.size) e news 0 cur w hg (by simpa using hfit) h1
 simp only[Nat.add_zero] at hst
 simp[Builtin.append_,run_underlying ht,sizeOf,typeInfo,hi,hv,hroom,hn,qj,hst]
theorem mc (t ty e:TypeId) (i:TypeInfo) (z:Value) (ht:P.underlying t=some (.slice e)) (hi:P.info? e=some i) (hz:i.zero=some z)
  (s:Option Addr) (sLen sCap:Nat) (olds:List Value) (ho:(Builtin.firstCells i.size sLen (.slice s sLen sCap)).run P w.drew=.ok olds.toArray w.drew)
  (v:Value) (m:Nat) (news:List Value) (hv:(Builtin.lenOf v).run P w=.ok m w) (hn:(Builtin.firstCells i.size m v).run P w.drew=.ok news.toArray w.drew)
  (hg:sCap<sLen+m) (hb:(sLen+m)*i.bytes≤140737488355328) (h63:sLen+m≤140737488355328):
  (Builtin.append_ #[t,t] ty #[.slice s sLen sCap,v]).run P w =
   .ok (.slice (some ⟨w.heap.size,0,none⟩) (sLen+m) (grownCap w (sLen+m) sCap e))
    (w.drew.alloc (.cells (olds.toArray++news.toArray++Builtin.zeroCells z.cells (grownCap w (sLen+m) sCap e - (sLen+m))) e)):=by
 have hn':¬(sLen+m≤sCap):=by omega
 have h63':¬(9223372036854775807<((sLen:Int)+(m:Int))):=by omega
 have h48':¬(281474976710656<Builtin.nextslicecap (sLen+m) sCap*i.bytes):=by have:=growslice_fits hg hb;omega
 simp[Builtin.append_,run_underlying ht,sizeOf,typeInfo,zeroValue,hi,hz,hv,hn',h63',h48',Question.forced,hn,ho,Go.newRow,grownCap]
 congr 2
 apply Array.ext'
 simp[List.append_assoc]
theorem PB {cells:List AC} {e:TypeId} {p:Place} (h:gj β w cells e p) (c:List AC):gj β w (cells++c) e p:=by
 obtain ⟨cc,r1,r2,r3,r4,r5⟩:=h
 refine ⟨cc,r1,r2,r3,by rw[List.length_append];omega,fun j y hj hy=>?_⟩
 rw[List.getElem?_append_left (by omega)] at hy
 exact r5 j y hj hy
theorem NI {cells:List AC} {e:TypeId} {p q:Place} (h:gj β w cells e q) {cur:Array Value} (hcur:w.heap[p.b]?=some (.cells cur e (0,0))) (vs:List Value) (k:Nat) (hk:k+vs.length≤cur.size)
  (hq:q.b=p.b→q.o+q.hi≤k):gj β (w.setRow p.b (cur.toList.take k++vs++cur.toList.drop (k+vs.length)).toArray) cells e q:=by
 obtain ⟨cc,r1,r2,r3,r4,r5⟩:=h
 by_cases hb:q.b=p.b
 ·rw[hb,hcur] at r1;cases r1
  have hfit:k+vs.length≤cur.toList.length:=by simpa using hk
  have hq':=hq hb
  refine ⟨_,by rw[hb];exact setRow_heap w p.b cur _ e _ hcur,?_,r3,r4,fun j y hj hy=>?_⟩
  ·rw[List.append_assoc,List.size_toArray,eV _ _ _ hfit];simpa using r2
  ·obtain ⟨v',hv',hr'⟩:=r5 j y hj hy
   refine ⟨v',?_,hr'⟩
   rw[List.append_assoc,List.getElem?_toArray,fV _ _ _ _ hfit,if_pos (by omega),Array.getElem?_toList]
   exact hv'
 ·exact ⟨cc,by rw[setRow_other _ _ _ _ hb];exact r1,r2,r3,r4,r5⟩
theorem GR {w':World} {id:Nat} {cells c:List AC} {e:TypeId} {lo gen:Nat} (h:fN β w id (.arr cells e lo gen)) {q:Place} (hr:gj β w' (cells++c) e q) (hq:q.hi=(cells++c).length)
  (hold:∀ k p,lo≤k→k≤gen→β id k=some p→gj β w' cells e p∧(p.b=q.b→p.o=q.o)):fN (plus β id (gen+1) q) w' id (.arr (cells++c) e lo (gen+1)):=by
 obtain ⟨h1,h2,h3,h4⟩:=h
 have hs:Sub β (plus β id (gen+1) q):=iR (h4 _ (by omega))
 refine ⟨by omega,?_,?_,?_⟩
 ·intro k hk1 hk2
  by_cases hk:k=gen+1
  ·subst hk
   exact ⟨_,aQ _ _ _ _,gj.mono hs hr rfl,fun _=>hq⟩
  ·obtain ⟨p,hp,_,_⟩:=h2 k hk1 (by omega)
   exact ⟨p,hs _ _ _ hp,gj.mono hs (PB (hold k p hk1 (by omega) hp).1 c) rfl,fun h=>absurd h hk⟩
 ·intro k k' p p' hk1 hk2 hk3 hp hp'
  by_cases hk':k'=gen+1
  ·subst hk'
   rw[aQ] at hp';cases hp'
   by_cases hk:k=gen+1
   ·subst hk;rw[aQ] at hp;cases hp;exact ⟨Nat.le_refl _,fun _=>rfl⟩
   ·rw[bN _ _ _ _ (by omega)] at hp
    obtain ⟨r,hr1⟩:=(hold k p hk1 (by omega) hp)
    obtain ⟨cc,_,_,_,r4,_⟩:=r
    exact ⟨by rw[hq,List.length_append];omega,hr1⟩
  ·rw[bN _ _ _ _ (by omega)] at hp hp'
   exact h3 k k' p p' hk1 hk2 (by omega) hp hp'
 ·intro k hk
  rw[bN _ _ _ _ (by omega)]
  exact h4 k (by omega)
theorem xT {w':World} {id:Nat} {cells cells':List AC} {e:TypeId} {lo gen:Nat} (h:fN β w id (.arr cells e lo gen)) {q:Place} (hr:gj β w' cells' e q) (hq:q.hi=cells'.length):
  fN (plus β id (gen+1) q) w' id (.arr cells' e (gen+1) (gen+1)):=by
 obtain ⟨h1,h2,h3,h4⟩:=h
 have hs:Sub β (plus β id (gen+1) q):=iR (h4 _ (by omega))
 refine ⟨by omega,?_,?_,?_⟩
 ·intro k hk1 hk2
  have hk:k=gen+1:=by omega
  subst hk
  exact ⟨_,aQ _ _ _ _,gj.mono hs hr rfl,fun _=>hq⟩
 ·intro k k' p p' hk1 hk2 hk3 hp hp'
  have hk:k=gen+1:=by omega
  have hk':k'=gen+1:=by omega
  subst hk;subst hk'
  rw[hp] at hp';cases hp'
  exact ⟨Nat.le_refl _,fun _=>rfl⟩
 ·intro k hk
  rw[bN _ _ _ _ (by omega)]
  exact h4 k (by omega)
theorem uO (z:Value) (n:Nat):(Builtin.zeroCells z.cells n).size=n*z.cells.size:=by simp[Builtin.zeroCells]
theorem My (hR:Rel m β H w) (hm:m≤m) {t:TypeId} (ty:TypeId) {x y:AV} {v u:Value} (hx:AR β x v) (hy:AR β y u):
  aj P m β H w (bd P H t x y) ((do let r ←Builtin.append_ #[t,t] ty #[v,u];pure (Next.value r):Sem Next).run P w):=by
 unfold bd
 refine aj.nd fun es hes=>aj.nd fun by_ hby=>aj.nd fun z hz=>aj.guard fun hg0=>aj.nd fun nc hnc=>?_
 obtain ⟨e,sz⟩:=es
 obtain ⟨n,c⟩:=nc
 obtain ⟨hu,hs⟩:=jM hes
 obtain ⟨ho,hnt,it,hit,hiz⟩:=iA hz
 obtain ⟨it2,hit2,hsz⟩:=gX hs
 obtain ⟨it3,hit3,hbs⟩:=nO hby
 simp only at hit hit2 hit3
 rw[hit] at hit2 hit3
 cases hit2;cases hit3
 have hzc:CRs β (ofValue z).cells z.cells.toList:=(dN ho).cells (lH hnt)
 have hz1:bE (ofValue z).cells=sz:=Nat.eq_of_beq_eq_true (ah hg0).2
 have hz2:sz≠0:=by
  have:=(ah hg0).1
  intro h0
  simp only at this
  rw[h0] at this
  cases this
 have hzs:z.cells.size=it.size:=by rw[hsz,←hz1,bq];simpa using hzc.length
 have hsrc:=UZ hR hy hnc
 show aj P m β H w (dQ H e sz by_ n c x) _
 have hun:(Builtin.lenOf u).run P w=.ok n w:=by
  rcases hsrc with ⟨rfl,_,rfl⟩|⟨o',cap,vs,rfl,_⟩ <;> rfl
 obtain ⟨vs,hvl,hcs,hfirst⟩:∃ vs:List Value,vs.length=n*sz∧CRs β c vs∧∀ w':World,(∀ b,b<w.heap.size→w'.heap[b]?=w.heap[b]?)→(Builtin.firstCells it.size n u).run P w'=.ok vs.toArray w':=by
  rcases hsrc with ⟨rfl,rfl,rfl⟩|⟨o',cap,vs,rfl,h1,h2,h3⟩
  ·exact ⟨[],by simp,trivial,fun w' _=>by simp[Builtin.firstCells]⟩
  ·exact ⟨vs,h1,h2,fun w' hw'=>fz (by rw[hsz];exact h1) (h3 w' hw') _⟩
 have hcl:c.length=n*sz:=by rw[←hvl];exact hcs.length.symm
 unfold dQ
 split
 ·
  have hx':v=.slice none 0 0:=hx
  subst hx'
  rw[bV]
  split
  ·rename_i h0
   have hn0:n=0:=Nat.eq_of_beq_eq_true h0
   subst hn0
   have hz0:(Builtin.firstCells it.size 0 u).run P w=.ok #[] w:=by
    have:=hfirst w (fun _ _=>rfl)
    have hv0:vs=[]:=List.eq_nil_of_length_eq_zero (by simpa using hvl)
    rw[hv0] at this
    exact this
   refine aj.same hR (v:=.slice none 0 0) ?_ rfl
   simp[Builtin.append_,run_underlying hu,sizeOf,typeInfo,hit,hun,hz0]
  ·rename_i h0
   have hn0:n≠0:=fun h=>h0 (by rw[h];rfl)
   refine aj.guard fun hb=>?_
   have hb1:n≤140737488355328:=Nat.le_of_ble_eq_true (ah hb).1
   have hb2:n*by_≤140737488355328:=Nat.le_of_ble_eq_true (ah hb).2
   intro hnx
   have hnx':H.nx+1≤m:=hnx
   have hrun:=mc (P:=P) (w:=w) t ty e it z hu hit hiz none 0 0 [] (by simp[Builtin.firstCells]) u n vs hun (hfirst w.drew (fun _ _=>rfl)) (by omega) (by rw[hbs];simpa using hb2) (by omega)
   simp only[Nat.zero_add,Array.empty_append] at hrun
   have hnew:=sT hR hm (by omega) c vs.toArray e (by simpa using hcs) w.drew rfl rfl rfl rfl (Builtin.zeroCells z.cells (grownCap w n 0 e - n))
   refine ⟨_,_,.inl (by simp only[Sem.run_bind,hrun,Result.andThen_ok];rfl),Out.one ?_ hnew⟩
   refine ⟨_,grownCap w n 0 e,_,aQ _ _ _ _,?_,grownCap_ge w n 0 e,rfl,.inr ⟨rfl,?_⟩⟩
   ·show 0+n*sz≤c.length
    omega
   ·show 0+0+grownCap w n 0 e*sz≤vs.toArray.size+(Builtin.zeroCells z.cells _).size
    have hge:=grownCap_ge w n 0 e
    rw[uO,hzs,hsz,List.size_toArray,hvl,←Nat.add_mul]
    have:n+(grownCap w n 0 e - n)=grownCap w n 0 e:=by omega
    rw[this]
    omega
 ·
  rename_i id g off len sz'
  obtain ⟨p,cap,o',hp,hlen,hcap,rfl,hex⟩:=hx
  unfold nk
  cases hob:H.get id with
  | none=>exact trivial
  | some ob=>
   cases ob with
   | oth q=>exact trivial
   | ro q=>exact trivial
   | arr cells e' lo gen=>
    refine aj.guard fun hc=>?_
    have c1:sz'=sz:=Nat.eq_of_beq_eq_true (ah hc).1
    have c2:e'=e:=Nat.eq_of_beq_eq_true (ah (ah hc).2).1
    have c3:lo≤g:=Nat.le_of_ble_eq_true (ah (ah (ah hc).2).2).1
    have c4:g≤gen:=Nat.le_of_ble_eq_true (ah (ah (ah (ah hc).2).2).2).1
    have c5:off+len*sz≤bE cells:=Nat.le_of_ble_eq_true (ah (ah (ah (ah (ah hc).2).2).2).2).1
    have c6:len+n≤140737488355328:=Nat.le_of_ble_eq_true (ah (ah (ah (ah (ah (ah hc).2).2).2).2).2).1
    have c7:(len+n)*by_≤140737488355328:=Nat.le_of_ble_eq_true (ah (ah (ah (ah (ah (ah hc).2).2).2).2).2).2
    subst c1 c2
    rw[bq] at c5
    rw[bV]
    split
    ·
     rename_i h0
     have hn0:n=0:=Nat.eq_of_beq_eq_true h0
     subst hn0
     have hz0:(Builtin.firstCells it.size 0 u).run P w=.ok #[] w:=by
      have:=hfirst w (fun _ _=>rfl)
      have hv0:vs=[]:=List.eq_nil_of_length_eq_zero (by simpa using hvl)
      rw[hv0] at this
      exact this
     refine aj.same hR (v:=.slice (some o') len cap) ?_ ⟨p,cap,o',hp,hlen,hcap,rfl,hex⟩
     simp[Builtin.append_,run_underlying hu,sizeOf,typeInfo,hit,hun,hcap,hz0,storeCells]
    ·rename_i h0
     have hn0:n≠0:=fun h=>h0 (by rw[h];rfl)
     obtain ⟨hrow,hhi⟩:=mH hR hob c3 c4 hp
     have hgenp:∃ pg,β id gen=some pg∧gj β w cells e' pg∧pg.hi=cells.length:=by
      obtain ⟨hle,hrows,_,_⟩:=hR.obj id _ hob
      obtain ⟨q,hq,hr,hh⟩:=hrows gen (by omega) (Nat.le_refl _)
      exact ⟨q,hq,hr,hh rfl⟩
     obtain ⟨us,hul,hus,hucell⟩:=lG hrow.d off (len*sz') hlen
     have hpre:(cut cells off (Nat.mul len sz')).length=len*sz':=by rw[←hul,kB];exact hus.length.symm
     have hnew:β id (gen+1)=none:=(hR.obj id _ hob).2.2.2 (gen+1) (by omega)
     have hsub:∀ q,Sub β (plus β id (gen+1) q):=fun q=>iR hnew
     have hways:(∃ cur:Array Value,len+n≤cap∧o'=⟨p.b,p.o+off,none⟩∧p.o+off+len*sz'+c.length≤p.n∧w.heap[p.b]?=some (.cells cur e' (0,0))∧p.o+off+len*sz'+vs.length≤cur.size ∧
       (Builtin.append_ #[t,t] ty #[.slice (some o') len cap,u]).run P w=.ok (.slice (some ⟨p.b,p.o+off,none⟩) (len+n) cap) (w.setRow p.b (cur.toList.take (p.o+off+len*sz')++vs++cur.toList.drop (p.o+off+len*sz'+vs.length)).toArray)∧p.o+off+cap*sz'≤p.n) ∨
       (cap<len+n∧∃ (tail:Array Value) (ncap:Nat),len+n≤ncap∧us.length+vs.length+tail.size=ncap*sz' ∧
        (Builtin.append_ #[t,t] ty #[.slice (some o') len cap,u]).run P w=.ok (.slice (some ⟨w.heap.size,0,none⟩) (len+n) ncap) (w.drew.alloc (.cells (us.toArray++vs.toArray++tail) e'))):=by
      by_cases hroom:len+n≤cap
      ·left
       have hex':o'=⟨p.b,p.o+off,none⟩∧p.o+off+cap*sz'≤p.n:=by
        rcases hex with h|h
        ·omega
        ·exact h
       have hmul:(len+n)*sz'≤cap*sz':=Nat.mul_le_mul_right _ hroom
       rw[Nat.add_mul] at hmul
       obtain ⟨cur,h1,h2,h3,h4,h5⟩:=hrow
       have hfit:p.o+off+len*sz'+vs.length≤cur.size:=by omega
       have hrun:=we (P:=P) (w:=w) t ty e' it hu hit p.b (p.o+off) len cap cur h1 u n vs hun (hfirst w (fun _ _=>rfl)) hcs.kO hroom (by rw[hsz];exact hfit)
       rw[hsz] at hrun
       rw[hex'.1]
       exact ⟨cur,hroom,rfl,by omega,h1,hfit,hrun,hex'.2⟩
      ·right
       refine ⟨by omega,Builtin.zeroCells z.cells (grownCap w (len+n) cap e' - (len+n)),grownCap w (len+n) cap e',grownCap_ge w (len+n) cap e',?_,?_⟩
       ·have hge:=grownCap_ge w (len+n) cap e'
        rw[uO,hzs,hsz,hul,hvl,←Nat.add_mul,←Nat.add_mul]
        congr 1
        omega
       ·have hold:(Builtin.firstCells it.size len (.slice (some o') len cap)).run P w.drew=.ok us.toArray w.drew:=by
         refine fz (by rw[hsz];exact hul) (fun j q hj=>?_) len
         have hlt:=(List.getElem?_eq_some_iff.1 hj).1
         have ho':o'=⟨p.b,p.o+off,none⟩:=by
          rcases hex with h|h
          ·have h0':len=0:=by omega
           rw[hul,h0'] at hlt
           omega
          ·exact h.1
         rw[ho']
         exact hucell j q hj
        exact mc (P:=P) (w:=w) t ty e' it z hu hit hiz (some o') len cap us hold u n vs hun (hfirst w.drew (fun _ _=>rfl)) (by omega) (by rw[hbs];exact c7) (by omega)
     have hcell':cut cells off (Nat.mul len sz')=(cells.drop off).take (cut cells off (Nat.mul len sz')).length:=by rw[hpre,kB];rfl
     rw[bV]
     split
     ·
      rename_i hend
      have d1:g=gen:=Nat.eq_of_beq_eq_true (ah hend).1
      have d2:off=0:=Nat.eq_of_beq_eq_true (ah (ah hend).2).1
      have d3:len*sz'=bE cells:=Nat.eq_of_beq_eq_true (ah (ah hend).2).2
      rw[bq] at d3
      subst d1 d2
      intro hnx
      have hcut:cut cells 0 (Nat.mul len sz')=cells:=by
       rw[kB,List.drop_zero]
       exact List.take_of_length_le (by show cells.length≤len*sz';omega)
      rw[hcut] at hpre hcell'
      have hus':CRs β cells us:=by
       have:=hus
       rw[List.drop_zero,List.take_of_length_le (by omega)] at this
       exact this
      rw[kM]
      have hhi':=hhi rfl
      rcases hways with ⟨cur,w1,w2,w3,w4,w5,w6,w7⟩|⟨w1,tail,ncap,w2,w3,w4⟩
      ·
       obtain ⟨cur',hcur',_,hrow'⟩:=uo hrow hcs (pre:=cells) 0 (by omega) (by rw[List.drop_zero,List.take_length]) (by omega)
       rw[w4] at hcur';cases hcur'
       simp only[Nat.add_zero] at hrow' w6 w2 w3 w7
       rw[show len*sz'=cells.length from d3] at w6
       have hmod:=jZ hR hm hnx hob (.arr (cells++c) e' lo (g+1)) (β':=plus β id (g+1) ⟨p.b,p.o,p.n,cells.length+c.length⟩) (w':=w.setRow p.b (cur.toList.take (p.o+cells.length)++vs++cur.toList.drop (p.o+cells.length+vs.length)).toArray)
        (hsub _) (fun i hi k=>bN _ _ _ _ (fun h=>hi h.1)) (by simp) (by simp) (by simp) (by simp)
        (fun b _ hb=>setRow_other w p.b b _ (fun hh=>hb g p ⟨c3,Nat.le_refl _⟩ hp hh.symm))
        (GR (hR.obj id _ hob) hrow' (by simp) fun k q hk1 hk2 hq=>by
         have hmono:=(hR.obj id _ hob).2.2.1 k g q p hk1 hk2 (Nat.le_refl _) hq hp
         obtain ⟨hr,_⟩:=mH hR hob hk1 hk2 hq
         exact ⟨NI hr w4 vs _ (by omega) (fun hb=>by rw[hmono.2 hb];omega),hmono.2⟩)
        (fun k q hk hq=>.inr (by
         by_cases hk':k=g+1
         ·subst hk';rw[aQ] at hq;cases hq
          exact ⟨g,p,⟨c3,Nat.le_refl _⟩,hp,rfl⟩
         ·rw[bN _ _ _ _ (by omega)] at hq
          exact ⟨k,q,⟨hk.1,by have:=hk.2;omega⟩,hq,rfl⟩))
       refine ⟨_,_,.inl (by simp only[Sem.run_bind,w6,Result.andThen_ok];rfl),Out.one ?_ hmod⟩
       refine ⟨_,cap,_,aQ _ _ _ _,?_,w1,rfl,.inr ⟨rfl,?_⟩⟩
       ·show 0+(len+n)*sz'≤cells.length+c.length
        rw[Nat.add_mul];omega
       ·show p.o+0+cap*sz'≤p.n
        omega
      ·
       have hrow':=yJ (w:=w) hus' hcs e' tail w.drew rfl
       have hmod:=jZ hR hm hnx hob (.arr (cells++c) e' lo (g+1)) (β':=plus β id (g+1) ⟨w.heap.size,0,us.length+vs.length+tail.size,cells.length+c.length⟩) (w':=w.drew.alloc (.cells (us.toArray++vs.toArray++tail) e'))
        (hsub _) (fun i hi k=>bN _ _ _ _ (fun h=>hi h.1)) (by simp) rfl rfl rfl
        (fun b hb _=>RowKit.Below.heap_alloc w.drew _ b hb)
        (GR (hR.obj id _ hob) hrow' (by simp) fun k q hk1 hk2 hq=>by
         obtain ⟨hr,_⟩:=mH hR hob hk1 hk2 hq
         have hlt:q.b<w.heap.size:=by obtain ⟨cc,hcc,_⟩:=hr;exact dj hcc
         exact ⟨gj.mono (fun _ _ _ h=>h) hr (RowKit.Below.heap_alloc w.drew _ _ hlt),fun hb=>by have hb':q.b=w.heap.size:=hb;omega⟩)
        (fun k q hk hq=>by
         by_cases hk':k=g+1
         ·subst hk';rw[aQ] at hq;cases hq
          exact .inl (Nat.le_refl _)
         ·rw[bN _ _ _ _ (by omega)] at hq
          exact .inr ⟨k,q,⟨hk.1,by have:=hk.2;omega⟩,hq,rfl⟩)
       refine ⟨_,_,.inl (by simp only[Sem.run_bind,w4,Result.andThen_ok];rfl),Out.one ?_ hmod⟩
       refine ⟨_,ncap,_,aQ _ _ _ _,?_,w2,rfl,.inr ⟨rfl,?_⟩⟩
       ·show 0+(len+n)*sz'≤cells.length+c.length
        rw[Nat.add_mul];omega
       ·show 0+0+ncap*sz'≤us.length+vs.length+tail.size
        omega
     ·
      intro hnx
      obtain ⟨pg,hpg,hrowg,hhig⟩:=hgenp
      have hus':CRs β (cut cells off (Nat.mul len sz')) us:=by rw[kB];exact hus
      rw[kM]
      rcases hways with ⟨cur,w1,w2,w3,w4,w5,w6,w7⟩|⟨w1,tail,ncap,w2,w3,w4⟩
      ·obtain ⟨cur',hcur',_,hrow'⟩:=uo hrow hcs (pre:=cut cells off (Nat.mul len sz')) off (by omega) hcell' (by omega)
       rw[w4] at hcur';cases hcur'
       rw[hpre] at hrow'
       have hmod:=jZ hR hm hnx hob (.arr (cut cells off (Nat.mul len sz')++c) e' (gen+1) (gen+1)) (β':=plus β id (gen+1) ⟨p.b,p.o+off,p.n,len*sz'+c.length⟩)
        (w':=w.setRow p.b (cur.toList.take (p.o+off+len*sz')++vs++cur.toList.drop (p.o+off+len*sz'+vs.length)).toArray)
        (hsub _) (fun i hi k=>bN _ _ _ _ (fun h=>hi h.1)) (by simp) (by simp) (by simp) (by simp)
        (fun b _ hb=>setRow_other w p.b b _ (fun hh=>hb g p ⟨c3,c4⟩ hp hh.symm))
        (xT (hR.obj id _ hob) hrow' (by rw[List.length_append,hpre]))
        (fun k q hk hq=>.inr (by
         have hk':k=gen+1:=by have:=hk.1;have:=hk.2;omega
         subst hk';rw[aQ] at hq;cases hq
         exact ⟨g,p,⟨c3,c4⟩,hp,rfl⟩))
       refine ⟨_,_,.inl (by simp only[Sem.run_bind,w6,Result.andThen_ok];rfl),Out.one ?_ hmod⟩
       refine ⟨_,cap,_,aQ _ _ _ _,?_,w1,rfl,.inr ⟨rfl,?_⟩⟩
       ·show 0+(len+n)*sz'≤len*sz'+c.length
        rw[Nat.add_mul];omega
       ·show p.o+off+0+cap*sz'≤p.n
        omega
      ·have hrow':=yJ (w:=w) hus' hcs e' tail w.drew rfl
       have hmod:=jZ hR hm hnx hob (.arr (cut cells off (Nat.mul len sz')++c) e' (gen+1) (gen+1)) (β':=plus β id (gen+1) ⟨w.heap.size,0,us.length+vs.length+tail.size,(cut cells off (Nat.mul len sz')).length+c.length⟩)
        (w':=w.drew.alloc (.cells (us.toArray++vs.toArray++tail) e'))
        (hsub _) (fun i hi k=>bN _ _ _ _ (fun h=>hi h.1)) (by simp) rfl rfl rfl
        (fun b hb _=>RowKit.Below.heap_alloc w.drew _ b hb)
        (xT (hR.obj id _ hob) hrow' (by rw[List.length_append]))
        (fun k q hk hq=>.inl (by
         have hk':k=gen+1:=by have:=hk.1;have:=hk.2;omega
         subst hk';rw[aQ] at hq;cases hq
         exact Nat.le_refl _))
       refine ⟨_,_,.inl (by simp only[Sem.run_bind,w4,Result.andThen_ok];rfl),Out.one ?_ hmod⟩
       refine ⟨_,ncap,_,aQ _ _ _ _,?_,w2,rfl,.inr ⟨rfl,?_⟩⟩
       ·show 0+(len+n)*sz'≤(cut cells off (Nat.mul len sz')).length+c.length
        rw[Nat.add_mul];omega
       ·show 0+0+ncap*sz'≤us.length+vs.length+tail.size
        omega
 ·exact trivial
end
end Go.Eng
