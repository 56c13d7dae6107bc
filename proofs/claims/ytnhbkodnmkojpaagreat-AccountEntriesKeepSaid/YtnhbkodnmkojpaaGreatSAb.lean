/- A part of the proof: EngAbs, EngAbs2, EngOps1, EngOps2, EngOps3, EngOps4. No conditions. -/
import Derived.Test.YtnhbkodnmkojpaaGreatSAa
set_option maxRecDepth 100000
set_option maxHeartbeats 64000000
set_option linter.unusedVariables false
set_option linter.unusedSimpArgs false
namespace Go.Eng
open Go
def NM (H:Hp):ad→Prop
 | .val _ H'=>H.nx≤H'.nx
 | .ox l=>l≠[]∧∀ x∈l,H.nx≤x.2.nx
 | _=>True
section
variable {P:Program} {H:Hp}
theorem NM.nd {α:Type} {o:Option α} {s:String} {f:α→ad} (h:∀ a,NM H (f a)):NM H (nd o s f):=by cases o with|none=>exact trivial|some a=>exact h a
theorem NM.guard {b:Bool} {s:String} {n:ad} (h:NM H n):NM H (aH b s n):=by cases b with|true=>exact h|false=>exact trivial
theorem NM.ifE {b:Bool} {x y:ad} (hx:NM H x) (hy:NM H y):NM H (ifE b x y):=by cases b with|true=>exact hx|false=>exact hy
theorem NM.ay {α:Type} {o:Option α} {e:ad} {f:α→ad} (he:NM H e) (h:∀ a,NM H (f a)):NM H (ay o e f):=by cases o with|none=>exact he|some a=>exact h a
theorem NM.su {x:AV} {e:ad} {f:Nat→Nat→Nat→Nat→ad} (he:NM H e) (h:∀ a b c d,NM H (f a b c d)):NM H (su x e f):=by
 cases x with
 | one c=>cases c with
  | o q=>cases q <;> first|exact he|exact h _ _ _ _
  | b _=>exact he
  | i _ _=>exact he
 | agg _=>exact he
 | tup _=>exact he
 | any=>exact he
theorem NM.slE {x:AV} {e:ad} {f:Nat→Nat→Nat→Nat→Nat→ad} (he:NM H e) (h:∀ a b c d g,NM H (f a b c d g)):NM H (slE x e f):=by
 cases x with
 | one c=>cases c with
  | o q=>cases q <;> first|exact he|exact h _ _ _ _ _
  | b _=>exact he
  | i _ _=>exact he
 | agg _=>exact he
 | tup _=>exact he
 | any=>exact he
theorem NM.eF {x:AV} {e:ad} {f:IntKind→Int→ad} (he:NM H e) (h:∀ a b,NM H (f a b)):NM H (eF x e f):=by
 cases x with
 | one c=>cases c with
  | o q=>exact he
  | b _=>exact he
  | i _ _=>exact h _ _
 | agg _=>exact he
 | tup _=>exact he
 | any=>exact he
theorem NM.dz {x:AV} {e:ad} {f:Bool→ad} (he:NM H e) (h:∀ a,NM H (f a)):NM H (dz x e f):=by
 cases x with
 | one c=>cases c with
  | o q=>exact he
  | b _=>exact h _
  | i _ _=>exact he
 | agg _=>exact he
 | tup _=>exact he
 | any=>exact he
theorem NM.ij {x:AV} {e:ad} {f:List UInt8→ad} (he:NM H e) (h:∀ a,NM H (f a)):NM H (ij x e f):=by
 cases x with
 | one c=>cases c with
  | o q=>cases q <;> first|exact he|exact h _
  | b _=>exact he
  | i _ _=>exact he
 | agg _=>exact he
 | tup _=>exact he
 | any=>exact he
theorem NM.mE {o:Option aK} {e:ad} {f:List AC→TypeId→Nat→Nat→ad} (he:NM H e) (h:∀ a b c d,NM H (f a b c d)):NM H (mE o e f):=by
 cases o with
 | none=>exact he
 | some o=>cases o with
  | arr _ _ _ _=>exact h _ _ _ _
  | oth _=>exact he
  | ro _=>exact he
theorem NM.same {v:AV}:NM H (.val v H):=zA1 _
theorem NM.mod {v:AV} {i:Nat} {o:aK}:NM H (.val v (H.mod i o)):=zA1 _
theorem NM.new {v:AV} {o:aK}:NM H (.val v (H.new o)):=Nat.le_succ _
theorem NM.bad {s:String}:NM H (.bad s):=trivial
theorem Va {a:Bool} {n:Nat} {v:AV}:NM H (bR H a n v):=
 NM.su NM.bad fun _ _ _ _=>NM.nd fun c=>NM.ifE NM.same (by cases c <;> first|exact NM.bad|exact NM.same)
theorem Qr {n:Nat} {x v:AV}:NM H (fQ H n x v):=NM.su NM.bad fun _ _ _ _=>NM.mE NM.bad fun _ _ _ _=>NM.guard NM.mod
theorem xM {c:List AC} {e:TypeId}:NM H (ib H c e):=NM.new
theorem oR {ok:Bool} {v:AV} {b:Bool}:NM H (bC H ok v b):=by cases ok with|false=>exact NM.same|true=>exact NM.guard NM.same
theorem Og {kt:TypeId} {z m k:AV} {ok:Bool}:NM H (bk P H kt z m k ok):=by
 unfold bk;split
 ·exact NM.nd fun _=>oR
 ·split
  ·refine NM.nd fun _=>?_;split
   ·exact oR
   ·exact oR
   exact NM.bad
  exact NM.bad
 exact NM.bad
theorem ql {kt:TypeId} {m k x:AV}:NM H (aT P H kt m k x):=by
 unfold aT;split
 ·split
  ·exact NM.nd fun _=>NM.guard (NM.nd fun _=>NM.ifE NM.mod NM.mod)
  exact NM.bad
 exact NM.bad
theorem VX {x:AV}:NM H (gF H x):=by
 unfold gF;split
 ·split
  ·exact NM.same
  ·split
   ·refine NM.guard ?_;split
    ·exact NM.same
    refine NM.guard ⟨by simp,fun x hx=>?_⟩;obtain ⟨e,_,rfl⟩:=List.mem_map.1 hx;exact zA1 _
   exact NM.bad
  exact NM.bad
 exact NM.bad
theorem Sc {x:AV}:NM H (gJ H x):=by
 unfold gJ;split
 ·split
  ·split
   ·split
    ·refine NM.guard ?_;split
     ·exact NM.same
     exact NM.bad
    exact NM.bad
   exact NM.bad
  exact NM.bad
 exact NM.bad
theorem OG {t:TypeId} {s x:AV}:NM H (aV P H t s x):=by
 refine NM.nd fun es=>NM.nd fun by_=>NM.nd fun z=>NM.guard (NM.nd fun nc=>?_);unfold dn;split
 ·exact NM.ifE NM.same (NM.guard NM.new)
 ·exact NM.mE NM.bad fun _ _ _ _=>NM.guard (NM.ifE NM.same (NM.ifE NM.mod NM.mod))
 exact NM.bad
theorem Vy {t:TypeId} {s x:AV}:NM H (BU P H t s x):=by
 refine NM.nd fun es=>?_;split
 ·exact NM.guard (NM.nd fun _=>NM.mE NM.bad fun _ _ _ _=>NM.guard NM.mod)
 ·exact NM.same
 ·exact NM.same
 ·exact NM.same
 exact NM.bad
theorem Uz {f:AV} {l:List AV}:NM H (lG P f l):=by
 cases f with
 | one c=>cases c with
  | o q=>cases q <;> first|exact trivial|exact NM.guard trivial
  | b _=>exact trivial
  | i _ _=>exact trivial
 | agg _=>exact trivial
 | tup _=>exact trivial
 | any=>exact trivial
theorem uY {tm:PT AV} {o:Oper}:NM H (an P tm H o):=by
 unfold an;refine NM.guard ?_;split
 ·exact NM.guard NM.same
 exact NM.bad
theorem tC (i:Nat):∀ l:List (Bool×List AC),NM H (Nat.rec (motive:=fun _=>List (Bool×List AC)→ad)
   (fun l=>List.rec (motive:=fun _=>ad) (.bad "extract") (fun x _ _=>
    ifE x.1 (.val (.agg x.2) H) (List.rec (motive:=fun _=>ad) (.bad "extract") (fun c m _=>List.rec (motive:=fun _=>ad) (.val (.one c) H) (fun _ _ _=>.bad "extract") m) x.2)) l)
   (fun _ ih l=>List.rec (motive:=fun _=>ad) (.bad "extract") (fun _ l' _=>ih l') l) i l):=by
 induction i with
 | zero=>
  intro l;cases l with
  | nil=>exact NM.bad
  | cons x l=>
   refine NM.ifE NM.same ?_;obtain ⟨b,c⟩:=x;cases c with
   | nil=>exact NM.bad
   | cons y c=>cases c <;> first|exact NM.same|exact NM.bad
 | succ i ih=>
  intro l;cases l with
  | nil=>exact NM.bad
  | cons x l=>exact ih l
theorem Jp {x:AV} {i:Nat}:NM H (cd H x i):=by
 cases x with
 | tup l=>exact tC i l
 | one _=>exact NM.bad
 | agg _=>exact NM.bad
 | any=>exact tC i []
theorem PI {x:AV}:NM H (iH H x):=by
 unfold iH;split
 ·exact NM.new
 ·split
  ·exact NM.new
  exact NM.bad
 exact NM.bad
theorem XY {k:Nat} {x:AV}:NM H (cG H k x):=by
 match k with
 | 0=>exact NM.ij NM.bad fun _=>NM.same
 | 1=>exact NM.slE (NM.guard NM.same) fun _ _ _ _ _=>NM.same
 | k+2=>
  show NM H (dQ H x);unfold dQ;split
  ·exact NM.same
  ·split
   ·exact NM.same
   exact NM.bad
  exact NM.bad
theorem XJ {kd:Nat} {op:BinOp} {f:BF} {x y:AV} {alt:ad} (ha:NM H alt):NM H (bp H kd op f x y alt):=by
 cases x with
 | one c=>cases c with
  | o q=>
   show NM H (kF H kd op (.one (.o q)) y alt);refine NM.ij ?_ fun _=>NM.ij ha fun _=>NM.ay ha fun _=>NM.same;unfold nR;split
   ·split
    ·exact NM.same
    ·exact NM.same
    exact NM.bad
   exact ha
  | b _=>exact ha
  | i k a=>
   show NM H (Eng.eF y alt fun k' b=>kD H f k a k' b alt);exact NM.eF ha fun _ _=>NM.ifE (by cases f <;> first|exact NM.same|exact ha) ha
 | agg _=>exact ha
 | tup _=>exact ha
 | any=>exact ha
theorem Si {fo n:Nat} {a:Bool} {x:AV}:NM H (qL H fo n a x):=by
 cases x with
 | agg l=>exact NM.ifE (NM.guard NM.same) (NM.nd fun _=>NM.same)
 | one _=>exact NM.bad
 | tup _=>exact NM.bad
 | any=>exact NM.bad
theorem Gw {x:AV}:NM H (fX H x):=by
 cases x with
 | one c=>cases c with
  | o q=>cases q <;> first|exact NM.bad|exact NM.same
  | b _=>exact NM.bad
  | i _ _=>exact NM.bad
 | agg _=>exact NM.bad
 | tup _=>exact NM.bad
 | any=>exact NM.bad
theorem SF.lI {α:Type} {o:Option α} {s:String} {f:α→SF} {tm:PT AV} (h:∀ a,NM H ((f a).run tm H)):NM H ((ndF o s f).run tm H):=by
 cases o with
 | none=>exact trivial
 | some a=>exact h a
theorem SF.UM {b:Bool} {s:String} {f:SF} {tm:PT AV} (h:NM H (f.run tm H)):NM H ((Eng.ifE b f (kW s)).run tm H):=by
 cases b with
 | false=>exact trivial
 | true=>exact h
theorem BC {tm:PT AV} (o:Oper):NM H ((ao P o).run tm H):=by
 have hp:∀ o,NM H (an P tm H o):=fun _=>uY;obtain ⟨dst,op,type,pos,after,guard⟩:=o;cases op with
 | move x=>cases x <;> exact NM.same
 | assign x=>cases x <;> exact NM.same
 | pick c x y=>exact NM.dz NM.bad fun _=>NM.same
 | alloc e=>exact SF.lI fun _=>xM
 | box e x=>exact NM.guard xM
 | build t parts=>exact SF.lI fun _=>SF.lI fun _=>SF.lI fun _=>NM.nd fun _=>NM.same
 | buildSlice t len parts=>exact SF.lI fun _=>SF.lI fun _=>SF.UM (SF.lI fun _=>NM.nd fun _=>NM.new)
 | load t x=>exact SF.lI fun _=>Va
 | store t x y=>exact SF.lI fun _=>Qr
 | nilCheck x=>exact Gw
 | binOp op t x y c=>exact XJ (hp _)
 | unOp op t x=>
  show NM H (Jg H op _ (an P tm H _));unfold Jg;split
  ·exact NM.dz uY fun _=>NM.same
  exact uY
 | convert s d x=>exact hp _
 | fieldAddr s x f=>exact SF.lI fun _=>NM.su NM.bad fun _ _ _ _=>NM.guard NM.same
 | field t x f=>exact SF.lI fun _=>SF.lI fun _=>Si
 | indexAddr t x i=>exact SF.lI fun _=>NM.slE NM.bad fun _ _ _ _ _=>NM.eF NM.bad fun _ _=>NM.nd fun _=>NM.guard NM.same
 | index t x i=>exact NM.ifE (NM.ij (hp _) fun _=>NM.eF (hp _) fun _ _=>NM.nd fun _=>NM.nd fun _=>NM.same) (hp _)
 | slice t x lo hi mx=>
  cases mx with
  | some _=>exact trivial
  | none=>
   cases he:bm P t with
   | none=>
    have:ao P ⟨dst,.slice t x lo hi none,type,pos,after,guard⟩=.mk fun tm h=>an P tm h ⟨dst,.slice t x lo hi none,type,pos,after,guard⟩:=by
     simp[ao,he]
    rw[this];exact hp _
   | some p=>
    have:ao P ⟨dst,.slice t x lo hi none,type,pos,after,guard⟩=.mk fun tm h=>cN h p.2 ((opF x).ev tm) (lo.map (ev tm)) (hi.map (ev tm)) (an P tm h ⟨dst,.slice t x lo hi none,type,pos,after,guard⟩):=by
     simp[ao,he]
    rw[this];exact NM.slE (hp _) fun _ _ _ _ _=>NM.nd fun _=>NM.nd fun _=>NM.guard NM.same
 | extract x i=>exact Jp
 | makeFunc fn first caps=>
  cases fn with
  | func f=>exact SF.UM (NM.nd fun _=>NM.same)
  | _=>exact trivial
 | makeMap t r=>
  cases r with
  | some _=>exact trivial
  | none=>exact NM.new
 | makeSlice t l c=>exact NM.nd fun _=>NM.nd fun _=>NM.nd fun _=>NM.eF NM.bad fun _ _=>NM.eF NM.bad fun _ _=>NM.nd fun _=>NM.nd fun _=>NM.guard NM.new
 | lookup t x k ok=>exact SF.lI fun _=>SF.lI fun _=>Og
 | mapUpdate t x k y=>exact SF.lI fun _=>ql
 | insert t x k y=>exact SF.lI fun _=>ql
 | range t x=>exact SF.lI fun _=>PI
 | next x b=>
  cases b with
  | true=>exact trivial
  | false=>exact VX
 | entry x=>exact Sc
 | call c=>
  show NM H ((tg P _ c).run tm H);unfold tg;split
  ·exact Uz
  ·unfold jd;split
   ·exact SF.UM OG
   ·exact SF.UM Vy
   ·exact SF.lI fun _=>XY
   ·exact hp _
   ·exact hp _
   exact trivial
  exact trivial
 | _=>exact trivial
end
def RG {α:Type} (k:Nat) (nx:α→Nat) (r:R α):Prop:=∀ outs,r=.ok outs→outs≠[]∧∀ x∈outs,k≤nx x
section
variable {α γ:Type} {k:Nat} {nx:α→Nat} {nx':γ→Nat}
theorem RG.bad {s:String}:RG k nx (.bad s:R α):=fun _ h=>by cases h
theorem RG.one {x:α} (h:k≤nx x):RG k nx (.ok [x]):=fun outs h'=>by
 cases h'
 exact ⟨by simp,fun y hy=>by rw[List.mem_singleton.1 hy];exact h⟩
theorem RG.cj {f:α→R γ}:∀ (l:List α),(∀ x∈l,RG k nx' (f x))→RG k nx' (Eng.cj f l)
 | [],_=>RG.bad
 | [x],h=>h x (List.mem_singleton.2 rfl)
 | x::y::l,h=>by
  have h1:=h x (List.mem_cons_self ..);have h2:=RG.cj (y::l) fun z hz=>h z (List.mem_cons_of_mem _ hz);intro outs ho;have Z1:wy (f x) (Eng.cj f (y::l))=.ok outs:=ho;cases ha:f x with
  | bad s=>rw[ha] at Z1;cases Z1
  | ok oa=>
   cases hb:Eng.cj f (y::l) with
   | bad s=>rw[ha,hb] at Z1;cases Z1
   | ok ob=>
    rw[ha,hb] at Z1;have he:oa++ob=outs:=by injection Z1
    subst he;refine ⟨fun h0=>(h1 oa ha).1 (List.append_eq_nil_iff.1 h0).1,fun z hz=>?_⟩;rcases List.mem_append.1 hz with hz|hz
    ·exact (h1 oa ha).2 z hz
    exact (h2 ob hb).2 z hz
theorem RG.bind {r:R α} {f:α→R γ} (hr:RG k nx r) (hf:∀ x,k≤nx x→RG k nx' (f x)):RG k nx' (r.bind f):=by
 cases r with
 | bad s=>exact RG.bad
 | ok l=>exact RG.cj l fun x hx=>hf x ((hr l rfl).2 x hx)
theorem RG.le {r:R α} {k':Nat} (hr:RG k nx r) (h:k'≤k):RG k' nx r:=fun outs ho=>⟨(hr outs ho).1,fun x hx=>zA2 h ((hr outs ho).2 x hx)⟩
theorem RG.ifE {b:Bool} {x y:R α} (hx:RG k nx x) (hy:RG k nx y):RG k nx (Eng.ifE b x y):=by cases b with|true=>exact hx|false=>exact hy
theorem RG.ay {o:Option γ} {e:R α} {f:γ→R α} (he:RG k nx e) (h:∀ a,RG k nx (f a)):RG k nx (Eng.ay o e f):=by cases o with|none=>exact he|some a=>exact h a
end
abbrev nV (x:AV×Hp):Nat:=x.2.nx
abbrev nA (x:ab×Hp):Nat:=x.2.nx
abbrev nE (x:ax×ab×Hp):Nat:=x.2.2.nx
theorem EK {k:Nat} {tm:PT AV} {g:Option (Option Tmp×Bool)} {yes no:R (ab×Hp)} (hy:RG k nA yes) (hn:RG k nA no):RG k nA (bu tm g yes no):=by
 unfold bu;refine RG.ay hy fun p=>RG.ay hn fun t=>RG.ay hn fun v=>?_;cases v with
 | one c=>cases c with
  | b b=>exact RG.ifE (RG.ifE hy hn) (RG.ifE hn hy)
  | i _ _=>exact hn
  | o _=>exact RG.bad
 | agg _=>exact hn
 | tup _=>exact hn
 | any=>exact RG.bad
structure RecM (rec:Rec):Prop where
 code:∀ r c a h,RG h.nx nE (rec.code r c a h)
 call:∀ f args h,RG h.nx nV (rec.call f args h)
section
variable {E:Env} {rec:Rec} (K0:RecM rec)
theorem tM {k id:Nat} {x:ax×ab×Hp} (hk:k≤nE x):RG k nV (jr id x):=by
 unfold jr;split
 ·split <;> exact RG.one hk
 exact RG.bad
include K0
theorem tR {k id:Nat} {body:Code} {x:ax×ab×Hp} (hk:k≤nE x):RG k nV (eh rec id body x):=by
 unfold eh;split
 ·refine RG.bind (nx:=nE) (RG.le (K0.code _ _ _ _) hk) fun y hy=>tM hy
 exact RG.bad
theorem uW {id:Nat} {args:List AV} {h:Hp}:RG h.nx nV (fL rec id args h):=by
 unfold fL;split
 ·exact RG.ifE (RG.bind (nx:=nE) (K0.code _ _ _ _) fun x hx=>tR K0 hx) RG.bad
 exact RG.bad
theorem Bb {f:FuncId} {args:List AV} {h:Hp}:RG h.nx nV (mZ E rec f args h):=by
 unfold mZ;exact RG.ay (K0.call _ _ _) fun _=>RG.one (zA1 _)
theorem yb {h:Hp} {n:ad} (hn:NM h n):RG h.nx nV (jh E rec h n):=by
 cases n with
 | val v h'=>exact RG.one hn
 | ox l=>intro outs ho;cases ho;exact hn
 | enter f args=>exact Bb K0
 | round id args=>exact uW K0
 | bad s=>exact RG.bad
omit K0 in
theorem jN {k0:Nat} {a:ab} {dst:Option Tmp} {v:AV} {h:Hp} {k:ab→Hp→R (ab×Hp)} (hk:∀ a,RG k0 nA (k a h)):RG k0 nA (fC a dst v h k):=by
 unfold fC;exact RG.ay (hk _) fun d=>RG.ifE (hk _) RG.bad
theorem RK {a:ab} {dst:Option Tmp} {h:Hp} {k:ab→Hp→R (ab×Hp)} {n:ad} (hn:NM h n) (hk:∀ a h',RG h'.nx nA (k a h')):RG h.nx nA (mo E rec a dst h k n):=by
 cases n with
 | val v h'=>exact jN fun a=>(hk a h').le hn
 | ox l=>exact RG.cj l fun x hx=>jN fun a=>(hk a x.2).le (hn.2 x hx)
 | enter f args=>exact RG.bind (nx:=nV) (Bb K0) fun x hx=>jN fun a=>(hk a x.2).le hx
 | round id args=>exact RG.bind (nx:=nV) (uW K0) fun x hx=>jN fun a=>(hk a x.2).le hx
 | bad s=>exact RG.bad
theorem rJ {P:Program} {ops:List Oper}:∀ (l:List Oper) (a:ab) (h:Hp),RG h.nx nA (dR E rec (fF P ops l) a h)
 | [],a,h=>RG.one (zA1 _)
 | o::l,a,h=>by
  show RG h.nx nA (bu a.tm (gOf ops o.guard) (mo E rec a o.dst h (dR E rec (fF P ops l)) ((ao P o).run a.tm h)) (fC a o.dst aF h (dR E rec (fF P ops l))));exact EK (RK K0 (BC o) fun a h'=>rJ l a h') (jN fun a=>rJ l a h)
omit K0 in
theorem RX {kk j:Nat} {a:ab} {dst:Option Tmp} {h:Hp} {sub:PT aK} {us did:List Did} {K:List Did→ab→Hp→R (ab×Hp)} {x:R (AV×Hp)} (hx:RG h.nx nV x) (hK:∀ d a h',RG h'.nx nA (K d a h')):
  RG h.nx nA (xe kk j a dst h sub us did K x):=by
 cases x with
 | bad s=>exact RG.bad
 | ok l=>
  cases l with
  | nil=>exact RG.bad
  | cons y l=>
   cases l with
   | cons z l=>exact RG.bad
   | nil=>
    have h1:=(hx [y] rfl).2 y (List.mem_singleton.2 rfl);exact RG.ifE (jN fun a=>RG.le (hK _ _ _) h1) RG.bad
theorem sV {P:Program} {ops:List Oper}:∀ (l:List Oper) (j:Nat) (ms:List Nat) (did:List Did) (a:ab) (h:Hp),RG h.nx nA (cJ E rec (fF P ops l) j ms did a h)
 | [],j,ms,did,a,h=>RG.one (zA1 _)
 | o::l,j,ms,did,a,h=>by
  cases ms with
  | nil=>exact RG.bad
  | cons m ms=>
   show RG h.nx nA (bu a.tm (gOf ops o.guard)
    (xe (bc o) j a o.dst h (aJ h.t h.nx a.tm o (aD m did)) (aD m did) did (cJ E rec (fF P ops l) (Nat.add j 1) ms) (Tl E rec a.tm ⟨aJ h.t h.nx a.tm o (aD m did),h.nx,[]⟩ (ao P o)))
    (fC a o.dst aF h (cJ E rec (fF P ops l) (Nat.add j 1) ms did)))
   refine EK (RX ?_ fun d a h'=>sV l _ ms d a h') (jN fun a=>sV l _ ms did a h);have hn:NM ⟨aJ h.t h.nx a.tm o (aD m did),h.nx,[]⟩ ((ao P o).run a.tm ⟨aJ h.t h.nx a.tm o (aD m did),h.nx,[]⟩):=BC o;exact yb K0 hn
omit K0 in
theorem nk {k:Nat} {e:ax} {n r:R (ax×ab×Hp)} {x:Nat→R (ax×ab×Hp)} (hn:RG k nE n) (hx:∀ i,RG k nE (x i)) (hr:RG k nE r):RG k nE (exE e n x r):=by
 cases e with
 | normal=>exact hn
 | exit i=>exact hx i
 | ret=>exact hr
omit K0 in
theorem ti {k l:Nat} {a:ab} {x:AV×Hp} (hk:k≤nV x):RG k nE (eo l a x):=by
 unfold eo;split
 ·split
  ·exact RG.bad
  split
  ·exact RG.one hk
  ·exact RG.one hk
  ·exact RG.one hk
  exact RG.bad
 exact RG.bad
theorem JS {r:Option Nat} {f:OpF} {ps:List Tmp} {as bo:Code} {a:ab} {h:Hp}:RG h.nx nE (gI E rec r f ps as bo a h):=by
 unfold gI;split
 ·exact RG.bad
 rename_i d h1 a1 hs
 have h0:h.nx≤h1.nx:=by
  unfold lX at hs;split at hs
  ·cases hs;exact Nat.le_succ _
  split at hs
  ·cases hs;exact zA1 _
  cases hs
 split
 ·refine RG.ifE (RG.bind (nx:=nV) (RG.le (K0.call _ _ _) (zA2 h0 (Nat.le_succ _))) fun x hx=>ti hx) RG.bad
 exact RG.bad
theorem qI:∀ (c:Code) (r:Option Nat) (a:ab) (h:Hp),RG h.nx nE ((codeF E c).run rec r a h):=by
 intro c;induction c with
 | skip=>intro r a h;exact RG.one (zA1 _)
 | region id ops draw=>
  intro r a h;cases draw with
  | false=>exact RG.bind (nx:=nA) (rJ K0 _ a h) fun x hx=>RG.one hx
  | true=>
   show RG h.nx nE ((Eng.ifE (dF ops) (CF.mk fun rec _ a h=>(cJ E rec (pA E.P ops) 0 (dw [] 0 ops.toList) [] a h).bind eJ) (CF.mk fun _ _ _ _=>.bad "draw - slots")).run rec r a h)
   cases dF ops with
   | false=>exact RG.bad
   | true=>exact RG.bind (nx:=nA) (sV K0 _ _ _ _ a h) fun x hx=>RG.one hx
 | seq x y hx hy=>
  intro r a h;refine RG.bind (nx:=nE) (hx r a h) fun z hz=>nk ((hy r _ _).le hz) (fun _=>RG.one hz) (RG.one hz)
 | cond c x y hx hy=>
  intro r a h;show RG h.nx nE (dz ((opF c).ev a.tm) (.bad "cond") fun b=>Eng.ifE b ((codeF E x).run rec r a h) ((codeF E y).run rec r a h))
  cases (opF c).ev a.tm with
  | one q=>
   cases q with
   | b b=>exact RG.ifE (hx r a h) (hy r a h)
   | i _ _=>exact RG.bad
   | o _=>exact RG.bad
  | agg _=>exact RG.bad
  | tup _=>exact RG.bad
  | any=>exact RG.bad
 | block id x hx=>
  intro r a h;refine RG.bind (nx:=nE) (hx r a h) fun z hz=>nk (RG.one hz) (fun _=>RG.ifE (RG.one hz) (RG.one hz)) (RG.one hz)
 | loop x hx=>
  intro r a h;refine RG.bind (nx:=nE) (hx r a h) fun z hz=>nk (RG.le (K0.code _ _ _ _) hz) (fun _=>RG.one hz) (RG.one hz)
 | rangeFunc f ps as bo _ _=>intro r a h;exact JS K0
 | exit id=>intro r a h;exact RG.one (zA1 _)
 | scope x hx=>intro r a h;exact hx r a h
 | label l=>intro r a h;exact RG.one (zA1 _)
 | goto l=>intro r a h;exact RG.bad
 | ret=>intro r a h;exact RG.one (zA1 _)
 | refuse x=>intro r a h;exact RG.bad
end
theorem tG:∀ (l:List Nat) (h h':Hp),closeAll h l=some h'→h'.nx=h.nx
 | [],h,h',e=>by cases e;rfl
 | d::l,h,h',e=>by
  unfold closeAll at e;split at e
  ·have:=tG l _ h' e;exact this
  cases e
theorem pb {E:Env} {k:Nat} {res:List ResultVar} {x:ax×ab×Hp} (hk:k≤nE x):RG k nV (aC E res x):=by
 have key:RG k nV (ay (closeAll x.2.2 x.2.1.dfr) (.bad "marks") fun h2=>ay (bh E.P res x.2.1.tm h2) (.bad "results") fun l=>.ok [(cT l,h2)]):=by
  cases hc:closeAll x.2.2 x.2.1.dfr with
  | none=>exact RG.bad
  | some h2=>
   refine RG.ay (o:=bh E.P res x.2.1.tm h2) RG.bad fun l=>RG.one ?_;show k≤h2.nx;rw[tG _ _ _ hc];exact hk
 unfold aC;cases x.1 with
 | normal=>exact key
 | exit i=>exact RG.bad
 | ret=>exact key
theorem jb:∀ {l:List (AV×Hp)} {x:AV×Hp},x∈l→x.2.nx≤kL l
 | y::l,x,h=>by
  show x.2.nx≤Nat.max y.2.nx (kL l);rcases List.mem_cons.1 h with rfl|h
  ·exact Nat.le_max_left _ _
  exact zA2 (jb h) (Nat.le_max_right _ _)
theorem mU (h:Hp) (l:List (AV×Hp)):mr h l=l∨∃ x,x∈l∧(∀ z∈l,z.1=x.1∧∀ id,id<h.nx→z.2.get id=x.2.get id)∧mr h l=[(x.1,yd h l x.2.t)]:=by
 cases l with
 | nil=>exact .inl rfl
 | cons x l=>
  cases l with
  | nil=>exact .inl rfl
  | cons y l=>
   have e:mr h (x::y::l)=RO h (x::y::l) x:=rfl;by_cases hc:∀ z∈x::y::l,z.1=x.1∧∀ id,id<h.nx→z.2.t.get id=x.2.t.get id
   ·exact .inr ⟨x,List.mem_cons_self ..,hc,by rw[e];exact zB0 hc⟩
   exact .inl (by rw[e];exact zB1 hc)
theorem HP {h:Hp} {r:R (AV×Hp)} {outs:List (AV×Hp)} (hj:oB h r=.ok outs):∃ l,r=.ok l∧outs=mr h l:=by
 cases r with
 | ok l=>cases hj;exact ⟨l,rfl,rfl⟩
 | bad s=>cases hj
theorem Tw {h:Hp} {l:List (AV×Hp)} {m:Nat} (hb:∀ x∈mr h l,nV x≤m):∀ x∈l,nV x≤m:=by
 rcases mU h l with e|⟨x,hx,hc,e⟩
 ·rw[e] at hb;exact hb
 intro y hy;rw[e] at hb;exact zA2 (jb hy) (hb _ (List.mem_singleton.2 rfl))
theorem RG.join {h:Hp} {r:R (AV×Hp)} {k:Nat} (hr:RG k nV r):RG k nV (oB h r):=by
 intro outs ho;obtain ⟨l,rfl,rfl⟩:=HP ho;obtain ⟨h1,h2⟩:=hr l rfl;rcases mU h l with e|⟨x,hx,hc,e⟩
 ·rw[e];exact ⟨h1,h2⟩
 rw[e];refine ⟨by simp,fun y hy=>?_⟩;rw[List.mem_singleton.1 hy];exact zA2 (h2 x hx) (jb hx)
theorem Ol {E:Env} {rec:Rec} (K0:RecM rec) {f:FuncId} {args:List AV} {h:Hp}:RG h.nx nV (hH E rec f args h):=by
 unfold hH NQ;split
 ·split
  ·exact RG.ifE (RG.join (RG.bind (nx:=nE) (qI K0 _ none _ h) fun x hx=>pb hx)) RG.bad
  exact RG.bad
 exact RG.bad
theorem lQ (E:Env):∀ n,RecM (eval E n)
 | 0=>⟨fun _ _ _ _=>RG.bad,fun _ _ _=>RG.bad⟩
 | n+1=>⟨fun r c a h=>qI (lQ E n) c r a h,fun f args h=>Ol (lQ E n)⟩
theorem Qm {β:Pl} {v:Value} (h:v.oneCell'=true):CR β (cOf v) v:=by
 unfold cOf;split
 ·rfl
 ·rfl
 ·rfl
 ·rfl
 ·rfl
 ·rfl
 ·rfl
 exact ⟨rfl,h⟩
theorem KG {β:Pl}:∀ (l:List Value),l.all Value.oneCell'=true→CRs β (l.map cOf) l
 | [],_=>trivial
 | v::l,h=>by
  simp only[List.all_cons,Bool.and_eq_true] at h;exact ⟨Qm h.1,KG l h.2⟩
theorem dD {β:Pl} {v:Value} (h:okV v=true):AR β (ofValue v) v:=by
 unfold ofValue;split
 ·rename_i cs
  exact ⟨cs.toList,KG _ h,by simp⟩
 ·rename_i vs
  have h':vs.toList=[]:=by simpa [okV] using h
  have:vs=#[]:=by cases vs;simpa using h'
  subst this;exact ⟨[],trivial,rfl⟩
 rename_i h1 h2
 refine Qm ?_;cases v <;> first|rfl|exact absurd rfl (h1 _)|exact absurd rfl (h2 _)
theorem mX {v:Value} (h:∀ vs,v≠.tuple vs):(ofValue v).bz=true:=by
 unfold ofValue;split
 ·rfl
 ·exact absurd rfl (h _)
 rfl
theorem AC.iN {β:Pl} {c:AC} {u v:Value} (h:c.val?=some u) (hr:CR β c v):v=u:=by
 cases c with
 | b x=>cases h;exact hr
 | i k n=>cases h;exact hr
 | o x=>cases x <;> simp[AC.val?] at h <;> subst h <;> first|exact hr|exact hr.1
theorem tH {β:Pl}:∀ {l:List AC} {us vs:List Value},aX l=some us→CRs β l vs→vs=us
 | [],us,vs,h,hr=>by
  cases h
  cases vs with
  | nil=>rfl
  | cons=>exact hr.elim
 | c::l,us,vs,h,hr=>by
  cases vs with
  | nil=>exact hr.elim
  | cons v vs=>
   unfold aX at h;split at h
   ·rename_i u us' hc hl
    cases h
    rw[AC.iN hc hr.1,tH hl hr.2]
   cases h
theorem AV.iN {β:Pl} {x:AV} {u v:Value} (h:x.val?=some u) (hr:AR β x v):v=u:=by
 cases x with
 | one c=>exact AC.iN h hr
 | agg l=>
  obtain ⟨vs,h1,rfl⟩:=hr;unfold AV.val? at h;simp only at h
  split at h
  ·rename_i us hu
   cases h
   rw[tH hu h1]
  cases h
 | tup l=>
  obtain ⟨vs,h1,rfl⟩:=hr;cases l with
  | nil=>
   cases h
   cases vs with
   | nil=>rfl
   | cons=>exact h1.elim
  | cons=>cases h
 | any=>cases h
theorem bH {β:Pl} {tm:PT AV} {a:Act} (h:∀ t,AR β (ay (tm.get t) aF fun v=>v) (a.tmps.getD t undef)) (x:Operand):AR β (ev tm x) (a.eval x):=by
 cases x with
 | tmp t=>exact h t
 | const v=>
  show AR β (bif okV v then ofValue v else .any) v;cases ho:okV v with
  | true=>exact dD ho
  | false=>trivial
 | global g=>trivial
 | func f=>exact ⟨[],rfl,rfl,fun k c v hc _=>by simp at hc⟩
theorem pj {α:Type} {P:Program}:∀ {s:Sem α} {a:α},aw P s=some a→∀ w,s.run P w=.ok a w:=by
 intro s;induction s with
 | pure a=>intro b h w;cases h;rfl
 | program k ih=>intro b h w;exact ih P h w
 | mark m k ih=>intro b h w;exact ih h w
 | load m a k _=>intro b h;cases h
 | store m a v k _=>intro b h;cases h
 | new o k _=>intro b h;cases h
 | shape r k _=>intro b h;cases h
 | freeze a n k _=>intro b h;cases h
 | frozen a k _=>intro b h;cases h
 | getObj r k _=>intro b h;cases h
 | setObj r o k _=>intro b h;cases h
 | choose q k _=>intro b h;cases h
 | sys c k _=>intro b h;cases h
 | halt hl=>intro b h;cases h
section tables
variable {P:Program} {t:TypeId} {w:World}
theorem eN {a:Bool} (h:mW P t=some a):(isAgg t).run P w=.ok a w:=by
 unfold mW at h;split at h
 ·rename_i fs hu;cases h;simp[isAgg,run_underlying hu]
 ·rename_i n e hu;cases h;simp[isAgg,run_underlying hu]
 ·rename_i d h1 h2 hu
  cases h
  simp only[isAgg,Sem.run_bind,run_underlying hu,Result.andThen_ok];cases d <;> first|rfl|exact absurd hu (h1 _)|exact absurd hu (h2 _ _)
 cases h
theorem iM {n:Nat} (h:aS P t=some n):∃ i,P.info? t=some i∧i.size=n:=by
 unfold aS at h;split at h
 ·rename_i i hi;cases h;exact ⟨i,hi,rfl⟩
 cases h
theorem cm {n:Nat} (h:aS P t=some n):(sizeOf t).run P w=.ok n w:=by
 obtain ⟨i,hi,rfl⟩:=iM h;simp[sizeOf,typeInfo,hi]
theorem oF {n:Nat} (h:cB P t=some n):∃ i,P.info? t=some i∧i.bytes=n:=by
 unfold cB at h;split at h
 ·rename_i i hi;cases h;exact ⟨i,hi,rfl⟩
 cases h
theorem jc {z:Value} (h:aB P t=some z):okV z=true∧(∀ vs,z≠.tuple vs)∧∃ i,P.info? t=some i∧i.zero=some z:=by
 unfold aB at h;split at h
 ·rename_i i hi
  split at h
  ·rename_i y hy
   split at h
   ·cases h
   rename_i Y0
   cases ho:okV y with
   | true=>rw[ho] at h;cases h;exact ⟨ho,fun vs=>Y0 vs,i,hi,hy⟩
   | false=>rw[ho] at h;cases h
  cases h
 cases h
theorem eO {z:Value} (h:aB P t=some z):(zeroValue t).run P w=.ok z w:=by
 obtain ⟨_,_,i,hi,hz⟩:=jc h;simp[zeroValue,typeInfo,hi,hz]
theorem Bi {e:TypeId} (h:sm P t=some e):P.underlying t=some (.slice e):=by
 unfold sm at h;split at h
 ·cases h;assumption
 cases h
theorem kX {e:TypeId} {n:Nat} (h:bm P t=some (e,n)):P.underlying t=some (.slice e)∧aS P e=some n:=by
 unfold bm at h;split at h
 ·rename_i e' he
  split at h
  ·rename_i n' hn;cases h;exact ⟨Bi he,hn⟩
  cases h
 cases h
theorem Bv {k e:TypeId} (h:ic P t=some (k,e)):P.underlying t=some (.map k e):=by
 unfold ic at h;split at h
 ·cases h;assumption
 cases h
theorem Eg {a:Bool} {n:Nat} (h:loadT P t=some (a,n)):mW P t=some a∧aS P t=some n:=by
 unfold loadT at h;split at h
 ·rename_i a' n' h1 h2;cases h;exact ⟨h1,h2⟩
 cases h
theorem yL {f:Nat} {fo:Nat} {ft:TypeId} {n:Nat} (h:aI P t f=some (fo,ft,n)):
  ∃ fs fd,P.underlying t=some (.struct fs)∧fs[f]?=some fd∧fd.offset=fo∧fd.type=ft∧aS P ft=some n:=by
 unfold aI at h;split at h
 ·rename_i fs hu
  split at h
  ·rename_i fd hf
   split at h
   ·rename_i n' hn;cases h;exact ⟨fs,fd,hu,hf,rfl,rfl,hn⟩
   cases h
  cases h
 cases h
end tables
def Out (m:Nat) (β:Pl) (H:Hp) (w:World) (l:List (AV×Hp)) (v:Value) (w':World):Prop:=
 ∃ x,x∈l∧∃ β',AR β' x.1 v∧Rel m β' x.2 w'∧Ext β H w β' x.2 w'
def ah (P:Program) (m:Nat) (β:Pl) (H:Hp) (w:World) (n:ad) (r:Result Next):Prop:=
 match n with
 | .val av H'=>H'.nx≤m→∃ v w',(r=.ok (.value v) w'∨(r=.ok .skip w'∧v=undef))∧Out m β H w [(av,H')] v w'
 | .ox l=>(∀ x∈l,x.2.nx≤m)→∃ v w',r=.ok (.value v) w'∧Out m β H w l v w'
 | .enter f args=>∃ vs:List Value,r=(callFunc f vs.toArray).run P w∧ARs β args vs∧al P f=true
 | .round id args=>∃ p vs,β id 0=some p∧ARs β args vs∧r=(Instr.yield p.b vs.toArray).run P w
 | .bad _=>True
section
variable {P:Program} {m:Nat} {β:Pl} {H:Hp} {w:World}
theorem ah.same (hR:Rel m β H w) {av:AV} {v:Value} {r:Result Next} (hr:r=.ok (.value v) w) (ha:AR β av v):ah P m β H w (.val av H) r:=
 fun _=>⟨v,w,.inl hr,_,List.mem_singleton.2 rfl,β,ha,hR,Ext.refl _ _ _⟩
theorem ah.guard {b:Bool} {s:String} {n:ad} {r:Result Next} (h:b=true→ah P m β H w n r):ah P m β H w (aH b s n) r:=by
 cases b with
 | true=>exact h rfl
 | false=>exact trivial
theorem ah.nd {α:Type} {o:Option α} {s:String} {f:α→ad} {r:Result Next} (h:∀ a,o=some a→ah P m β H w (f a) r):ah P m β H w (nd o s f) r:=by
 cases o with
 | none=>exact trivial
 | some a=>exact h a rfl
theorem ag {a b:Bool} (h:both a b=true):a=true∧b=true:=by
 cases a <;> cases b <;> first|exact ⟨rfl,rfl⟩|cases h
end
theorem CO {P:Program} {m:Nat} {β:Pl} {H:Hp} {w:World} {x:AV} {v:Value} {e:ad} {f:Nat→Nat→Nat→Nat→ad} {r:Result Next} (hx:AR β x v) (he:∃ s,e=.bad s)
  (h:∀ id g off lim p,x=.one (.o (.ptr id g off lim))→β id g=some p→off+lim≤p.hi→v=.pointer (some ⟨p.b,p.o+off,none⟩)→ah P m β H w (f id g off lim) r):
  ah P m β H w (su x e f) r:=by
 obtain ⟨s,rfl⟩:=he;cases x with
 | one c=>
  cases c with
  | b _=>exact trivial
  | i _ _=>exact trivial
  | o x=>
   cases x with
   | ptr id g off lim=>
    obtain ⟨p,h1,h2,h3⟩:=hx;exact h id g off lim p rfl h1 h2 h3
   | _=>exact trivial
 | agg _=>exact trivial
 | tup _=>exact trivial
 | any=>exact trivial
theorem IP {P:Program} {m:Nat} {β:Pl} {H:Hp} {w:World} {x:AV} {v:Value} {e:ad} {f:Nat→Nat→Nat→Nat→Nat→ad} {r:Result Next} (hx:AR β x v) (he:ah P m β H w e r)
  (h:∀ id g off len sz p cap o',x=.one (.o (.sl id g off len sz))→β id g=some p→off+len*sz≤p.hi→len≤cap→v=.slice (some o') len cap →
   (cap=0∨(o'=⟨p.b,p.o+off,none⟩∧p.o+off+cap*sz≤p.n))→ah P m β H w (f id g off len sz) r):
  ah P m β H w (slE x e f) r:=by
 cases x with
 | one c=>
  cases c with
  | b _=>exact he
  | i _ _=>exact he
  | o x=>
   cases x with
   | sl id g off len sz=>
    obtain ⟨p,cap,o',h1,h2,h3,h4,h5⟩:=hx;exact h id g off len sz p cap o' rfl h1 h2 h3 h4 h5
   | _=>exact he
 | agg _=>exact he
 | tup _=>exact he
 | any=>exact he
theorem pW {P:Program} {m:Nat} {β:Pl} {H:Hp} {w:World} {x:AV} {v:Value} {e:ad} {f:IntKind→Int→ad} {r:Result Next} (hx:AR β x v) (he:ah P m β H w e r)
  (h:∀ k n,v=.int k n→ah P m β H w (f k n) r):ah P m β H w (eF x e f) r:=by
 cases x with
 | one c=>
  cases c with
  | b _=>exact he
  | i k n=>exact h k n hx
  | o x=>exact he
 | agg _=>exact he
 | tup _=>exact he
 | any=>exact he
theorem GQ {P:Program} {m:Nat} {β:Pl} {H:Hp} {w:World} {x:AV} {v:Value} {e:ad} {f:Bool→ad} {r:Result Next} (hx:AR β x v) (he:ah P m β H w e r)
  (h:∀ b,v=.bool b→ah P m β H w (f b) r):ah P m β H w (dz x e f) r:=by
 cases x with
 | one c=>
  cases c with
  | b b=>exact h b hx
  | i k n=>exact he
  | o x=>exact he
 | agg _=>exact he
 | tup _=>exact he
 | any=>exact he
theorem ue {P:Program} {m:Nat} {β:Pl} {H:Hp} {w:World} {x:AV} {v:Value} {e:ad} {f:List UInt8→ad} {r:Result Next} (hx:AR β x v) (he:ah P m β H w e r)
  (h:∀ s,v=.string ⟨s.toArray⟩→ah P m β H w (f s) r):ah P m β H w (ij x e f) r:=by
 cases x with
 | one c=>
  cases c with
  | b b=>exact he
  | i k n=>exact he
  | o x=>
   cases x with
   | str s=>exact h s hx
   | _=>exact he
 | agg _=>exact he
 | tup _=>exact he
 | any=>exact he
theorem nH {β:Pl} {w:World} {cells:List AC} {p:Place} (h:py β w cells p) (off n:Nat) (hn:off+n≤p.hi):
  ∃ vs:List Value,vs.length=n∧CRs β ((cells.drop off).take n) vs∧∀ j v,vs[j]?=some v→w.cell? ((⟨p.b,p.o+off,none⟩:Addr).add j)=some v:=by
 obtain ⟨c,e,f,h1,h2,h3,h4,h5⟩:=h;refine ⟨(c.toList.drop (p.o+off)).take n,?_,?_,?_⟩
 ·simp only[List.length_take,List.length_drop,Array.length_toList];omega
 ·refine CRs.dp (by simp only[List.length_take,List.length_drop,Array.length_toList];omega) fun k x v hx hv=>?_;rw[List.getElem?_take] at hx hv;split at hx
  ·rename_i hk
   rw[zB0 hk] at hv;rw[List.getElem?_drop] at hx hv;obtain ⟨v',X2,hr⟩:=h5 (off+k) x (by omega) hx;have:v'=v:=by
    rw[Array.getElem?_toList] at hv;rw[show p.o+(off+k)=p.o+off+k from by omega,hv] at X2;exact (Option.some.inj X2).symm
   exact this ▸ hr
  cases hx
 intro j v hv;rw[List.getElem?_take] at hv;split at hv
 ·rename_i hk
  rw[List.getElem?_drop,Array.getElem?_toList] at hv;have:(⟨p.b,p.o+off,none⟩:Addr).add j=⟨p.b,p.o+off+j,none⟩:=by unfold Addr.add;split <;> simp_all
  rw[this];simp[World.cell?,h1,hv]
 cases hv
theorem oh {m:Nat} {β:Pl} {H:Hp} {w:World} (hR:Rel m β H w) {id g:Nat} {cells:List AC} {e:TypeId} {lo gen:Nat} (ho:H.get id=some (.arr cells e lo gen)) (h1:lo≤g) (h2:g≤gen)
  {p:Place} (hp:β id g=some p):gY β w cells e p∧(g=gen→p.hi=cells.length):=by
 obtain ⟨_,B1,_,_⟩:=hR.obj id _ ho;obtain ⟨q,hq,hr,hh⟩:=B1 g h1 h2;rw[hp] at hq;cases hq;exact ⟨hr,hh⟩
theorem nZ {H:Hp} {id g off lim n:Nat} {c:List AC} (h:eT H id g off lim n=some c):
  ∃ cells,(∀ {m:Nat} {β:Pl} {w:World},Rel m β H w→∀ {p:Place},β id g=some p→py β w cells p)∧n≤lim∧off+n≤cells.length∧c=(cells.drop off).take n:=by
 unfold eT rdO at h;cases ho:H.get id with
 | none=>rw[ho] at h;cases h
 | some o=>
  cases o with
  | oth x=>rw[ho] at h;cases h
  | arr cells e lo gen=>
   rw[ho] at h;simp only[bM,ck,bj,lP] at h;split at h
   ·rename_i hc
    simp only[Bool.and_eq_true,Nat.ble_eq] at hc;cases h
    exact ⟨cells,fun hR _ hp=>(oh hR ho hc.1 hc.2.1 hp).1.d,hc.2.2.1,hc.2.2.2,rfl⟩
   cases h
  | ro cells=>
   rw[ho] at h;simp only[bM,ck,bj,lP] at h;split at h
   ·rename_i hc
    simp only[Bool.and_eq_true,Nat.ble_eq] at hc;cases h
    have W6:=zA3 hc.1;refine ⟨cells,fun hR p hp=>?_,hc.2.1,hc.2.2,rfl⟩;obtain ⟨q,hq,hr⟩:=hR.obj id _ ho;rw[W6,hq] at hp;cases hp;exact hr
   cases h
theorem VV {P:Program} {m:Nat} {β:Pl} {H:Hp} {w:World} (hR:Rel m β H w) {t:TypeId} {a:Bool} {n:Nat} (ht:loadT P t=some (a,n)) {x:AV} {v:Value} (hx:AR β x v):
  ah P m β H w (bR H a n x) ((do let y ←Instr.loadAt t v;pure (Next.value y):Sem Next).run P w):=by
 obtain ⟨ha,hn⟩:=Eg ht;unfold bR;refine CO hx ⟨_,rfl⟩ fun id g off lim p _ hp C4 hv=>?_;subst hv;refine ah.nd fun c hc=>?_;obtain ⟨cells,hD,h3,h4,rfl⟩:=nZ hc;have hr:=hD hR hp;obtain ⟨vs,E6,N4,J2⟩:=nH hr off n (by omega);cases a with
 | true=>
  show ah P m β H w (.val (.agg _) H) _;refine ah.same hR (v:=.agg vs.toArray) ?_ ⟨vs,N4,rfl⟩;have hl:=run_loadCells_list (P:=P) w ⟨p.b,p.o+off,none⟩ vs J2;rw[E6] at hl;simp[Instr.loadAt,Instr.sureAddr,loadVar,eN ha,cm hn,hl]
 | false=>
  cases W2:(cells.drop off).take n with
  | nil=>exact trivial
  | cons y l=>
   rw[W2] at N4;cases vs with
   | nil=>exact N4.elim
   | cons u us=>
    show ah P m β H w (.val (.one y) H) _;refine ah.same hR (v:=u) ?_ N4.1;have h0:=J2 0 u rfl;have:(⟨p.b,p.o+off,none⟩:Addr).add 0=⟨p.b,p.o+off,none⟩:=rfl;rw[this] at h0;simp[Instr.loadAt,Instr.sureAddr,loadVar,eN ha,run_load,h0]
theorem gh {α:Type} (l:List α) (off:Nat) (c:List α) (k:Nat) (h:off+c.length≤l.length):
  (l.take off++(c++l.drop (off+c.length)))[k]?=if k<off then l[k]? else if k<off+c.length then c[k - off]? else l[k]?:=by
 have ht:(l.take off).length=off:=by simp;omega
 by_cases h1:k<off
 ·rw[zB0 h1,List.getElem?_append_left (by omega),List.getElem?_take,zB0 h1]
 rw[zB1 h1,List.getElem?_append_right (by omega),ht];by_cases h2:k<off+c.length
 ·rw[zB0 h2,List.getElem?_append_left (by omega)]
 rw[zB1 h2,List.getElem?_append_right (by omega),List.getElem?_drop];congr 1
 omega
theorem ff {α:Type} (l:List α) (off:Nat) (c:List α) (h:off+c.length≤l.length):(l.take off++(c++l.drop (off+c.length))).length=l.length:=by
 simp only[List.length_append,List.length_take,List.length_drop];omega
theorem uJ {β:Pl} {w:World} {cells:List AC} {e:TypeId} {p:Place} (h:gY β w cells e p) (hp:p.hi=cells.length) {off:Nat} {c:List AC} {vs:List Value} (hc:CRs β c vs) (N':off+c.length≤cells.length):
  ∃ cur:Array Value,w.heap[p.b]?=some (.cells cur e (0,0))∧p.o+off+0+vs.length≤cur.size ∧
   gY β (w.setRow p.b (cur.toList.take (p.o+off+0)++vs++cur.toList.drop (p.o+off+0+vs.length)).toArray) (cells.take off++(c++cells.drop (off+c.length))) e p:=by
 obtain ⟨cur,h1,h2,h3,h4,h5⟩:=h;have hl:=hc.length;refine ⟨cur,h1,by omega,?_⟩;have F2:p.o+off+0+vs.length≤cur.toList.length:=by simp;omega
 refine ⟨_,setRow_heap w p.b cur _ e _ h1,?_,h3,by rw[ff _ _ _ N'];exact h4,?_⟩
 ·rw[List.append_assoc,List.size_toArray,ff _ _ _ F2];simpa using h2
 intro k x hk hx;rw[gh _ _ _ _ N'] at hx;rw[List.append_assoc,List.getElem?_toArray,gh _ _ _ _ F2];by_cases a1:k<off
 ·rw[zB0 a1] at hx;rw[zB0 (by omega)];simpa using h5 k x hk hx
 rw[zB1 a1] at hx;rw[zB1 (by omega)];by_cases a2:k<off+c.length
 ·rw[zB0 a2] at hx;rw[zB0 (by omega)];have D0:k - off<vs.length:=by omega
  refine ⟨vs[k - off],?_,hc.get (k - off) x _ hx (zB4 D0)⟩;rw[show p.o+k - (p.o+off+0)=k - off from by omega,zB4 D0]
 rw[zB1 a2] at hx;rw[zB1 (by omega)];simpa using h5 k x hk hx
theorem Ml {β:Pl} {w w':World} {id:Nat} {cells cells':List AC} {e:TypeId} {lo gen:Nat} {p:Place} (h:fS β w id (.arr cells e lo gen)) (hp:β id gen=some p) (hr:gY β w' cells' e p) (hl:p.hi=cells'.length):
  fS β w' id (.arr cells' e gen gen):=by
 refine ⟨zA1 _,?_,?_,h.2.2.2⟩
 ·intro g h1 h2;have:g=gen:=by omega
  subst this;exact ⟨p,hp,hr,fun _=>hl⟩
 intro g g' q q' h1 h2 h3 hq O4;have e1:g=gen:=by omega
 have e2:g'=gen:=by omega
 subst e1;subst e2;rw[hq] at O4;cases O4;exact ⟨zA1 _,fun _=>rfl⟩
theorem PH {P:Program} {m:Nat} {β:Pl} {H:Hp} {w:World} (hR:Rel m β H w) (hm:m≤m) {t:TypeId} {n:Nat} (ht:aS P t=some n) {x y:AV} {v u:Value} (hx:AR β x v) (hy:AR β y u):
  ah P m β H w (fQ H n x y) ((do Instr.storeAt t u v;pure Next.skip:Sem Next).run P w):=by
 unfold fQ;refine CO hy ⟨_,rfl⟩ fun id g off lim p _ hp C4 hu=>?_;subst hu;unfold mE;cases ho:H.get id with
 | none=>exact trivial
 | some o=>
  cases o with
  | oth x=>exact trivial
  | ro x=>exact trivial
  | arr cells e lo gen=>
   refine ah.guard fun hc=>?_;have B0:x.bz=true:=(ag (ag (ag (ag (ag hc).2).2).2).2).2;have x_:Nat.beq g gen=true:=(ag hc).1;have I':Nat.beq (bw x.cells) n=true:=(ag (ag hc).2).1;have N_:Nat.ble n lim=true:=(ag (ag (ag hc).2).2).1;have hc4:Nat.ble (Nat.add off n) (bw cells)=true:=(ag (ag (ag (ag hc).2).2).2).1;have hc5:Nat.ble lo gen=true:=(ag (ag (ag (ag (ag hc).2).2).2).2).1;have e1:g=gen:=zA3 x_;have e2:(bw x.cells)=n:=zA3 I';have e4:off+n≤bw cells:=zA4 hc4;have e5:lo≤gen:=zA4 hc5;rw[bj] at e2 e4;subst e1;intro W0;have W2:=hx.cells B0;have E6:v.cells.size=n:=by rw[←e2];simpa using W2.length
   obtain ⟨B1,I_⟩:=oh hR ho e5 (zA1 _) hp;obtain ⟨cur,hg,F2,Q2⟩:=uJ B1 (I_ rfl) W2 (by rw[e2];exact e4);have O2:=run_storeCells_at P p.b (p.o+off) e v.cells.toList 0 cur w hg F2 W2.lN;have T1:=lO hR hm W0 ho (.arr (eQ cells off x.cells) e g g) (β':=β) (w':=w.setRow p.b (cur.toList.take (p.o+off+0)++v.cells.toList++cur.toList.drop (p.o+off+0+v.cells.toList.length)).toArray)
    (fun _ _ _ h=>h) (fun _ _ _=>rfl) (by simp) (by simp) (by simp) (by simp)
    (fun b _ hb=>setRow_other w p.b b _ (fun hh=>hb g p ⟨e5,zA1 _⟩ hp hh.symm))
    (by rw[fz];exact Ml (hR.obj id _ ho) hp Q2 (by rw[ff _ _ _ (by rw[e2];exact e4)];exact I_ rfl))
    (fun g0 p0 W6 U9=>.inr ⟨g,p,⟨e5,zA1 _⟩,hp,by
     have:g0=g:=by have:=W6.1;have:=W6.2;omega
     subst this;rw[hp] at U9;cases U9;rfl⟩)
   refine ⟨undef,_,.inr ⟨?_,rfl⟩,_,List.mem_singleton.2 rfl,β,⟨[],trivial,rfl⟩,T1.1,T1.2⟩;simp[Instr.storeAt,Instr.sureAddr,storeVar,cm ht,E6,O2]
theorem Out.one {m:Nat} {β β':Pl} {H H':Hp} {w w':World} {av:AV} {v:Value} (ha:AR β' av v) (h:Rel m β' H' w'∧Ext β H w β' H' w'):Out m β H w [(av,H')] v w':=
 ⟨_,List.mem_singleton.2 rfl,β',ha,h.1,h.2⟩
theorem yF {P:Program} {m:Nat} {β:Pl} {H:Hp} {w:World} (hR:Rel m β H w) (hm:m≤m) {cells:List AC} {vs:Array Value} (e:TypeId) (hc:CRs β cells vs.toList) {r:Result Next}
  (hr:r=.ok (.value (.pointer (some ⟨w.heap.size,0,none⟩))) (w.alloc (.cells vs e))):ah P m β H w (ib H cells e) r:=by
 intro W0;have M6:H.nx+1≤m:=W0;have h:=ud hR hm (by omega) cells vs e hc w rfl rfl rfl rfl #[];refine ⟨_,_,.inl hr,Out.one ?_ (by simpa using h)⟩;refine ⟨_,aO _ _ _ _,?_,rfl⟩;show 0+bw cells≤cells.length;rw[bj];omega
theorem Sy {P:Program} {m:Nat} {β:Pl} {H:Hp} {w:World} (hR:Rel m β H w) (hm:m≤m) {e:TypeId} {z:Value} (hz:aB P e=some z):
  ah P m β H w (ib H (ofValue z).cells e) ((do let y ←Instr.alloc e true (.tuple #[]);pure (Next.value y):Sem Next).run P w):=by
 obtain ⟨ho,hn,_⟩:=jc hz;refine yF hR hm e (vs:=z.cells) ((dD ho).cells (mX hn)) ?_;simp only[Instr.alloc,Sem.run_bind,eO hz,Result.andThen_ok];rfl
theorem Xk {P:Program} {m:Nat} {β:Pl} {H:Hp} {w:World} (hR:Rel m β H w) (hm:m≤m) (e:TypeId) {x:AV} {v:Value} (hx:AR β x v):
  ah P m β H w (aH x.bz "box - a tuple" (ib H x.cells e)) ((do let y ←Instr.box e v;pure (Next.value y):Sem Next).run P w):=by
 refine ah.guard fun hn=>?_;refine yF hR hm e (vs:=v.cells) (hx.cells hn) ?_;rfl
theorem OD (off:Nat):∀ (vs:List Value) (i:Nat) (cs:Array Value),off+i+vs.length≤cs.size →
  ((vs.zipIdx i).foldl (fun cs (x:Value×Nat)=>cs.setIfInBounds (off+x.2) x.1) cs).toList=cs.toList.take (off+i)++(vs++cs.toList.drop (off+i+vs.length)):=by
 intro vs;induction vs with
 | nil=>intro i cs _;simp
 | cons v vs ih=>
  intro i cs h;simp only[List.length_cons] at h;simp only[List.zipIdx_cons,List.foldl_cons];rw[ih (i+1) _ (by simp;omega)];rw[Array.toList_setIfInBounds];apply List.ext_getElem?
  intro k;have hlen:cs.toList.length=cs.size:=by simp
  have e1:=gh (cs.toList.set (off+i) v) (off+(i+1)) vs k (by simp;omega);have e2:=gh cs.toList (off+i) (v::vs) k (by simp;omega);rw[e1];rw[e2];simp only[List.length_cons];by_cases a1:k<off+i
  ·rw[zB0 (by omega),zB0 a1,List.getElem?_set_ne (by omega)]
  by_cases a2:k=off+i
  ·subst a2;rw[zB0 (by omega),zB1 (by omega),zB0 (by omega),List.getElem?_set_self (by omega)];simp
  rw[zB1 (by omega),zB1 a1];by_cases a3:k<off+(i+1)+vs.length
  ·rw[zB0 a3,zB0 (by omega)];rw[show k - (off+i)=(k - (off+(i+1)))+1 from by omega,List.getElem?_cons_succ]
  rw[zB1 a3,zB1 (by omega),List.getElem?_set_ne (by omega)]
theorem KL {β:Pl} {tm:PT AV} {a:Act} (Q0:∀ t,AR β (ay (tm.get t) aF fun v=>v) (a.tmps.getD t undef)) {place:Nat→Option (Nat×Nat)}:
  ∀ {l:List (Nat×Operand)} {r:List (Nat×Nat×OpF)} {z:List AC} {c:List AC} {vs:Array Value},cC place l=some r→eZ tm r z=some c→CRs β z vs.toList →
   ∃ us:Array Value,Instr.fill place vs (l.map fun p=>(p.1,a.eval p.2))=some us∧CRs β c us.toList∧c.length=z.length:=by
 intro l;induction l with
 | nil=>
  intro r z c vs h hf hz;cases h
  have:z=c:=by injection hf
  subst this;exact ⟨vs,rfl,hz,rfl⟩
 | cons q l ih=>
  intro r z c vs h hf hz;obtain ⟨i,x⟩:=q;unfold cC at h;split at h
  ·rename_i p r' hp Y2
   cases h
   have hx:=bH Q0 x;have v_:ifE (both (Nat.beq (bw ((opF x).ev tm).cells) p.2) (both (Nat.ble (Nat.add p.1 p.2) (bw z)) ((opF x).ev tm).bz)) (eZ tm r' (eQ z p.1 ((opF x).ev tm).cells)) none=some c:=hf;rw[bM] at v_;split at v_
   ·rename_i hc
    have h1:bw ((opF x).ev tm).cells=p.2:=zA3 (ag hc).1;have h2:p.1+p.2≤bw z:=zA4 (ag (ag hc).2).1;have h3:((opF x).ev tm).bz=true:=(ag (ag hc).2).2;rw[bj] at h1 h2;have W2:CRs β ((opF x).ev tm).cells (a.eval x).cells.toList:=AR.cells hx h3;have hl:=W2.length;have L1:=hz.length;simp only[Array.length_toList] at hl L1;have G1:¬((a.eval x).cells.size≠p.2∨p.1+(a.eval x).cells.size>vs.size):=by omega
    have hfs:=OD p.1 (a.eval x).cells.toList 0 vs (by simp;omega);have hrel:CRs β (eQ z p.1 ((opF x).ev tm).cells) (((a.eval x).cells.zipIdx.foldl (fun cs (x:Value×Nat)=>cs.setIfInBounds (p.1+x.2) x.1) vs)).toList:=by
     rw[←Array.foldl_toList,Array.toList_zipIdx,hfs,fz];refine CRs.append (by simpa using hz.take p.1) (CRs.append W2 ?_);have:=hz.drop (p.1+((opF x).ev tm).cells.length);simpa [hl] using this
    obtain ⟨us,G2,O3,R7⟩:=ih Y2 v_ hrel;refine ⟨us,?_,O3,by rw[R7,fz,ff _ _ _ (by omega)]⟩;simp only[List.map_cons,Instr.fill,hp];rw[zB1 (by simpa using G1)];exact G2
   cases v_
  cases h
theorem Rm {P:Program} {m:Nat} {β:Pl} {H:Hp} {w:World} (hR:Rel m β H w) {tm:PT AV} {a:Act} (Q0:∀ t,AR β (ay (tm.get t) aF fun v=>v) (a.tmps.getD t undef))
  {t:TypeId} {z:Value} {pl:Nat→Option (Nat×Nat)} {parts:Array (Nat×Operand)} {ps:List (Nat×Nat×OpF)} (hz:aB P t=some z) (T6:ca P t=some pl) (S6:cC pl parts.toList=some ps):
  ah P m β H w (oo H (ofValue z).cells tm ps) ((do let y ←Instr.build t (parts.map fun (i,x)=>(i,a.eval x));pure (Next.value y):Sem Next).run P w):=by
 refine ah.nd fun c hc=>?_;obtain ⟨ho,hn,it,Z2,G_⟩:=jc hz;obtain ⟨us,hu,W2,_⟩:=KL Q0 S6 hc (vs:=z.cells) ((dD ho).cells (mX hn));have hb:P.built t (parts.map fun (i,x)=>(i,a.eval x)).toList=some us:=by
  unfold ca at T6;unfold Program.built;rw[Z2];split at T6
  ·rename_i fs B'
   split at T6
   ·rename_i places hp
    cases T6
    simp only[B',G_,hp];rw[←hu];simp
   cases T6
  ·rename_i n el B'
   split at T6
   ·rename_i ie E3
    cases T6
    simp only[B',G_,E3];rw[←hu];simp
   cases T6
  cases T6
 refine ah.same hR (v:=.agg us) ?_ ⟨us.toList,W2,by simp⟩;simp only[Sem.run_bind,run_build w t _ us hb,Result.andThen_ok];rfl
theorem QT (z:List AC):∀ (n k:Nat),(nq z n)[k]?=if k<n*z.length then z[k % z.length]? else none:=by
 intro n;induction n with
 | zero=>intro k;show ([]:List AC)[k]?=_;simp
 | succ n ih=>
  intro k;show (pd z (nq z n))[k]?=_;rw[jM];have e:(n+1)*z.length=n*z.length+z.length:=by rw[Nat.add_mul];simp
  by_cases h:k<z.length
  ·rw[List.getElem?_append_left h,zB0 (by omega),Nat.mod_eq_of_lt h]
  rw[List.getElem?_append_right (by omega),ih];by_cases h2:k<(n+1)*z.length
  ·rw[zB0 h2,zB0 (by omega)];congr 1
   exact (Nat.mod_eq_sub_mod (by omega)).symm
  rw[zB1 h2,zB1 (by omega)]
theorem uN (z:List AC) (n:Nat):(nq z n).length=n*z.length:=by
 induction n with
 | zero=>show ([]:List AC).length=_;simp
 | succ n ih=>
  show (pd z (nq z n)).length=_;rw[jM,List.length_append,ih,Nat.add_mul];omega
theorem Kz {β:Pl} {z:List AC} {vs:Array Value} (h:CRs β z vs.toList) (n:Nat):CRs β (nq z n) ((Array.range (n*vs.size)).map (vs[· % vs.size]!)).toList:=by
 have hl:vs.size=z.length:=by simpa using h.length
 refine CRs.dp (by simp[uN,hl]) fun k c v hc hv=>?_;rw[QT] at hc;split at hc
 ·rename_i hk
  have S2:k<n*vs.size:=by rw[hl];exact hk
  have V3:0<vs.size:=by
   rcases Nat.eq_zero_or_pos vs.size with h0|h0
   ·rw[h0] at S2;omega
   exact h0
  have hm:k % vs.size<vs.size:=Nat.mod_lt _ V3;have X2:v=vs[k % vs.size]:=by
   simp[S2] at hv;rw[←hv,getElem!_pos vs _ hm]
  rw[X2];refine h.get (k % vs.size) c _ ?_ ?_
  ·rw[hl];exact hc
  simp[hm]
 cases hc
theorem xw {P:Program} {m:Nat} {β:Pl} {H:Hp} {w:World} (hR:Rel m β H w) (hm:m≤m) {tm:PT AV} {a:Act} (Q0:∀ t,AR β (ay (tm.get t) aF fun v=>v) (a.tmps.getD t undef))
  {t e:TypeId} {sz len:Nat} {z:Value} {parts:Array (Nat×Operand)} {ps:List (Nat×Nat×OpF)} (he:bm P t=some (e,sz)) (hz:aB P e=some z) (h24:len*sz≤16777216) (L1:(ofValue z).cells.length=sz)
  (S6:cC (fun i=>some (i*sz,sz)) parts.toList=some ps):
  ah P m β H w (iF H (nq (ofValue z).cells len) tm e sz len ps) ((do let y ←Instr.buildSlice t len (parts.map fun (i,x)=>(i,a.eval x));pure (Next.value y):Sem Next).run P w):=by
 refine ah.nd fun c hc=>?_;intro W0;have M6:H.nx+1≤m:=W0;obtain ⟨hu,hs⟩:=kX he;obtain ⟨ho,hn,it,Z2,G_⟩:=jc hz;have hzc:CRs β (ofValue z).cells z.cells.toList:=(dD ho).cells (mX hn);have hzs:z.cells.size=sz:=by rw[←L1];simpa using hzc.length
 have hrep:=Kz hzc len;rw[hzs] at hrep;obtain ⟨us,o9,W2,hclen⟩:=KL Q0 S6 hc hrep;have hlen:c.length=len*sz:=by rw[hclen,uN,L1]
 have h:=ud hR hm (by omega) c us e W2 w rfl rfl rfl rfl #[];have z7:Instr.fill (fun i=>some (i*sz,sz)) ((Array.range (len*sz)).map (z.cells[· % sz]!)) (parts.map fun (i,x)=>(i,a.eval x)).toList=some us:=by rw[←o9];simp
 have P1:(Instr.buildSlice t len (parts.map fun (i,x)=>(i,a.eval x))).run P w=.ok (.slice (some ⟨w.heap.size,0,none⟩) len len) (w.alloc (.cells us e)):=by
  have h24':¬(len*sz>2 ^ 24):=by omega
  by_cases h0:len*sz=0
  ·rw[h0] at z7;simp only[Instr.buildSlice,Sem.run_bind,run_underlying hu,Result.andThen_ok,cm hs,h0];rw[zB1 (by omega)];simp only[if_true,Sem.run_bind,Sem.run_pure,Result.andThen_ok];have hr:∀ f:Nat→Value,(Array.range 0).map f=#[]:=fun f=>by apply Array.ext';simp
   simp only[hr] at z7 ⊢;rw[z7];rfl
  simp only[Instr.buildSlice,Sem.run_bind,run_underlying hu,Result.andThen_ok,cm hs,zB1 h24',zB1 h0,eO hz,Sem.run_pure];rw[hzs,z7];rfl
 refine ⟨_,_,.inl (by simp only[Sem.run_bind,P1,Result.andThen_ok];rfl),Out.one ?_ (by simpa using h)⟩;refine ⟨_,len,_,aO _ _ _ _,?_,zA1 _,rfl,.inr ⟨rfl,?_⟩⟩
 ·show 0+len*sz≤c.length;omega
 have:=W2.length;simp at this
 show 0+0+len*sz≤us.size+(#[]:Array Value).size;simp
 omega
section
variable {P:Program} {m:Nat} {β:Pl} {H:Hp} {w:World}
theorem qq (b o n:Nat):(⟨b,o,none⟩:Addr).add n=⟨b,o+n,none⟩:=by unfold Addr.add;split <;> simp_all
theorem Dj (hR:Rel m β H w) {s:TypeId} {f fo:Nat} {ft:TypeId} {n:Nat} (ht:aI P s f=some (fo,ft,n)) {x:AV} {v:Value} (hx:AR β x v):
  ah P m β H w (dA H fo n x) ((do let y ←Instr.fieldAt s v f;pure (Next.value y):Sem Next).run P w):=by
 obtain ⟨fs,fd,hu,hf,rfl,rfl,hn⟩:=yL ht;unfold dA;refine CO hx ⟨_,rfl⟩ fun id g off lim p _ hp C4 hv=>?_;subst hv;refine ah.guard fun hc=>?_;have h1:1≤n:=zA4 (ag hc).1;have h2:fd.offset+n≤lim:=zA4 (ag hc).2;refine ah.same hR (v:=.pointer (some ⟨p.b,p.o+off+fd.offset,none⟩)) ?_ ⟨p,hp,?_,?_⟩
 ·have Q5:¬n=0:=by omega
  simp[Instr.fieldAt,run_underlying hu,hf,Instr.sureAddr,fieldPlace,cm hn,Q5,qq]
 ·show Nat.add off fd.offset+Nat.sub lim fd.offset≤p.hi;have e1:Nat.add off fd.offset=off+fd.offset:=rfl;have e2:Nat.sub lim fd.offset=lim - fd.offset:=rfl;omega
 show _=Value.pointer (some ⟨p.b,p.o+(off+fd.offset),none⟩);rw[Nat.add_assoc]
theorem ny {n:Int} {k:Nat} (h:wq n=some k):n=(k:Int):=by
 cases n with
 | ofNat j=>cases h;rfl
 | negSucc j=>cases h
theorem CI (hR:Rel m β H w) {t e:TypeId} {sz':Nat} (ht:bm P t=some (e,sz')) {x i:AV} {v u:Value} (hx:AR β x v) (hi:AR β i u):
  ah P m β H w (ct H sz' x i) ((do let y ←Instr.indexAt t v u;pure (Next.value y):Sem Next).run P w):=by
 obtain ⟨hu,hs⟩:=kX ht;unfold ct;refine IP hx trivial fun id g off len sz p cap o' _ hp hlen B8 hv hex=>?_;subst hv;refine pW hi trivial fun k n hn=>?_;subst hn;refine ah.nd fun n' E_=>?_;rw[ny E_];refine ah.guard fun hc=>?_;have h1:sz=sz':=zA3 (ag hc).1;have h2:n'<len:=zA4 (ag hc).2;subst h1;have V_:o'=⟨p.b,p.o+off,none⟩:=by
  rcases hex with h|h
  ·omega
  exact h.1
 subst V_;have hmul:(n'+1)*sz≤len*sz:=Nat.mul_le_mul_right _ h2;rw[Nat.add_mul] at hmul;refine ah.same hR (v:=.pointer (some ⟨p.b,p.o+off+n'*sz,none⟩)) ?_ ⟨p,hp,?_,?_⟩
 ·simp[Instr.indexAt,asIntOf,run_underlying hu,cm hs,qq];intro X9;omega
 ·show Nat.add off (Nat.mul n' sz)+sz≤p.hi;have e1:Nat.add off (Nat.mul n' sz)=off+n'*sz:=rfl;omega
 show _=Value.pointer (some ⟨p.b,p.o+(off+n'*sz),none⟩);rw[Nat.add_assoc]
theorem wQ {lo:Option Operand} {tm:PT AV} {a:Act} (Q0:∀ t,AR β (ay (tm.get t) aF fun v=>v) (a.tmps.getD t undef)) {d k:Nat} (h:BI (lo.map (ev tm)) d=some k):
  match lo.map a.eval with
  | none=>k=d
  | some v=>∃ kd,v=.int kd k:=by
 cases lo with
 | none=>exact (Option.some.inj h).symm
 | some x=>
  have hx:=bH Q0 x;show ∃ kd,a.eval x=.int kd k;have h':eF (ev tm x) none (fun _ n=>wq n)=some k:=h;revert hx h'
  cases ev tm x with
  | one c=>
   cases c with
   | i kd n=>intro hx h';rw[ny h'] at hx;exact ⟨kd,hx⟩
   | b _=>intro _ h';cases h'
   | o _=>intro _ h';cases h'
  | agg _=>intro _ h';cases h'
  | tup _=>intro _ h';cases h'
  | any=>intro _ h';cases h'
theorem run_sliceBound (kd:IntKind) (k y:Nat) (code:BoundsCode) (h:k≤y):(Instr.sliceBound (.int kd k) y code).run P w=.ok k w:=by
 have h':(k:Int)≤(y:Int):=by omega
 simp[Instr.sliceBound,asIntOf,h']
theorem QJ (hR:Rel m β H w) {tm:PT AV} {a:Act} (Q0:∀ t,AR β (ay (tm.get t) aF fun v=>v) (a.tmps.getD t undef)) {t e:TypeId} {sz':Nat} (ht:bm P t=some (e,sz')) {x:Operand} {lo hi:Option Operand}
  {alt:ad} (halt:ah P m β H w alt ((do let y ←Instr.sliceAt t (a.eval x) (lo.map a.eval) (hi.map a.eval) none;pure (Next.value y):Sem Next).run P w)):
  ah P m β H w (cN H sz' (ev tm x) (lo.map (ev tm)) (hi.map (ev tm)) alt) ((do let y ←Instr.sliceAt t (a.eval x) (lo.map a.eval) (hi.map a.eval) none;pure (Next.value y):Sem Next).run P w):=by
 obtain ⟨hu,hs⟩:=kX ht;unfold cN;refine IP (bH Q0 x) halt fun id g off len sz p cap o' _ hp hlen B8 hv hex=>?_;rw[hv];refine ah.nd fun l hl=>ah.nd fun r hr=>ah.guard fun hc=>?_;have h1:sz=sz':=zA3 (ag hc).1;have h2:l≤r:=zA4 (ag (ag hc).2).1;have h3:r≤len:=zA4 (ag (ag hc).2).2;subst h1;have bl:=wQ Q0 hl;have br:=wQ Q0 hr;have hb:(Instr.sliceBounds true len cap (lo.map a.eval) (hi.map a.eval) none).run P w=.ok (l,r,cap) w:=by
  cases hi with
  | none=>
   have Y2:r=len:=br;cases lo with
   | none=>
    have U6:l=0:=bl;rw[Y2,U6];rfl
   | some y=>
    obtain ⟨kd,hk⟩:=(bl:∃ kd,a.eval y=.int kd l);rw[Y2];simp only[Instr.sliceBounds,Option.map_some,Option.map_none,hk,Sem.run_bind,Sem.run_pure,Result.andThen_ok,run_sliceBound kd l len _ (by omega)]
  | some z=>
   obtain ⟨kd2,W4⟩:=(br:∃ kd,a.eval z=.int kd r);cases lo with
   | none=>
    have U6:l=0:=bl;rw[U6];simp only[Instr.sliceBounds,Option.map_some,Option.map_none,W4,Sem.run_bind,Sem.run_pure,Result.andThen_ok,run_sliceBound kd2 r cap _ (by omega)]
   | some y=>
    obtain ⟨kd,hk⟩:=(bl:∃ kd,a.eval y=.int kd l);simp only[Instr.sliceBounds,Option.map_some,hk,W4,Sem.run_bind,Sem.run_pure,Result.andThen_ok,run_sliceBound kd2 r cap _ (by omega),run_sliceBound kd l r _ h2]
 have hmul:r*sz≤len*sz:=Nat.mul_le_mul_right _ h3;have U0:(r - l)*sz=r*sz - l*sz:=Nat.sub_mul _ _ _;have g_:l*sz≤r*sz:=Nat.mul_le_mul_right _ h2;refine ah.same hR (v:=.slice (some (if cap=l then o' else o'.add (l*sz))) (r - l) (cap - l)) ?_ ⟨p,cap - l,_,hp,?_,?_,rfl,?_⟩
 ·simp only[Instr.sliceAt,Instr.slice,Sem.run_bind,run_underlying hu,Result.andThen_ok,hb,cm hs];by_cases R0:cap=l
  ·simp[R0]
  simp[R0]
 ·show Nat.add off (Nat.mul l sz)+Nat.sub r l*sz≤p.hi;have e1:Nat.add off (Nat.mul l sz)=off+l*sz:=rfl;have e2:Nat.sub r l=r - l:=rfl;rw[e1,e2,U0];omega
 ·show Nat.sub r l≤cap - l;have e2:Nat.sub r l=r - l:=rfl;omega
 by_cases R0:cap=l
 ·exact .inl (by omega)
 rw[zB1 R0];have W2:(cap - l)*sz=cap*sz - l*sz:=Nat.sub_mul _ _ _;have hcm:l*sz≤cap*sz:=Nat.mul_le_mul_right _ (by omega);rcases hex with h|⟨h,h'⟩
 ·omega
 refine .inr ⟨?_,?_⟩
 ·show o'.add (l*sz)=⟨p.b,p.o+(off+l*sz),none⟩;rw[h,qq,Nat.add_assoc]
 show p.o+(off+l*sz)+(cap - l)*sz≤p.n;omega
theorem IC (hR:Rel m β H w) {x:AV} {v:Value} (hx:AR β x v) (i:Nat):ah P m β H w (cd H x i) ((do let y ←Instr.extract v i;pure (Next.value y):Sem Next).run P w):=by
 cases x with
 | one c=>exact trivial
 | agg l=>exact trivial
 | any => 
  show ah P m β H w (Nat.rec (motive:=fun _=>List (Bool×List AC)→ad) _ _ i []) _;cases i <;> exact trivial
 | tup l=>
  obtain ⟨vs,N4,rfl⟩:=hx;have key:∀ (l:List (Bool×List AC)) (vs:List Value) (i:Nat),TRs β l vs→∀ r:Result Next,(∀ u,vs[i]?=some u→r=.ok (.value u) w) →
    ah P m β H w (cd H (.tup l) i) r:=by
   intro l vs i;induction i generalizing l vs with
   | zero=>
    intro h r hr;cases l with
    | nil=>exact trivial
    | cons c l=>
     cases vs with
     | nil=>exact h.elim
     | cons u us=>
      obtain ⟨b,cs⟩:=c;have h0:=hr u rfl;cases b with
      | true=>exact ah.same hR h0 h.1
      | false=>
       match cs,h.1 with
       | [c],hc=>exact ah.same hR h0 hc
   | succ i ih=>
    intro h r hr;cases l with
    | nil=>exact trivial
    | cons c l=>
     cases vs with
     | nil=>exact h.elim
     | cons u us=>exact ih l us h.2 r (fun y hy=>hr y (by simpa using hy))
  refine key l vs i N4 _ fun u hu=>?_;simp[Instr.extract,hu]
theorem PW (hR:Rel m β H w) {t:TypeId} {f fo:Nat} {ft:TypeId} {n:Nat} {a:Bool} (ht:aI P t f=some (fo,ft,n)) (ha:mW P ft=some a) {x:AV} {v:Value} (hx:AR β x v):
  ah P m β H w (qL H fo n a x) ((do let y ←Instr.field t v f;pure (Next.value y):Sem Next).run P w):=by
 obtain ⟨fs,fd,hu,hf,rfl,rfl,hn⟩:=yL ht;cases x with
 | one c=>exact trivial
 | tup l=>exact trivial
 | any=>exact trivial
 | agg l=>
  obtain ⟨vs,N4,rfl⟩:=hx;cases a with
  | true=>
   show ah P m β H w (aH (Nat.ble (Nat.add fd.offset n) (bw l)) "field - part" (.val (.agg (cut l fd.offset n)) H)) _
   refine ah.guard fun hc=>?_;have h1:fd.offset+n≤bw l:=zA4 hc;rw[bj] at h1;refine ah.same hR (v:=.agg ((vs.drop fd.offset).take n).toArray) ?_ ⟨_,?_,rfl⟩
   ·simp[Instr.field,run_underlying hu,hf,asAgg,part,eN ha,cm hn]
   rw[lP];exact (N4.drop _).take _
  | false=>
   show ah P m β H w (nd (VY fd.offset l) "field - part" fun c=>.val (.one c) H) _
   refine ah.nd fun c hc=>?_;rw[UW] at hc;have D0:fd.offset<vs.length:=by rw[N4.length];exact (List.getElem?_eq_some_iff.1 hc).1
   have hv:vs[fd.offset]?=some vs[fd.offset]:=zB4 D0;refine ah.same hR (v:=vs[fd.offset]) ?_ (N4.get _ c _ hc hv);simp[Instr.field,run_underlying hu,hf,asAgg,part,eN ha,D0]
end
section
variable {P:Program} {m:Nat} {β:Pl} {H:Hp} {w:World}
theorem XQ (hR:Rel m β H w) {sz:Nat} {x:AV} {v:Value} (hx:AR β x v) {n:Nat} {c:List AC} (h:jf H sz x=some (n,c)):
  (n=0∧c=[]∧v=.slice none 0 0)∨∃ (o':Addr) (cap:Nat) (vs:List Value),v=.slice (some o') n cap∧vs.length=n*sz∧CRs β c vs ∧
   ∀ w':World,(∀ b,b<w.heap.size→w'.heap[b]?=w.heap[b]?)→∀ j u,vs[j]?=some u→w'.cell? (o'.add j)=some u:=by
 unfold jf at h;split at h
 ·rename_i id g off len sz'
  split at h
  ·rename_i c' G1 hc'
   cases h
   have hs:sz'=sz:=zA3 G1;subst hs;obtain ⟨p,cap,o',hp,hlen,B8,rfl,hex⟩:=hx;obtain ⟨cells,hD,h3,h4,rfl⟩:=nZ hc';have hr:=hD hR hp;obtain ⟨vs,E6,N4,J2⟩:=nH hr off (Nat.mul n sz') hlen;refine .inr ⟨o',cap,vs,rfl,E6,N4,fun w' U1 j u hu=>?_⟩;have hb:p.b<w.heap.size:=by obtain ⟨cc,_,_,X4,_⟩:=hr;exact cV X4
   have D0:=(List.getElem?_eq_some_iff.1 hu).1;have hj:j<n*sz':=by rw[E6] at D0;exact D0
   have V3:0<n:=by
    rcases Nat.eq_zero_or_pos n with h0|h0
    ·rw[h0] at hj;omega
    exact h0
   have Z1:o'=⟨p.b,p.o+off,none⟩:=by
    rcases hex with h|h
    ·omega
    exact h.1
   subst Z1;have:=J2 j u hu;rw[←this];have e:((⟨p.b,p.o+off,none⟩:Addr).add j).block=p.b:=by unfold Addr.add;split <;> rfl
   exact World.cell?_of_block (by rw[e];exact U1 p.b hb)
  cases h
 ·cases h
  exact .inl ⟨rfl,rfl,hx⟩
 cases h
theorem fN {sz n:Nat} {o':Addr} {cap:Nat} {vs:List Value} {w':World} (hl:vs.length=n*sz) (h:∀ j u,vs[j]?=some u→w'.cell? (o'.add j)=some u) (len:Nat):
  (Builtin.firstCells sz n (.slice (some o') len cap)).run P w'=.ok vs.toArray w':=run_firstCells_some (P:=P) w' sz n o' len cap vs hl h
theorem wu {cells:List AC} {e:TypeId} {p:Place} (h:gY β w cells e p) {c:List AC} {vs:List Value} (hc:CRs β c vs) {pre:List AC} (k0:Nat) (hk0:k0+pre.length≤p.hi) (Q3:pre=(cells.drop k0).take pre.length)
  (F2:p.o+k0+pre.length+c.length≤p.n):
  ∃ cur:Array Value,w.heap[p.b]?=some (.cells cur e (0,0))∧p.o+k0+pre.length+vs.length≤cur.size ∧
   gY β (w.setRow p.b (cur.toList.take (p.o+k0+pre.length)++vs++cur.toList.drop (p.o+k0+pre.length+vs.length)).toArray) (pre++c) e ⟨p.b,p.o+k0,p.n,pre.length+c.length⟩:=by
 obtain ⟨cur,h1,h2,h3,h4,h5⟩:=h;have hl:=hc.length;refine ⟨cur,h1,by omega,?_⟩;have hfit':p.o+k0+pre.length+vs.length≤cur.toList.length:=by simp;omega
 refine ⟨_,setRow_heap w p.b cur _ e _ h1,?_,?_,?_,?_⟩
 ·rw[List.append_assoc,List.size_toArray,ff _ _ _ hfit'];simpa using h2
 ·show p.o+k0+(pre.length+c.length)≤p.n;omega
 ·show pre.length+c.length≤(pre++c).length;simp
 intro k x hk hx;have S2:k<pre.length+c.length:=hk;show ∃ v,(List.toArray (cur.toList.take (p.o+k0+pre.length)++vs++cur.toList.drop (p.o+k0+pre.length+vs.length)))[p.o+k0+k]?=some v∧CR β x v;rw[List.append_assoc,List.getElem?_toArray,gh _ _ _ _ hfit'];by_cases a1:k<pre.length
 ·rw[List.getElem?_append_left a1] at hx;rw[zB0 (by omega)];have V4:cells[k0+k]?=some x:=by
   have e1:((cells.drop k0).take pre.length)[k]?=some x:=by rw[←Q3];exact hx
   rw[List.getElem?_take,zB0 a1,List.getElem?_drop] at e1;exact e1
  obtain ⟨v,hv,hr⟩:=h5 (k0+k) x (by omega) V4;exact ⟨v,by rw[Array.getElem?_toList,Nat.add_assoc];exact hv,hr⟩
 rw[List.getElem?_append_right (by omega)] at hx;rw[zB1 (by omega),zB0 (by omega)];have D0:k - pre.length<vs.length:=by omega
 refine ⟨vs[k - pre.length],?_,hc.get _ x _ hx (zB4 D0)⟩;rw[show p.o+k0+k - (p.o+k0+pre.length)=k - pre.length from by omega,zB4 D0]
theorem zN {pre c:List AC} {us vs:List Value} (hp:CRs β pre us) (hc:CRs β c vs) (e:TypeId) (tail:Array Value) (w0:World) (hw:w0.heap=w.heap):
  gY β { w0 with heap:=w0.heap.push (.cells (us.toArray++vs.toArray++tail) e) } (pre++c) e ⟨w.heap.size,0,us.length+vs.length+tail.size,pre.length+c.length⟩:=by
 have h1:=hp.length;have h2:=hc.length;refine ⟨us.toArray++vs.toArray++tail,?_,by simp,?_,?_,?_⟩
 ·show (w0.heap.push _)[w.heap.size]?=_;rw[←hw,Array.getElem?_push_size]
 ·show 0+(pre.length+c.length)≤us.length+vs.length+tail.size;omega
 ·show pre.length+c.length≤(pre++c).length;simp
 intro k x hk hx;have S2:k<pre.length+c.length:=hk;have X4:=(hp.append hc);have D0:k<(us++vs).length:=by simp;omega
 refine ⟨(us++vs)[k],?_,X4.get k x _ hx (zB4 D0)⟩;show (us.toArray++vs.toArray++tail)[0+k]?=_;rw[Nat.zero_add,Array.getElem?_append_left (by simp;simp at D0;omega)];rw[←Array.getElem?_toList,Array.toList_append,zB4]
theorem xu (t ty e:TypeId) (i:TypeInfo) (ht:P.underlying t=some (.slice e)) (hi:P.info? e=some i)
  (g o sLen sCap:Nat) (cur:Array Value) (hg:w.heap[g]?=some (.cells cur e (0,0)))
  (v:Value) (m:Nat) (news:List Value) (hv:(Builtin.lenOf v).run P w=.ok m w) (hn:(Builtin.firstCells i.size m v).run P w=.ok news.toArray w) (h1:∀ u∈news,u.oneCell'=true)
  (I7:sLen+m≤sCap) (F2:o+sLen*i.size+news.length≤cur.size):
  (Builtin.append_ #[t,t] ty #[.slice (some ⟨g,o,none⟩) sLen sCap,v]).run P w =
   .ok (.slice (some ⟨g,o,none⟩) (sLen+m) sCap) (w.setRow g (cur.toList.take (o+sLen*i.size)++news++cur.toList.drop (o+sLen*i.size+news.length)).toArray):=by
 have O2:=run_storeCells_at P g (o+sLen*i.size) e news 0 cur w hg (by simpa using F2) h1;simp only[Nat.add_zero] at O2;simp[Builtin.append_,run_underlying ht,sizeOf,typeInfo,hi,hv,I7,hn,qq,O2]
theorem nI (t ty e:TypeId) (i:TypeInfo) (z:Value) (ht:P.underlying t=some (.slice e)) (hi:P.info? e=some i) (hz:i.zero=some z)
  (s:Option Addr) (sLen sCap:Nat) (olds:List Value) (ho:(Builtin.firstCells i.size sLen (.slice s sLen sCap)).run P w.drew=.ok olds.toArray w.drew)
  (v:Value) (m:Nat) (news:List Value) (hv:(Builtin.lenOf v).run P w=.ok m w) (hn:(Builtin.firstCells i.size m v).run P w.drew=.ok news.toArray w.drew)
  (hg:sCap<sLen+m) (hb:(sLen+m)*i.bytes≤140737488355328) (h63:sLen+m≤140737488355328):
  (Builtin.append_ #[t,t] ty #[.slice s sLen sCap,v]).run P w =
   .ok (.slice (some ⟨w.heap.size,0,none⟩) (sLen+m) (grownCap w (sLen+m) sCap e))
    (w.drew.alloc (.cells (olds.toArray++news.toArray++Builtin.zeroCells z.cells (grownCap w (sLen+m) sCap e - (sLen+m))) e)):=by
 have E_:¬(sLen+m≤sCap):=by omega
 have h63':¬(9223372036854775807<((sLen:Int)+(m:Int))):=by omega
 have h48':¬(281474976710656<Builtin.nextslicecap (sLen+m) sCap*i.bytes):=by have:=growslice_fits hg hb;omega
 simp[Builtin.append_,run_underlying ht,sizeOf,typeInfo,zeroValue,hi,hz,hv,E_,h63',h48',Question.forced,hn,ho,Go.newRow,grownCap];congr 2
 apply Array.ext'
 simp[List.append_assoc]
theorem Rh {cells:List AC} {e:TypeId} {p:Place} (h:gY β w cells e p) (c:List AC):gY β w (cells++c) e p:=by
 obtain ⟨cc,r1,r2,r3,r4,r5⟩:=h;refine ⟨cc,r1,r2,r3,by rw[List.length_append];omega,fun j y hj hy=>?_⟩;rw[List.getElem?_append_left (by omega)] at hy;exact r5 j y hj hy
theorem NU {cells:List AC} {e:TypeId} {p q:Place} (h:gY β w cells e q) {cur:Array Value} (hcur:w.heap[p.b]?=some (.cells cur e (0,0))) (vs:List Value) (k:Nat) (hk:k+vs.length≤cur.size)
  (hq:q.b=p.b→q.o+q.hi≤k):gY β (w.setRow p.b (cur.toList.take k++vs++cur.toList.drop (k+vs.length)).toArray) cells e q:=by
 obtain ⟨cc,r1,r2,r3,r4,r5⟩:=h;by_cases hb:q.b=p.b
 ·rw[hb,hcur] at r1;cases r1;have F2:k+vs.length≤cur.toList.length:=by simpa using hk
  have O4:=hq hb;refine ⟨_,by rw[hb];exact setRow_heap w p.b cur _ e _ hcur,?_,r3,r4,fun j y hj hy=>?_⟩
  ·rw[List.append_assoc,List.size_toArray,ff _ _ _ F2];simpa using r2
  obtain ⟨v',X2,Y2⟩:=r5 j y hj hy;refine ⟨v',?_,Y2⟩;rw[List.append_assoc,List.getElem?_toArray,gh _ _ _ _ F2,zB0 (by omega),Array.getElem?_toList];exact X2
 exact ⟨cc,by rw[setRow_other _ _ _ _ hb];exact r1,r2,r3,r4,r5⟩
theorem ED {w':World} {id:Nat} {cells c:List AC} {e:TypeId} {lo gen:Nat} (h:fS β w id (.arr cells e lo gen)) {q:Place} (hr:gY β w' (cells++c) e q) (hq:q.hi=(cells++c).length)
  (hold:∀ k p,lo≤k→k≤gen→β id k=some p→gY β w' cells e p∧(p.b=q.b→p.o=q.o)):fS (plus β id (gen+1) q) w' id (.arr (cells++c) e lo (gen+1)):=by
 obtain ⟨h1,h2,h3,h4⟩:=h;have hs:Sub β (plus β id (gen+1) q):=iY (h4 _ (by omega));refine ⟨by omega,?_,?_,?_⟩
 ·intro k E4 W4;by_cases hk:k=gen+1
  ·subst hk;exact ⟨_,aO _ _ _ _,gY.mono hs hr rfl,fun _=>hq⟩
  obtain ⟨p,hp,_,_⟩:=h2 k E4 (by omega);exact ⟨p,hs _ _ _ hp,gY.mono hs (Rh (hold k p E4 (by omega) hp).1 c) rfl,fun h=>absurd h hk⟩
 ·intro k k' p p' E4 W4 hk3 hp F3;by_cases S2:k'=gen+1
  ·subst S2;rw[aO] at F3;cases F3;by_cases hk:k=gen+1
   ·subst hk;rw[aO] at hp;cases hp;exact ⟨zA1 _,fun _=>rfl⟩
   rw[bI _ _ _ _ (by omega)] at hp;obtain ⟨r,F0⟩:=(hold k p E4 (by omega) hp);obtain ⟨cc,_,_,_,r4,_⟩:=r;exact ⟨by rw[hq,List.length_append];omega,F0⟩
  rw[bI _ _ _ _ (by omega)] at hp F3;exact h3 k k' p p' E4 W4 (by omega) hp F3
 intro k hk;rw[bI _ _ _ _ (by omega)];exact h4 k (by omega)
theorem yT {w':World} {id:Nat} {cells cells':List AC} {e:TypeId} {lo gen:Nat} (h:fS β w id (.arr cells e lo gen)) {q:Place} (hr:gY β w' cells' e q) (hq:q.hi=cells'.length):
  fS (plus β id (gen+1) q) w' id (.arr cells' e (gen+1) (gen+1)):=by
 obtain ⟨h1,h2,h3,h4⟩:=h;have hs:Sub β (plus β id (gen+1) q):=iY (h4 _ (by omega));refine ⟨by omega,?_,?_,?_⟩
 ·intro k E4 W4;have hk:k=gen+1:=by omega
  subst hk;exact ⟨_,aO _ _ _ _,gY.mono hs hr rfl,fun _=>hq⟩
 ·intro k k' p p' E4 W4 hk3 hp F3;have hk:k=gen+1:=by omega
  have S2:k'=gen+1:=by omega
  subst hk;subst S2;rw[hp] at F3;cases F3;exact ⟨zA1 _,fun _=>rfl⟩
 intro k hk;rw[bI _ _ _ _ (by omega)];exact h4 k (by omega)
theorem vQ (z:Value) (n:Nat):(Builtin.zeroCells z.cells n).size=n*z.cells.size:=by simp[Builtin.zeroCells]
theorem OE (hR:Rel m β H w) (hm:m≤m) {t:TypeId} (ty:TypeId) {x y:AV} {v u:Value} (hx:AR β x v) (hy:AR β y u):
  ah P m β H w (aV P H t x y) ((do let r ←Builtin.append_ #[t,t] ty #[v,u];pure (Next.value r):Sem Next).run P w):=by
 unfold aV;refine ah.nd fun es hes=>ah.nd fun by_ hby=>ah.nd fun z hz=>ah.guard fun W6=>ah.nd fun nc hnc=>?_;obtain ⟨e,sz⟩:=es;obtain ⟨n,c⟩:=nc;obtain ⟨hu,hs⟩:=kX hes;obtain ⟨ho,B0,it,Z2,G_⟩:=jc hz;obtain ⟨it2,y8,G1⟩:=iM hs;obtain ⟨it3,x8,R5⟩:=oF hby;simp only at Z2 y8 x8
 rw[Z2] at y8 x8;cases y8;cases x8
 have hzc:CRs β (ofValue z).cells z.cells.toList:=(dD ho).cells (mX B0);have L3:bw (ofValue z).cells=sz:=zA3 (ag W6).2;have hz2:sz≠0:=by
  have:=(ag W6).1;intro h0;simp only at this
  rw[h0] at this;cases this
 have hzs:z.cells.size=it.size:=by rw[G1,←L3,bj];simpa using hzc.length
 have L':=XQ hR hy hnc;show ah P m β H w (dn H e sz by_ n c x) _;have B':(Builtin.lenOf u).run P w=.ok n w:=by
  rcases L' with ⟨rfl,_,rfl⟩|⟨o',cap,vs,rfl,_⟩ <;> rfl
 obtain ⟨vs,E6,W2,Y3⟩:∃ vs:List Value,vs.length=n*sz∧CRs β c vs∧∀ w':World,(∀ b,b<w.heap.size→w'.heap[b]?=w.heap[b]?)→(Builtin.firstCells it.size n u).run P w'=.ok vs.toArray w':=by
  rcases L' with ⟨rfl,rfl,rfl⟩|⟨o',cap,vs,rfl,h1,h2,h3⟩
  ·exact ⟨[],by simp,trivial,fun w' _=>by simp[Builtin.firstCells]⟩
  exact ⟨vs,h1,h2,fun w' U1=>fN (by rw[G1];exact h1) (h3 w' U1) _⟩
 have R0:c.length=n*sz:=by rw[←E6];exact W2.length.symm
 unfold dn;split
 ·
  have V4:v=.slice none 0 0:=hx;subst V4;rw[bM];split
  ·rename_i h0
   have Q5:n=0:=zA3 h0;subst Q5;have hz0:(Builtin.firstCells it.size 0 u).run P w=.ok #[] w:=by
    have:=Y3 w (fun _ _=>rfl);have hv0:vs=[]:=List.eq_nil_of_length_eq_zero (by simpa using E6);rw[hv0] at this;exact this
   refine ah.same hR (v:=.slice none 0 0) ?_ rfl;simp[Builtin.append_,run_underlying hu,sizeOf,typeInfo,Z2,B',hz0]
  rename_i h0
  have Q5:n≠0:=fun h=>h0 (by rw[h];rfl);refine ah.guard fun hb=>?_;have hb1:n≤140737488355328:=zA4 (ag hb).1;have Y6:n*by_≤140737488355328:=zA4 (ag hb).2;intro W0;have M6:H.nx+1≤m:=W0;have P1:=nI (P:=P) (w:=w) t ty e it z hu Z2 G_ none 0 0 [] (by simp[Builtin.firstCells]) u n vs B' (Y3 w.drew (fun _ _=>rfl)) (by omega) (by rw[R5];simpa using Y6) (by omega);simp only[Nat.zero_add,Array.empty_append] at P1;have C3:=ud hR hm (by omega) c vs.toArray e (by simpa using W2) w.drew rfl rfl rfl rfl (Builtin.zeroCells z.cells (grownCap w n 0 e - n));refine ⟨_,_,.inl (by simp only[Sem.run_bind,P1,Result.andThen_ok];rfl),Out.one ?_ C3⟩;refine ⟨_,grownCap w n 0 e,_,aO _ _ _ _,?_,grownCap_ge w n 0 e,rfl,.inr ⟨rfl,?_⟩⟩
  ·show 0+n*sz≤c.length;omega
  show 0+0+grownCap w n 0 e*sz≤vs.toArray.size+(Builtin.zeroCells z.cells _).size;have X9:=grownCap_ge w n 0 e;rw[vQ,hzs,G1,List.size_toArray,E6,←Nat.add_mul];have:n+(grownCap w n 0 e - n)=grownCap w n 0 e:=by omega
  rw[this];omega
 ·
  rename_i id g off len sz'
  obtain ⟨p,cap,o',hp,hlen,B8,rfl,hex⟩:=hx;unfold mE;cases P5:H.get id with
  | none=>exact trivial
  | some ob=>
   cases ob with
   | oth q=>exact trivial
   | ro q=>exact trivial
   | arr cells e' lo gen=>
    refine ah.guard fun hc=>?_;have c1:sz'=sz:=zA3 (ag hc).1;have c2:e'=e:=zA3 (ag (ag hc).2).1;have c3:lo≤g:=zA4 (ag (ag (ag hc).2).2).1;have c4:g≤gen:=zA4 (ag (ag (ag (ag hc).2).2).2).1;have c5:off+len*sz≤bw cells:=zA4 (ag (ag (ag (ag (ag hc).2).2).2).2).1;have c6:len+n≤140737488355328:=zA4 (ag (ag (ag (ag (ag (ag hc).2).2).2).2).2).1;have c7:(len+n)*by_≤140737488355328:=zA4 (ag (ag (ag (ag (ag (ag hc).2).2).2).2).2).2;subst c1 c2;rw[bj] at c5;rw[bM];split
    ·
     rename_i h0
     have Q5:n=0:=zA3 h0;subst Q5;have hz0:(Builtin.firstCells it.size 0 u).run P w=.ok #[] w:=by
      have:=Y3 w (fun _ _=>rfl);have hv0:vs=[]:=List.eq_nil_of_length_eq_zero (by simpa using E6);rw[hv0] at this;exact this
     refine ah.same hR (v:=.slice (some o') len cap) ?_ ⟨p,cap,o',hp,hlen,B8,rfl,hex⟩;simp[Builtin.append_,run_underlying hu,sizeOf,typeInfo,Z2,B',B8,hz0,storeCells]
    rename_i h0
    have Q5:n≠0:=fun h=>h0 (by rw[h];rfl);obtain ⟨B1,I_⟩:=oh hR P5 c3 c4 hp;have hgenp:∃ pg,β id gen=some pg∧gY β w cells e' pg∧pg.hi=cells.length:=by
     obtain ⟨hle,hrows,_,_⟩:=hR.obj id _ P5;obtain ⟨q,hq,hr,hh⟩:=hrows gen (by omega) (zA1 _);exact ⟨q,hq,hr,hh rfl⟩
    obtain ⟨us,hul,o9,hucell⟩:=nH B1.d off (len*sz') hlen;have Q3:(cut cells off (Nat.mul len sz')).length=len*sz':=by rw[←hul,lP];exact o9.length.symm
    have C3:β id (gen+1)=none:=(hR.obj id _ P5).2.2.2 (gen+1) (by omega);have U0:∀ q,Sub β (plus β id (gen+1) q):=fun q=>iY C3;have hways:(∃ cur:Array Value,len+n≤cap∧o'=⟨p.b,p.o+off,none⟩∧p.o+off+len*sz'+c.length≤p.n∧w.heap[p.b]?=some (.cells cur e' (0,0))∧p.o+off+len*sz'+vs.length≤cur.size ∧
      (Builtin.append_ #[t,t] ty #[.slice (some o') len cap,u]).run P w=.ok (.slice (some ⟨p.b,p.o+off,none⟩) (len+n) cap) (w.setRow p.b (cur.toList.take (p.o+off+len*sz')++vs++cur.toList.drop (p.o+off+len*sz'+vs.length)).toArray)∧p.o+off+cap*sz'≤p.n) ∨
      (cap<len+n∧∃ (tail:Array Value) (ncap:Nat),len+n≤ncap∧us.length+vs.length+tail.size=ncap*sz' ∧
       (Builtin.append_ #[t,t] ty #[.slice (some o') len cap,u]).run P w=.ok (.slice (some ⟨w.heap.size,0,none⟩) (len+n) ncap) (w.drew.alloc (.cells (us.toArray++vs.toArray++tail) e'))):=by
     by_cases I7:len+n≤cap
     ·left;have V_:o'=⟨p.b,p.o+off,none⟩∧p.o+off+cap*sz'≤p.n:=by
       rcases hex with h|h
       ·omega
       exact h
      have hmul:(len+n)*sz'≤cap*sz':=Nat.mul_le_mul_right _ I7;rw[Nat.add_mul] at hmul;obtain ⟨cur,h1,h2,h3,h4,h5⟩:=B1;have F2:p.o+off+len*sz'+vs.length≤cur.size:=by omega
      have P1:=xu (P:=P) (w:=w) t ty e' it hu Z2 p.b (p.o+off) len cap cur h1 u n vs B' (Y3 w (fun _ _=>rfl)) W2.lN I7 (by rw[G1];exact F2);rw[G1] at P1;rw[V_.1];exact ⟨cur,I7,rfl,by omega,h1,F2,P1,V_.2⟩
     right;refine ⟨by omega,Builtin.zeroCells z.cells (grownCap w (len+n) cap e' - (len+n)),grownCap w (len+n) cap e',grownCap_ge w (len+n) cap e',?_,?_⟩
     ·have X9:=grownCap_ge w (len+n) cap e';rw[vQ,hzs,G1,hul,E6,←Nat.add_mul,←Nat.add_mul];congr 1
      omega
     have hold:(Builtin.firstCells it.size len (.slice (some o') len cap)).run P w.drew=.ok us.toArray w.drew:=by
      refine fN (by rw[G1];exact hul) (fun j q hj=>?_) len;have D0:=(List.getElem?_eq_some_iff.1 hj).1;have Z1:o'=⟨p.b,p.o+off,none⟩:=by
       rcases hex with h|h
       ·have z':len=0:=by omega
        rw[hul,z'] at D0;omega
       exact h.1
      rw[Z1];exact hucell j q hj
     exact nI (P:=P) (w:=w) t ty e' it z hu Z2 G_ (some o') len cap us hold u n vs B' (Y3 w.drew (fun _ _=>rfl)) (by omega) (by rw[R5];exact c7) (by omega)
    have p_:cut cells off (Nat.mul len sz')=(cells.drop off).take (cut cells off (Nat.mul len sz')).length:=by rw[Q3,lP];rfl
    rw[bM];split
    ·
     rename_i O6
     have d1:g=gen:=zA3 (ag O6).1;have d2:off=0:=zA3 (ag (ag O6).2).1;have d3:len*sz'=bw cells:=zA3 (ag (ag O6).2).2;rw[bj] at d3;subst d1 d2;intro W0;have X3:cut cells 0 (Nat.mul len sz')=cells:=by
      rw[lP,List.drop_zero];exact List.take_of_length_le (by show cells.length≤len*sz';omega)
     rw[X3] at Q3 p_;have z7:CRs β cells us:=by
      have:=o9;rw[List.drop_zero,List.take_of_length_le (by omega)] at this;exact this
     rw[jM];have hhi':=I_ rfl;rcases hways with ⟨cur,w1,w2,w3,w4,w5,w6,w7⟩|⟨w1,tail,ncap,w2,w3,w4⟩
     ·
      obtain ⟨cur',L7,_,Q2⟩:=wu B1 W2 (pre:=cells) 0 (by omega) (by rw[List.drop_zero,List.take_length]) (by omega);rw[w4] at L7;cases L7;simp only[Nat.add_zero] at Q2 w6 w2 w3 w7;rw[show len*sz'=cells.length from d3] at w6;have T1:=lO hR hm W0 P5 (.arr (cells++c) e' lo (g+1)) (β':=plus β id (g+1) ⟨p.b,p.o,p.n,cells.length+c.length⟩) (w':=w.setRow p.b (cur.toList.take (p.o+cells.length)++vs++cur.toList.drop (p.o+cells.length+vs.length)).toArray)
       (U0 _) (fun i hi k=>bI _ _ _ _ (fun h=>hi h.1)) (by simp) (by simp) (by simp) (by simp)
       (fun b _ hb=>setRow_other w p.b b _ (fun hh=>hb g p ⟨c3,zA1 _⟩ hp hh.symm))
       (ED (hR.obj id _ P5) Q2 (by simp) fun k q E4 W4 hq=>by
        have D6:=(hR.obj id _ P5).2.2.1 k g q p E4 W4 (zA1 _) hq hp;obtain ⟨hr,_⟩:=oh hR P5 E4 W4 hq;exact ⟨NU hr w4 vs _ (by omega) (fun hb=>by rw[D6.2 hb];omega),D6.2⟩)
       (fun k q hk hq=>.inr (by
        by_cases S2:k=g+1
        ·subst S2;rw[aO] at hq;cases hq;exact ⟨g,p,⟨c3,zA1 _⟩,hp,rfl⟩
        rw[bI _ _ _ _ (by omega)] at hq;exact ⟨k,q,⟨hk.1,by have:=hk.2;omega⟩,hq,rfl⟩))
      refine ⟨_,_,.inl (by simp only[Sem.run_bind,w6,Result.andThen_ok];rfl),Out.one ?_ T1⟩;refine ⟨_,cap,_,aO _ _ _ _,?_,w1,rfl,.inr ⟨rfl,?_⟩⟩
      ·show 0+(len+n)*sz'≤cells.length+c.length;rw[Nat.add_mul];omega
      show p.o+0+cap*sz'≤p.n;omega
     
     have Q2:=zN (w:=w) z7 W2 e' tail w.drew rfl;have T1:=lO hR hm W0 P5 (.arr (cells++c) e' lo (g+1)) (β':=plus β id (g+1) ⟨w.heap.size,0,us.length+vs.length+tail.size,cells.length+c.length⟩) (w':=w.drew.alloc (.cells (us.toArray++vs.toArray++tail) e'))
      (U0 _) (fun i hi k=>bI _ _ _ _ (fun h=>hi h.1)) (by simp) rfl rfl rfl
      (fun b hb _=>RowKit.Below.heap_alloc w.drew _ b hb)
      (ED (hR.obj id _ P5) Q2 (by simp) fun k q E4 W4 hq=>by
       obtain ⟨hr,_⟩:=oh hR P5 E4 W4 hq;have D0:q.b<w.heap.size:=by obtain ⟨cc,X4,_⟩:=hr;exact cV X4
       exact ⟨gY.mono (fun _ _ _ h=>h) hr (RowKit.Below.heap_alloc w.drew _ _ D0),fun hb=>by have D5:q.b=w.heap.size:=hb;omega⟩)
      (fun k q hk hq=>by
       by_cases S2:k=g+1
       ·subst S2;rw[aO] at hq;cases hq;exact .inl (zA1 _)
       rw[bI _ _ _ _ (by omega)] at hq;exact .inr ⟨k,q,⟨hk.1,by have:=hk.2;omega⟩,hq,rfl⟩)
     refine ⟨_,_,.inl (by simp only[Sem.run_bind,w4,Result.andThen_ok];rfl),Out.one ?_ T1⟩;refine ⟨_,ncap,_,aO _ _ _ _,?_,w2,rfl,.inr ⟨rfl,?_⟩⟩
     ·show 0+(len+n)*sz'≤cells.length+c.length;rw[Nat.add_mul];omega
     show 0+0+ncap*sz'≤us.length+vs.length+tail.size;omega
    
    intro W0;obtain ⟨pg,hpg,hrowg,hhig⟩:=hgenp;have z7:CRs β (cut cells off (Nat.mul len sz')) us:=by rw[lP];exact o9
    rw[jM];rcases hways with ⟨cur,w1,w2,w3,w4,w5,w6,w7⟩|⟨w1,tail,ncap,w2,w3,w4⟩
    ·obtain ⟨cur',L7,_,Q2⟩:=wu B1 W2 (pre:=cut cells off (Nat.mul len sz')) off (by omega) p_ (by omega);rw[w4] at L7;cases L7;rw[Q3] at Q2;have T1:=lO hR hm W0 P5 (.arr (cut cells off (Nat.mul len sz')++c) e' (gen+1) (gen+1)) (β':=plus β id (gen+1) ⟨p.b,p.o+off,p.n,len*sz'+c.length⟩)
      (w':=w.setRow p.b (cur.toList.take (p.o+off+len*sz')++vs++cur.toList.drop (p.o+off+len*sz'+vs.length)).toArray)
      (U0 _) (fun i hi k=>bI _ _ _ _ (fun h=>hi h.1)) (by simp) (by simp) (by simp) (by simp)
      (fun b _ hb=>setRow_other w p.b b _ (fun hh=>hb g p ⟨c3,c4⟩ hp hh.symm))
      (yT (hR.obj id _ P5) Q2 (by rw[List.length_append,Q3]))
      (fun k q hk hq=>.inr (by
       have S2:k=gen+1:=by have:=hk.1;have:=hk.2;omega
       subst S2;rw[aO] at hq;cases hq;exact ⟨g,p,⟨c3,c4⟩,hp,rfl⟩))
     refine ⟨_,_,.inl (by simp only[Sem.run_bind,w6,Result.andThen_ok];rfl),Out.one ?_ T1⟩;refine ⟨_,cap,_,aO _ _ _ _,?_,w1,rfl,.inr ⟨rfl,?_⟩⟩
     ·show 0+(len+n)*sz'≤len*sz'+c.length;rw[Nat.add_mul];omega
     show p.o+off+0+cap*sz'≤p.n;omega
    have Q2:=zN (w:=w) z7 W2 e' tail w.drew rfl;have T1:=lO hR hm W0 P5 (.arr (cut cells off (Nat.mul len sz')++c) e' (gen+1) (gen+1)) (β':=plus β id (gen+1) ⟨w.heap.size,0,us.length+vs.length+tail.size,(cut cells off (Nat.mul len sz')).length+c.length⟩)
     (w':=w.drew.alloc (.cells (us.toArray++vs.toArray++tail) e'))
     (U0 _) (fun i hi k=>bI _ _ _ _ (fun h=>hi h.1)) (by simp) rfl rfl rfl
     (fun b hb _=>RowKit.Below.heap_alloc w.drew _ b hb)
     (yT (hR.obj id _ P5) Q2 (by rw[List.length_append]))
     (fun k q hk hq=>.inl (by
      have S2:k=gen+1:=by have:=hk.1;have:=hk.2;omega
      subst S2;rw[aO] at hq;cases hq;exact zA1 _))
    refine ⟨_,_,.inl (by simp only[Sem.run_bind,w4,Result.andThen_ok];rfl),Out.one ?_ T1⟩;refine ⟨_,ncap,_,aO _ _ _ _,?_,w2,rfl,.inr ⟨rfl,?_⟩⟩
    ·show 0+(len+n)*sz'≤(cut cells off (Nat.mul len sz')).length+c.length;rw[Nat.add_mul];omega
    show 0+0+ncap*sz'≤us.length+vs.length+tail.size;omega
 exact trivial
end
end Go.Eng
