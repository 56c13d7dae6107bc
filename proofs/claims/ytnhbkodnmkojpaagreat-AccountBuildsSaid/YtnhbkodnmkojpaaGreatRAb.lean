/- A part of the proof: EngAbs, EngAbs2, EngOps1, EngOps2, EngOps3, EngOps4. No conditions. -/
import Derived.Test.YtnhbkodnmkojpaaGreatRAa
set_option maxRecDepth 100000
set_option maxHeartbeats 64000000
set_option linter.unusedVariables false
set_option linter.unusedSimpArgs false
namespace Go.Eng
open Go
def NM (H:Hp):ae→Prop
 | .val _ H'=>H.nx≤H'.nx
 | .ou l=>l≠[]∧∀ x∈l,H.nx≤x.2.nx
 | _=>True
section
variable {P:Program} {H:Hp}
theorem NM.nd {α:Type} {o:Option α} {s:String} {f:α→ae} (h:∀ a,NM H (f a)):NM H (nd o s f):=by cases o with|none=>exact trivial|some a=>exact h a
theorem NM.guard {b:Bool} {s:String} {n:ae} (h:NM H n):NM H (aF b s n):=by cases b with|true=>exact h|false=>exact trivial
theorem NM.ifE {b:Bool} {x y:ae} (hx:NM H x) (hy:NM H y):NM H (ifE b x y):=by cases b with|true=>exact hx|false=>exact hy
theorem NM.az {α:Type} {o:Option α} {e:ae} {f:α→ae} (he:NM H e) (h:∀ a,NM H (f a)):NM H (az o e f):=by cases o with|none=>exact he|some a=>exact h a
theorem NM.rQ {x:AV} {e:ae} {f:Nat→Nat→Nat→Nat→ae} (he:NM H e) (h:∀ a b c d,NM H (f a b c d)):NM H (rQ x e f):=by
 cases x with
 | one c=>cases c with
  | o q=>cases q <;> first|exact he|exact h _ _ _ _
  | b _=>exact he
  | i _ _=>exact he
 | agg _=>exact he
 | tup _=>exact he
 | any=>exact he
theorem NM.slE {x:AV} {e:ae} {f:Nat→Nat→Nat→Nat→Nat→ae} (he:NM H e) (h:∀ a b c d g,NM H (f a b c d g)):NM H (slE x e f):=by
 cases x with
 | one c=>cases c with
  | o q=>cases q <;> first|exact he|exact h _ _ _ _ _
  | b _=>exact he
  | i _ _=>exact he
 | agg _=>exact he
 | tup _=>exact he
 | any=>exact he
theorem NM.eX {x:AV} {e:ae} {f:IntKind→Int→ae} (he:NM H e) (h:∀ a b,NM H (f a b)):NM H (eX x e f):=by
 cases x with
 | one c=>cases c with
  | o q=>exact he
  | b _=>exact he
  | i _ _=>exact h _ _
 | agg _=>exact he
 | tup _=>exact he
 | any=>exact he
theorem NM.dS {x:AV} {e:ae} {f:Bool→ae} (he:NM H e) (h:∀ a,NM H (f a)):NM H (dS x e f):=by
 cases x with
 | one c=>cases c with
  | o q=>exact he
  | b _=>exact h _
  | i _ _=>exact he
 | agg _=>exact he
 | tup _=>exact he
 | any=>exact he
theorem NM.ia {x:AV} {e:ae} {f:List UInt8→ae} (he:NM H e) (h:∀ a,NM H (f a)):NM H (ia x e f):=by
 cases x with
 | one c=>cases c with
  | o q=>cases q <;> first|exact he|exact h _
  | b _=>exact he
  | i _ _=>exact he
 | agg _=>exact he
 | tup _=>exact he
 | any=>exact he
theorem NM.lF {o:Option aN} {e:ae} {f:List AC→TypeId→Nat→Nat→ae} (he:NM H e) (h:∀ a b c d,NM H (f a b c d)):NM H (lF o e f):=by
 cases o with
 | none=>exact he
 | some o=>cases o with
  | arr _ _ _ _=>exact h _ _ _ _
  | oth _=>exact he
  | ro _=>exact he
theorem NM.same {v:AV}:NM H (.val v H):=zA1 _
theorem NM.mod {v:AV} {i:Nat} {o:aN}:NM H (.val v (H.mod i o)):=zA1 _
theorem NM.new {v:AV} {o:aN}:NM H (.val v (H.new o)):=Nat.le_succ _
theorem NM.bad {s:String}:NM H (.bad s):=trivial
theorem Vy {a:Bool} {n:Nat} {v:AV}:NM H (cd H a n v):=
 NM.rQ NM.bad fun _ _ _ _=>NM.nd fun c=>NM.ifE NM.same (by cases c <;> first|exact NM.bad|exact NM.same)
theorem PZ {n:Nat} {x v:AV}:NM H (fS H n x v):=NM.rQ NM.bad fun _ _ _ _=>NM.lF NM.bad fun _ _ _ _=>NM.guard NM.mod
theorem zt {c:List AC} {e:TypeId}:NM H (im H c e):=NM.new
theorem oQ {ok:Bool} {v:AV} {b:Bool}:NM H (bG H ok v b):=by cases ok with|false=>exact NM.same|true=>exact NM.guard NM.same
theorem On {kt:TypeId} {z m k:AV} {ok:Bool}:NM H (bw P H kt z m k ok):=by
 unfold bw;split
 ·exact NM.nd fun _=>oQ
 ·split
  ·refine NM.nd fun _=>?_;split
   ·exact oQ
   ·exact oQ
   exact NM.bad
  exact NM.bad
 exact NM.bad
theorem rE {kt:TypeId} {m k x:AV}:NM H (aV P H kt m k x):=by
 unfold aV;split
 ·split
  ·exact NM.nd fun _=>NM.guard (NM.nd fun _=>NM.ifE NM.mod NM.mod)
  exact NM.bad
 exact NM.bad
theorem Wa {x:AV}:NM H (gz H x):=by
 unfold gz;split
 ·split
  ·exact NM.same
  ·split
   ·refine NM.guard ?_;split
    ·exact NM.same
    refine NM.guard ⟨by simp,fun x hx=>?_⟩;obtain ⟨e,_,rfl⟩:=List.mem_map.1 hx;exact zA1 _
   exact NM.bad
  exact NM.bad
 exact NM.bad
theorem Ue {x:AV}:NM H (gO H x):=by
 unfold gO;split
 ·split
  ·split
   ·split
    ·refine NM.guard ?_;split
     ·exact NM.same
     exact NM.bad
    exact NM.bad
   exact NM.bad
  exact NM.bad
 exact NM.bad
theorem Pt {t:TypeId} {s x:AV}:NM H (aL P H t s x):=by
 refine NM.nd fun es=>NM.nd fun by_=>NM.nd fun z=>NM.guard (NM.nd fun nc=>?_);unfold dp;split
 ·exact NM.ifE NM.same (NM.guard NM.new)
 ·exact NM.lF NM.bad fun _ _ _ _=>NM.guard (NM.ifE NM.same (NM.ifE NM.mod NM.mod))
 exact NM.bad
theorem VE {t:TypeId} {s x:AV}:NM H (Bz P H t s x):=by
 refine NM.nd fun es=>?_;split
 ·exact NM.guard (NM.nd fun _=>NM.lF NM.bad fun _ _ _ _=>NM.guard NM.mod)
 ·exact NM.same
 ·exact NM.same
 ·exact NM.same
 exact NM.bad
theorem Vr {f:AV} {l:List AV}:NM H (lD P f l):=by
 cases f with
 | one c=>cases c with
  | o q=>cases q <;> first|exact trivial|exact NM.guard trivial
  | b _=>exact trivial
  | i _ _=>exact trivial
 | agg _=>exact trivial
 | tup _=>exact trivial
 | any=>exact trivial
theorem wH {tm:PT AV} {o:Oper}:NM H (aq P tm H o):=by
 unfold aq;refine NM.guard ?_;split
 ·exact NM.guard NM.same
 exact NM.bad
theorem tw (i:Nat):∀ l:List (Bool×List AC),NM H (Nat.rec (motive:=fun _=>List (Bool×List AC)→ae)
   (fun l=>List.rec (motive:=fun _=>ae) (.bad "extract") (fun x _ _=>
    ifE x.1 (.val (.agg x.2) H) (List.rec (motive:=fun _=>ae) (.bad "extract") (fun c m _=>List.rec (motive:=fun _=>ae) (.val (.one c) H) (fun _ _ _=>.bad "extract") m) x.2)) l)
   (fun _ ih l=>List.rec (motive:=fun _=>ae) (.bad "extract") (fun _ l' _=>ih l') l) i l):=by
 induction i with
 | zero=>
  intro l;cases l with
  | nil=>exact NM.bad
  | cons x l=>
   refine NM.ifE NM.same ?_;obtain ⟨b,c⟩:=x;cases c with
   | nil=>exact NM.bad
   | cons y c=>cases c <;> first|exact NM.same|exact NM.bad
 | succ i ih=>
  intro l;cases l with
  | nil=>exact NM.bad
  | cons x l=>exact ih l
theorem Kl {x:AV} {i:Nat}:NM H (cG H x i):=by
 cases x with
 | tup l=>exact tw i l
 | one _=>exact NM.bad
 | agg _=>exact NM.bad
 | any=>exact tw i []
theorem QF {x:AV}:NM H (iC H x):=by
 unfold iC;split
 ·exact NM.new
 ·split
  ·exact NM.new
  exact NM.bad
 exact NM.bad
theorem XO {k:Nat} {x:AV}:NM H (cQ H k x):=by
 match k with
 | 0=>exact NM.ia NM.bad fun _=>NM.same
 | 1=>exact NM.slE (NM.guard NM.same) fun _ _ _ _ _=>NM.same
 | k+2=>
  show NM H (eD H x);unfold eD;split
  ·exact NM.same
  ·split
   ·exact NM.same
   exact NM.bad
  exact NM.bad
theorem XM {kd:Nat} {op:BinOp} {f:BF} {x y:AV} {alt:ae} (ha:NM H alt):NM H (bt H kd op f x y alt):=by
 cases x with
 | one c=>cases c with
  | o q=>
   show NM H (kD H kd op (.one (.o q)) y alt);refine NM.ia ?_ fun _=>NM.ia ha fun _=>NM.az ha fun _=>NM.same;unfold nK;split
   ·split
    ·exact NM.same
    ·exact NM.same
    exact NM.bad
   exact ha
  | b _=>exact ha
  | i k a=>
   show NM H (Eng.eX y alt fun k' b=>kL H f k a k' b alt);exact NM.eX ha fun _ _=>NM.ifE (by cases f <;> first|exact NM.same|exact ha) ha
 | agg _=>exact ha
 | tup _=>exact ha
 | any=>exact ha
theorem Rk {fo n:Nat} {a:Bool} {x:AV}:NM H (pE H fo n a x):=by
 cases x with
 | agg l=>exact NM.ifE (NM.guard NM.same) (NM.nd fun _=>NM.same)
 | one _=>exact NM.bad
 | tup _=>exact NM.bad
 | any=>exact NM.bad
theorem GP {x:AV}:NM H (gJ H x):=by
 cases x with
 | one c=>cases c with
  | o q=>cases q <;> first|exact NM.bad|exact NM.same
  | b _=>exact NM.bad
  | i _ _=>exact NM.bad
 | agg _=>exact NM.bad
 | tup _=>exact NM.bad
 | any=>exact NM.bad
theorem SF.lJ {α:Type} {o:Option α} {s:String} {f:α→SF} {tm:PT AV} (h:∀ a,NM H ((f a).run tm H)):NM H ((ndF o s f).run tm H):=by
 cases o with
 | none=>exact trivial
 | some a=>exact h a
theorem SF.Uu {b:Bool} {s:String} {f:SF} {tm:PT AV} (h:NM H (f.run tm H)):NM H ((Eng.ifE b f (ka s)).run tm H):=by
 cases b with
 | false=>exact trivial
 | true=>exact h
theorem Cn {tm:PT AV} (o:Oper):NM H ((au P o).run tm H):=by
 have hp:∀ o,NM H (aq P tm H o):=fun _=>wH;obtain ⟨dst,op,type,pos,after,guard⟩:=o;cases op with
 | move x=>cases x <;> exact NM.same
 | assign x=>cases x <;> exact NM.same
 | pick c x y=>exact NM.dS NM.bad fun _=>NM.same
 | alloc e=>exact SF.lJ fun _=>zt
 | box e x=>exact NM.guard zt
 | build t parts=>exact SF.lJ fun _=>SF.lJ fun _=>SF.lJ fun _=>NM.nd fun _=>NM.same
 | buildSlice t len parts=>exact SF.lJ fun _=>SF.lJ fun _=>SF.Uu (SF.lJ fun _=>NM.nd fun _=>NM.new)
 | load t x=>exact SF.lJ fun _=>Vy
 | store t x y=>exact SF.lJ fun _=>PZ
 | nilCheck x=>exact GP
 | binOp op t x y c=>exact XM (hp _)
 | unOp op t x=>
  show NM H (Kh H op _ (aq P tm H _));unfold Kh;split
  ·exact NM.dS wH fun _=>NM.same
  exact wH
 | convert s d x=>exact hp _
 | fieldAddr s x f=>exact SF.lJ fun _=>NM.rQ NM.bad fun _ _ _ _=>NM.guard NM.same
 | field t x f=>exact SF.lJ fun _=>SF.lJ fun _=>Rk
 | indexAddr t x i=>exact SF.lJ fun _=>NM.slE NM.bad fun _ _ _ _ _=>NM.eX NM.bad fun _ _=>NM.nd fun _=>NM.guard NM.same
 | index t x i=>exact NM.ifE (NM.ia (hp _) fun _=>NM.eX (hp _) fun _ _=>NM.nd fun _=>NM.nd fun _=>NM.same) (hp _)
 | slice t x lo hi mx=>
  cases mx with
  | some _=>exact trivial
  | none=>
   cases he:ba P t with
   | none=>
    have:au P ⟨dst,.slice t x lo hi none,type,pos,after,guard⟩=.mk fun tm h=>aq P tm h ⟨dst,.slice t x lo hi none,type,pos,after,guard⟩:=by
     simp[au,he]
    rw[this];exact hp _
   | some p=>
    have:au P ⟨dst,.slice t x lo hi none,type,pos,after,guard⟩=.mk fun tm h=>dk h p.2 ((opF x).ev tm) (lo.map (ev tm)) (hi.map (ev tm)) (aq P tm h ⟨dst,.slice t x lo hi none,type,pos,after,guard⟩):=by
     simp[au,he]
    rw[this];exact NM.slE (hp _) fun _ _ _ _ _=>NM.nd fun _=>NM.nd fun _=>NM.guard NM.same
 | extract x i=>exact Kl
 | makeFunc fn first caps=>
  cases fn with
  | func f=>exact SF.Uu (NM.nd fun _=>NM.same)
  | _=>exact trivial
 | makeMap t r=>
  cases r with
  | some _=>exact trivial
  | none=>exact NM.new
 | makeSlice t l c=>exact NM.nd fun _=>NM.nd fun _=>NM.nd fun _=>NM.eX NM.bad fun _ _=>NM.eX NM.bad fun _ _=>NM.nd fun _=>NM.nd fun _=>NM.guard NM.new
 | lookup t x k ok=>exact SF.lJ fun _=>SF.lJ fun _=>On
 | mapUpdate t x k y=>exact SF.lJ fun _=>rE
 | insert t x k y=>exact SF.lJ fun _=>rE
 | range t x=>exact SF.lJ fun _=>QF
 | next x b=>
  cases b with
  | true=>exact trivial
  | false=>exact Wa
 | entry x=>exact Ue
 | call c=>
  show NM H ((tr P _ c).run tm H);unfold tr;split
  ·exact Vr
  ·unfold jh;split
   ·exact SF.Uu Pt
   ·exact SF.Uu VE
   ·exact SF.lJ fun _=>XO
   ·exact hp _
   ·exact hp _
   exact trivial
  exact trivial
 | _=>exact trivial
end
def RG {α:Type} (k:Nat) (nx:α→Nat) (r:R α):Prop:=∀ outs,r=.ok outs→outs≠[]∧∀ x∈outs,k≤nx x
section
variable {α γ:Type} {k:Nat} {nx:α→Nat} {nx':γ→Nat}
theorem RG.bad {s:String}:RG k nx (.bad s:R α):=fun _ h=>by cases h
theorem RG.one {x:α} (h:k≤nx x):RG k nx (.ok [x]):=fun outs h'=>by
 cases h'
 exact ⟨by simp,fun y hy=>by rw[List.mem_singleton.1 hy];exact h⟩
theorem RG.cI {f:α→R γ}:∀ (l:List α),(∀ x∈l,RG k nx' (f x))→RG k nx' (Eng.cI f l)
 | [],_=>RG.bad
 | [x],h=>h x (List.mem_singleton.2 rfl)
 | x::y::l,h=>by
  have h1:=h x (List.mem_cons_self ..);have h2:=RG.cI (y::l) fun z hz=>h z (List.mem_cons_of_mem _ hz);intro outs ho;have U2:wK (f x) (Eng.cI f (y::l))=.ok outs:=ho;cases ha:f x with
  | bad s=>rw[ha] at U2;cases U2
  | ok oa=>
   cases hb:Eng.cI f (y::l) with
   | bad s=>rw[ha,hb] at U2;cases U2
   | ok ob=>
    rw[ha,hb] at U2;have he:oa++ob=outs:=by injection U2
    subst he;refine ⟨fun h0=>(h1 oa ha).1 (List.append_eq_nil_iff.1 h0).1,fun z hz=>?_⟩;rcases List.mem_append.1 hz with hz|hz
    ·exact (h1 oa ha).2 z hz
    exact (h2 ob hb).2 z hz
theorem RG.bind {r:R α} {f:α→R γ} (hr:RG k nx r) (hf:∀ x,k≤nx x→RG k nx' (f x)):RG k nx' (r.bind f):=by
 cases r with
 | bad s=>exact RG.bad
 | ok l=>exact RG.cI l fun x hx=>hf x ((hr l rfl).2 x hx)
theorem RG.le {r:R α} {k':Nat} (hr:RG k nx r) (h:k'≤k):RG k' nx r:=fun outs ho=>⟨(hr outs ho).1,fun x hx=>zA2 h ((hr outs ho).2 x hx)⟩
theorem RG.ifE {b:Bool} {x y:R α} (hx:RG k nx x) (hy:RG k nx y):RG k nx (Eng.ifE b x y):=by cases b with|true=>exact hx|false=>exact hy
theorem RG.az {o:Option γ} {e:R α} {f:γ→R α} (he:RG k nx e) (h:∀ a,RG k nx (f a)):RG k nx (Eng.az o e f):=by cases o with|none=>exact he|some a=>exact h a
end
abbrev nV (x:AV×Hp):Nat:=x.2.nx
abbrev nA (x:ab×Hp):Nat:=x.2.nx
abbrev nE (x:aA×ab×Hp):Nat:=x.2.2.nx
theorem Gj {k:Nat} {tm:PT AV} {g:Option (Option Tmp×Bool)} {yes no:R (ab×Hp)} (hy:RG k nA yes) (hn:RG k nA no):RG k nA (bz tm g yes no):=by
 unfold bz;refine RG.az hy fun p=>RG.az hn fun t=>RG.az hn fun v=>?_;cases v with
 | one c=>cases c with
  | b b=>exact RG.ifE (RG.ifE hy hn) (RG.ifE hn hy)
  | i _ _=>exact hn
  | o _=>exact RG.bad
 | agg _=>exact hn
 | tup _=>exact hn
 | any=>exact RG.bad
structure RecM (rec:Rec):Prop where
 code:∀ r c a h,RG h.nx nE (rec.code r c a h)
 call:∀ f args h,RG h.nx nV (rec.call f args h)
section
variable {E:Env} {rec:Rec} (O0:RecM rec)
theorem sU {k id:Nat} {x:aA×ab×Hp} (hk:k≤nE x):RG k nV (iR id x):=by
 unfold iR;split
 ·split <;> exact RG.one hk
 exact RG.bad
include O0
theorem ta {k id:Nat} {body:Code} {x:aA×ab×Hp} (hk:k≤nE x):RG k nV (eR rec id body x):=by
 unfold eR;split
 ·refine RG.bind (nx:=nE) (RG.le (O0.code _ _ _ _) hk) fun y hy=>sU hy
 exact RG.bad
theorem uH {id:Nat} {args:List AV} {h:Hp}:RG h.nx nV (fR rec id args h):=by
 unfold fR;split
 ·exact RG.ifE (RG.bind (nx:=nE) (O0.code _ _ _ _) fun x hx=>ta O0 hx) RG.bad
 exact RG.bad
theorem Ai {f:FuncId} {args:List AV} {h:Hp}:RG h.nx nV (mS E rec f args h):=by
 unfold mS;exact RG.az (O0.call _ _ _) fun _=>RG.one (zA1 _)
theorem Az {h:Hp} {n:ae} (hn:NM h n):RG h.nx nV (iX E rec h n):=by
 cases n with
 | val v h'=>exact RG.one hn
 | ou l=>intro outs ho;cases ho;exact hn
 | enter f args=>exact Ai O0
 | round id args=>exact uH O0
 | bad s=>exact RG.bad
omit O0 in
theorem jE {k0:Nat} {a:ab} {dst:Option Tmp} {v:AV} {h:Hp} {k:ab→Hp→R (ab×Hp)} (hk:∀ a,RG k0 nA (k a h)):RG k0 nA (fN a dst v h k):=by
 unfold fN;exact RG.az (hk _) fun d=>RG.ifE (hk _) RG.bad
theorem Rf {a:ab} {dst:Option Tmp} {h:Hp} {k:ab→Hp→R (ab×Hp)} {n:ae} (hn:NM h n) (hk:∀ a h',RG h'.nx nA (k a h')):RG h.nx nA (lQ E rec a dst h k n):=by
 cases n with
 | val v h'=>exact jE fun a=>(hk a h').le hn
 | ou l=>exact RG.cI l fun x hx=>jE fun a=>(hk a x.2).le (hn.2 x hx)
 | enter f args=>exact RG.bind (nx:=nV) (Ai O0) fun x hx=>jE fun a=>(hk a x.2).le hx
 | round id args=>exact RG.bind (nx:=nV) (uH O0) fun x hx=>jE fun a=>(hk a x.2).le hx
 | bad s=>exact RG.bad
theorem pP {P:Program} {ops:List Oper}:∀ (l:List Oper) (a:ab) (h:Hp),RG h.nx nA (eo E rec (gh P ops l) a h)
 | [],a,h=>RG.one (zA1 _)
 | o::l,a,h=>by
  show RG h.nx nA (bz a.tm (gOf ops o.guard) (lQ E rec a o.dst h (eo E rec (gh P ops l)) ((au P o).run a.tm h)) (fN a o.dst aH h (eo E rec (gh P ops l))));exact Gj (Rf O0 (Cn o) fun a h'=>pP l a h') (jE fun a=>pP l a h)
omit O0 in
theorem Rr {kk j:Nat} {a:ab} {dst:Option Tmp} {h:Hp} {sub:PT aN} {us did:List Did} {K:List Did→ab→Hp→R (ab×Hp)} {x:R (AV×Hp)} (hx:RG h.nx nV x) (hK:∀ d a h',RG h'.nx nA (K d a h')):
  RG h.nx nA (wN kk j a dst h sub us did K x):=by
 cases x with
 | bad s=>exact RG.bad
 | ok l=>
  cases l with
  | nil=>exact RG.bad
  | cons y l=>
   cases l with
   | cons z l=>exact RG.bad
   | nil=>
    have h1:=(hx [y] rfl).2 y (List.mem_singleton.2 rfl);exact RG.ifE (jE fun a=>RG.le (hK _ _ _) h1) RG.bad
theorem rO {P:Program} {ops:List Oper}:∀ (l:List Oper) (j:Nat) (ms:List Nat) (did:List Did) (a:ab) (h:Hp),RG h.nx nA (cZ E rec (gh P ops l) j ms did a h)
 | [],j,ms,did,a,h=>RG.one (zA1 _)
 | o::l,j,ms,did,a,h=>by
  cases ms with
  | nil=>exact RG.bad
  | cons m ms=>
   show RG h.nx nA (bz a.tm (gOf ops o.guard)
    (wN (bg o) j a o.dst h (aK h.t h.nx a.tm o (aD m did)) (aD m did) did (cZ E rec (gh P ops l) (Nat.add j 1) ms) (Qy E rec a.tm ⟨aK h.t h.nx a.tm o (aD m did),h.nx,[]⟩ (au P o)))
    (fN a o.dst aH h (cZ E rec (gh P ops l) (Nat.add j 1) ms did)))
   refine Gj (Rr ?_ fun d a h'=>rO l _ ms d a h') (jE fun a=>rO l _ ms did a h);have hn:NM ⟨aK h.t h.nx a.tm o (aD m did),h.nx,[]⟩ ((au P o).run a.tm ⟨aK h.t h.nx a.tm o (aD m did),h.nx,[]⟩):=Cn o;exact Az O0 hn
omit O0 in
theorem np {k:Nat} {e:aA} {n r:R (aA×ab×Hp)} {x:Nat→R (aA×ab×Hp)} (hn:RG k nE n) (hx:∀ i,RG k nE (x i)) (hr:RG k nE r):RG k nE (exE e n x r):=by
 cases e with
 | normal=>exact hn
 | exit i=>exact hx i
 | ret=>exact hr
omit O0 in
theorem sX {k l:Nat} {a:ab} {x:AV×Hp} (hk:k≤nV x):RG k nE (eP l a x):=by
 unfold eP;split
 ·split
  ·exact RG.bad
  split
  ·exact RG.one hk
  ·exact RG.one hk
  ·exact RG.one hk
  exact RG.bad
 exact RG.bad
theorem IF {r:Option Nat} {f:OpF} {ps:List Tmp} {as bo:Code} {a:ab} {h:Hp}:RG h.nx nE (gP E rec r f ps as bo a h):=by
 unfold gP;split
 ·exact RG.bad
 rename_i d h1 a1 hs
 have h0:h.nx≤h1.nx:=by
  unfold kS at hs;split at hs
  ·cases hs;exact Nat.le_succ _
  split at hs
  ·cases hs;exact zA1 _
  cases hs
 split
 ·refine RG.ifE (RG.bind (nx:=nV) (RG.le (O0.call _ _ _) (zA2 h0 (Nat.le_succ _))) fun x hx=>sX hx) RG.bad
 exact RG.bad
theorem qC:∀ (c:Code) (r:Option Nat) (a:ab) (h:Hp),RG h.nx nE ((codeF E c).run rec r a h):=by
 intro c;induction c with
 | skip=>intro r a h;exact RG.one (zA1 _)
 | region id ops draw=>
  intro r a h;cases draw with
  | false=>exact RG.bind (nx:=nA) (pP O0 _ a h) fun x hx=>RG.one hx
  | true=>
   show RG h.nx nE ((Eng.ifE (eG ops) (CF.mk fun rec _ a h=>(cZ E rec (po E.P ops) 0 (ez [] 0 ops.toList) [] a h).bind eW) (CF.mk fun _ _ _ _=>.bad "draw - slots")).run rec r a h)
   cases eG ops with
   | false=>exact RG.bad
   | true=>exact RG.bind (nx:=nA) (rO O0 _ _ _ _ a h) fun x hx=>RG.one hx
 | seq x y hx hy=>
  intro r a h;refine RG.bind (nx:=nE) (hx r a h) fun z hz=>np ((hy r _ _).le hz) (fun _=>RG.one hz) (RG.one hz)
 | cond c x y hx hy=>
  intro r a h;show RG h.nx nE (dS ((opF c).ev a.tm) (.bad "cond") fun b=>Eng.ifE b ((codeF E x).run rec r a h) ((codeF E y).run rec r a h))
  cases (opF c).ev a.tm with
  | one q=>
   cases q with
   | b b=>exact RG.ifE (hx r a h) (hy r a h)
   | i _ _=>exact RG.bad
   | o _=>exact RG.bad
  | agg _=>exact RG.bad
  | tup _=>exact RG.bad
  | any=>exact RG.bad
 | block id x hx=>
  intro r a h;refine RG.bind (nx:=nE) (hx r a h) fun z hz=>np (RG.one hz) (fun _=>RG.ifE (RG.one hz) (RG.one hz)) (RG.one hz)
 | loop x hx=>
  intro r a h;refine RG.bind (nx:=nE) (hx r a h) fun z hz=>np (RG.le (O0.code _ _ _ _) hz) (fun _=>RG.one hz) (RG.one hz)
 | rangeFunc f ps as bo _ _=>intro r a h;exact IF O0
 | exit id=>intro r a h;exact RG.one (zA1 _)
 | scope x hx=>intro r a h;exact hx r a h
 | label l=>intro r a h;exact RG.one (zA1 _)
 | goto l=>intro r a h;exact RG.bad
 | ret=>intro r a h;exact RG.one (zA1 _)
 | refuse x=>intro r a h;exact RG.bad
end
theorem ti:∀ (l:List Nat) (h h':Hp),closeAll h l=some h'→h'.nx=h.nx
 | [],h,h',e=>by cases e;rfl
 | d::l,h,h',e=>by
  unfold closeAll at e;split at e
  ·have:=ti l _ h' e;exact this
  cases e
theorem pt {E:Env} {k:Nat} {res:List ResultVar} {x:aA×ab×Hp} (hk:k≤nE x):RG k nV (an E res x):=by
 have key:RG k nV (az (closeAll x.2.2 x.2.1.dfr) (.bad "marks") fun h2=>az (bk E.P res x.2.1.tm h2) (.bad "results") fun l=>.ok [(du l,h2)]):=by
  cases hc:closeAll x.2.2 x.2.1.dfr with
  | none=>exact RG.bad
  | some h2=>
   refine RG.az (o:=bk E.P res x.2.1.tm h2) RG.bad fun l=>RG.one ?_;show k≤h2.nx;rw[ti _ _ _ hc];exact hk
 unfold an;cases x.1 with
 | normal=>exact key
 | exit i=>exact RG.bad
 | ret=>exact key
theorem iU:∀ {l:List (AV×Hp)} {x:AV×Hp},x∈l→x.2.nx≤kJ l
 | y::l,x,h=>by
  show x.2.nx≤Nat.max y.2.nx (kJ l);rcases List.mem_cons.1 h with rfl|h
  ·exact Nat.le_max_left _ _
  exact zA2 (iU h) (Nat.le_max_right _ _)
theorem mV (h:Hp) (l:List (AV×Hp)):lS h l=l∨∃ x,x∈l∧(∀ z∈l,z.1=x.1∧∀ id,id<h.nx→z.2.get id=x.2.get id)∧lS h l=[(x.1,zd h l x.2.t)]:=by
 cases l with
 | nil=>exact .inl rfl
 | cons x l=>
  cases l with
  | nil=>exact .inl rfl
  | cons y l=>
   have e:lS h (x::y::l)=QO h (x::y::l) x:=rfl;by_cases hc:∀ z∈x::y::l,z.1=x.1∧∀ id,id<h.nx→z.2.t.get id=x.2.t.get id
   ·exact .inr ⟨x,List.mem_cons_self ..,hc,by rw[e];exact zB0 hc⟩
   exact .inl (by rw[e];exact zB1 hc)
theorem Hc {h:Hp} {r:R (AV×Hp)} {outs:List (AV×Hp)} (hj:oH h r=.ok outs):∃ l,r=.ok l∧outs=lS h l:=by
 cases r with
 | ok l=>cases hj;exact ⟨l,rfl,rfl⟩
 | bad s=>cases hj
theorem Ul {h:Hp} {l:List (AV×Hp)} {m:Nat} (hb:∀ x∈lS h l,nV x≤m):∀ x∈l,nV x≤m:=by
 rcases mV h l with e|⟨x,hx,hc,e⟩
 ·rw[e] at hb;exact hb
 intro y hy;rw[e] at hb;exact zA2 (iU hy) (hb _ (List.mem_singleton.2 rfl))
theorem RG.join {h:Hp} {r:R (AV×Hp)} {k:Nat} (hr:RG k nV r):RG k nV (oH h r):=by
 intro outs ho;obtain ⟨l,rfl,rfl⟩:=Hc ho;obtain ⟨h1,h2⟩:=hr l rfl;rcases mV h l with e|⟨x,hx,hc,e⟩
 ·rw[e];exact ⟨h1,h2⟩
 rw[e];refine ⟨by simp,fun y hy=>?_⟩;rw[List.mem_singleton.1 hy];exact zA2 (h2 x hx) (iU hx)
theorem OT {E:Env} {rec:Rec} (O0:RecM rec) {f:FuncId} {args:List AV} {h:Hp}:RG h.nx nV (ib E rec f args h):=by
 unfold ib OC;split
 ·split
  ·exact RG.ifE (RG.join (RG.bind (nx:=nE) (qC O0 _ none _ h) fun x hx=>pt hx)) RG.bad
  exact RG.bad
 exact RG.bad
theorem lK (E:Env):∀ n,RecM (eval E n)
 | 0=>⟨fun _ _ _ _=>RG.bad,fun _ _ _=>RG.bad⟩
 | n+1=>⟨fun r c a h=>qC (lK E n) c r a h,fun f args h=>OT (lK E n)⟩
theorem QL {β:Pl} {v:Value} (h:v.oneCell'=true):CR β (cOf v) v:=by
 unfold cOf;split
 ·rfl
 ·rfl
 ·rfl
 ·rfl
 ·rfl
 ·rfl
 ·rfl
 exact ⟨rfl,h⟩
theorem LD {β:Pl}:∀ (l:List Value),l.all Value.oneCell'=true→CRs β (l.map cOf) l
 | [],_=>trivial
 | v::l,h=>by
  simp only[List.all_cons,Bool.and_eq_true] at h;exact ⟨QL h.1,LD l h.2⟩
theorem ed {β:Pl} {v:Value} (h:okV v=true):AR β (ofValue v) v:=by
 unfold ofValue;split
 ·rename_i cs
  exact ⟨cs.toList,LD _ h,by simp⟩
 ·rename_i vs
  have h':vs.toList=[]:=by simpa [okV] using h
  have:vs=#[]:=by cases vs;simpa using h'
  subst this;exact ⟨[],trivial,rfl⟩
 rename_i h1 h2
 refine QL ?_;cases v <;> first|rfl|exact absurd rfl (h1 _)|exact absurd rfl (h2 _)
theorem mA {v:Value} (h:∀ vs,v≠.tuple vs):(ofValue v).bD=true:=by
 unfold ofValue;split
 ·rfl
 ·exact absurd rfl (h _)
 rfl
theorem AC.iH {β:Pl} {c:AC} {u v:Value} (h:c.val?=some u) (hr:CR β c v):v=u:=by
 cases c with
 | b x=>cases h;exact hr
 | i k n=>cases h;exact hr
 | o x=>cases x <;> simp[AC.val?] at h <;> subst h <;> first|exact hr|exact hr.1
theorem tb {β:Pl}:∀ {l:List AC} {us vs:List Value},aY l=some us→CRs β l vs→vs=us
 | [],us,vs,h,hr=>by
  cases h
  cases vs with
  | nil=>rfl
  | cons=>exact hr.elim
 | c::l,us,vs,h,hr=>by
  cases vs with
  | nil=>exact hr.elim
  | cons v vs=>
   unfold aY at h;split at h
   ·rename_i u us' hc hl
    cases h
    rw[AC.iH hc hr.1,tb hl hr.2]
   cases h
theorem AV.iH {β:Pl} {x:AV} {u v:Value} (h:x.val?=some u) (hr:AR β x v):v=u:=by
 cases x with
 | one c=>exact AC.iH h hr
 | agg l=>
  obtain ⟨vs,h1,rfl⟩:=hr;unfold AV.val? at h;simp only at h
  split at h
  ·rename_i us hu
   cases h
   rw[tb hu h1]
  cases h
 | tup l=>
  obtain ⟨vs,h1,rfl⟩:=hr;cases l with
  | nil=>
   cases h
   cases vs with
   | nil=>rfl
   | cons=>exact h1.elim
  | cons=>cases h
 | any=>cases h
theorem bN {β:Pl} {tm:PT AV} {a:Act} (h:∀ t,AR β (az (tm.get t) aH fun v=>v) (a.tmps.getD t undef)) (x:Operand):AR β (ev tm x) (a.eval x):=by
 cases x with
 | tmp t=>exact h t
 | const v=>
  show AR β (bif okV v then ofValue v else .any) v;cases ho:okV v with
  | true=>exact ed ho
  | false=>trivial
 | global g=>trivial
 | func f=>exact ⟨[],rfl,rfl,fun k c v hc _=>by simp at hc⟩
theorem pz {α:Type} {P:Program}:∀ {s:Sem α} {a:α},ay P s=some a→∀ w,s.run P w=.ok a w:=by
 intro s;induction s with
 | pure a=>intro b h w;cases h;rfl
 | program k ih=>intro b h w;exact ih P h w
 | mark m k ih=>intro b h w;exact ih h w
 | load m a k _=>intro b h;cases h
 | store m a v k _=>intro b h;cases h
 | new o k _=>intro b h;cases h
 | shape r k _=>intro b h;cases h
 | freeze a n k _=>intro b h;cases h
 | frozen a k _=>intro b h;cases h
 | getObj r k _=>intro b h;cases h
 | setObj r o k _=>intro b h;cases h
 | choose q k _=>intro b h;cases h
 | sys c k _=>intro b h;cases h
 | halt hl=>intro b h;cases h
section tables
variable {P:Program} {t:TypeId} {w:World}
theorem eZ {a:Bool} (h:ns P t=some a):(isAgg t).run P w=.ok a w:=by
 unfold ns at h;split at h
 ·rename_i fs hu;cases h;simp[isAgg,run_underlying hu]
 ·rename_i n e hu;cases h;simp[isAgg,run_underlying hu]
 ·rename_i d h1 h2 hu
  cases h
  simp only[isAgg,Sem.run_bind,run_underlying hu,Result.andThen_ok];cases d <;> first|rfl|exact absurd hu (h1 _)|exact absurd hu (h2 _ _)
 cases h
theorem iJ {n:Nat} (h:aU P t=some n):∃ i,P.info? t=some i∧i.size=n:=by
 unfold aU at h;split at h
 ·rename_i i hi;cases h;exact ⟨i,hi,rfl⟩
 cases h
theorem cL {n:Nat} (h:aU P t=some n):(sizeOf t).run P w=.ok n w:=by
 obtain ⟨i,hi,rfl⟩:=iJ h;simp[sizeOf,typeInfo,hi]
theorem oI {n:Nat} (h:bW P t=some n):∃ i,P.info? t=some i∧i.bytes=n:=by
 unfold bW at h;split at h
 ·rename_i i hi;cases h;exact ⟨i,hi,rfl⟩
 cases h
theorem iS {z:Value} (h:ax P t=some z):okV z=true∧(∀ vs,z≠.tuple vs)∧∃ i,P.info? t=some i∧i.zero=some z:=by
 unfold ax at h;split at h
 ·rename_i i hi
  split at h
  ·rename_i y hy
   split at h
   ·cases h
   rename_i Z0
   cases ho:okV y with
   | true=>rw[ho] at h;cases h;exact ⟨ho,fun vs=>Z0 vs,i,hi,hy⟩
   | false=>rw[ho] at h;cases h
  cases h
 cases h
theorem eV {z:Value} (h:ax P t=some z):(zeroValue t).run P w=.ok z w:=by
 obtain ⟨_,_,i,hi,hz⟩:=iS h;simp[zeroValue,typeInfo,hi,hz]
theorem Cq {e:TypeId} (h:sh P t=some e):P.underlying t=some (.slice e):=by
 unfold sh at h;split at h
 ·cases h;assumption
 cases h
theorem ke {e:TypeId} {n:Nat} (h:ba P t=some (e,n)):P.underlying t=some (.slice e)∧aU P e=some n:=by
 unfold ba at h;split at h
 ·rename_i e' he
  split at h
  ·rename_i n' hn;cases h;exact ⟨Cq he,hn⟩
  cases h
 cases h
theorem BB {k e:TypeId} (h:ir P t=some (k,e)):P.underlying t=some (.map k e):=by
 unfold ir at h;split at h
 ·cases h;assumption
 cases h
theorem Fc {a:Bool} {n:Nat} (h:loadT P t=some (a,n)):ns P t=some a∧aU P t=some n:=by
 unfold loadT at h;split at h
 ·rename_i a' n' h1 h2;cases h;exact ⟨h1,h2⟩
 cases h
theorem Ak {f:Nat} {fo:Nat} {ft:TypeId} {n:Nat} (h:aJ P t f=some (fo,ft,n)):
  ∃ fs fd,P.underlying t=some (.struct fs)∧fs[f]?=some fd∧fd.offset=fo∧fd.type=ft∧aU P ft=some n:=by
 unfold aJ at h;split at h
 ·rename_i fs hu
  split at h
  ·rename_i fd hf
   split at h
   ·rename_i n' hn;cases h;exact ⟨fs,fd,hu,hf,rfl,rfl,hn⟩
   cases h
  cases h
 cases h
end tables
def Out (m:Nat) (β:Pl) (H:Hp) (w:World) (l:List (AV×Hp)) (v:Value) (w':World):Prop:=
 ∃ x,x∈l∧∃ β',AR β' x.1 v∧Rel m β' x.2 w'∧Ext β H w β' x.2 w'
def ai (P:Program) (m:Nat) (β:Pl) (H:Hp) (w:World) (n:ae) (r:Result Next):Prop:=
 match n with
 | .val av H'=>H'.nx≤m→∃ v w',(r=.ok (.value v) w'∨(r=.ok .skip w'∧v=undef))∧Out m β H w [(av,H')] v w'
 | .ou l=>(∀ x∈l,x.2.nx≤m)→∃ v w',r=.ok (.value v) w'∧Out m β H w l v w'
 | .enter f args=>∃ vs:List Value,r=(callFunc f vs.toArray).run P w∧ARs β args vs∧ak P f=true
 | .round id args=>∃ p vs,β id 0=some p∧ARs β args vs∧r=(Instr.yield p.b vs.toArray).run P w
 | .bad _=>True
section
variable {P:Program} {m:Nat} {β:Pl} {H:Hp} {w:World}
theorem ai.same (hR:Rel m β H w) {av:AV} {v:Value} {r:Result Next} (hr:r=.ok (.value v) w) (ha:AR β av v):ai P m β H w (.val av H) r:=
 fun _=>⟨v,w,.inl hr,_,List.mem_singleton.2 rfl,β,ha,hR,Ext.refl _ _ _⟩
theorem ai.guard {b:Bool} {s:String} {n:ae} {r:Result Next} (h:b=true→ai P m β H w n r):ai P m β H w (aF b s n) r:=by
 cases b with
 | true=>exact h rfl
 | false=>exact trivial
theorem ai.nd {α:Type} {o:Option α} {s:String} {f:α→ae} {r:Result Next} (h:∀ a,o=some a→ai P m β H w (f a) r):ai P m β H w (nd o s f) r:=by
 cases o with
 | none=>exact trivial
 | some a=>exact h a rfl
theorem ag {a b:Bool} (h:both a b=true):a=true∧b=true:=by
 cases a <;> cases b <;> first|exact ⟨rfl,rfl⟩|cases h
end
theorem Cr {P:Program} {m:Nat} {β:Pl} {H:Hp} {w:World} {x:AV} {v:Value} {e:ae} {f:Nat→Nat→Nat→Nat→ae} {r:Result Next} (hx:AR β x v) (he:∃ s,e=.bad s)
  (h:∀ id g off lim p,x=.one (.o (.ptr id g off lim))→β id g=some p→off+lim≤p.hi→v=.pointer (some ⟨p.b,p.o+off,none⟩)→ai P m β H w (f id g off lim) r):
  ai P m β H w (rQ x e f) r:=by
 obtain ⟨s,rfl⟩:=he;cases x with
 | one c=>
  cases c with
  | b _=>exact trivial
  | i _ _=>exact trivial
  | o x=>
   cases x with
   | ptr id g off lim=>
    obtain ⟨p,h1,h2,h3⟩:=hx;exact h id g off lim p rfl h1 h2 h3
   | _=>exact trivial
 | agg _=>exact trivial
 | tup _=>exact trivial
 | any=>exact trivial
theorem IU {P:Program} {m:Nat} {β:Pl} {H:Hp} {w:World} {x:AV} {v:Value} {e:ae} {f:Nat→Nat→Nat→Nat→Nat→ae} {r:Result Next} (hx:AR β x v) (he:ai P m β H w e r)
  (h:∀ id g off len sz p cap o',x=.one (.o (.sl id g off len sz))→β id g=some p→off+len*sz≤p.hi→len≤cap→v=.slice (some o') len cap →
   (cap=0∨(o'=⟨p.b,p.o+off,none⟩∧p.o+off+cap*sz≤p.n))→ai P m β H w (f id g off len sz) r):
  ai P m β H w (slE x e f) r:=by
 cases x with
 | one c=>
  cases c with
  | b _=>exact he
  | i _ _=>exact he
  | o x=>
   cases x with
   | sl id g off len sz=>
    obtain ⟨p,cap,o',h1,h2,h3,h4,h5⟩:=hx;exact h id g off len sz p cap o' rfl h1 h2 h3 h4 h5
   | _=>exact he
 | agg _=>exact he
 | tup _=>exact he
 | any=>exact he
theorem pH {P:Program} {m:Nat} {β:Pl} {H:Hp} {w:World} {x:AV} {v:Value} {e:ae} {f:IntKind→Int→ae} {r:Result Next} (hx:AR β x v) (he:ai P m β H w e r)
  (h:∀ k n,v=.int k n→ai P m β H w (f k n) r):ai P m β H w (eX x e f) r:=by
 cases x with
 | one c=>
  cases c with
  | b _=>exact he
  | i k n=>exact h k n hx
  | o x=>exact he
 | agg _=>exact he
 | tup _=>exact he
 | any=>exact he
theorem FE {P:Program} {m:Nat} {β:Pl} {H:Hp} {w:World} {x:AV} {v:Value} {e:ae} {f:Bool→ae} {r:Result Next} (hx:AR β x v) (he:ai P m β H w e r)
  (h:∀ b,v=.bool b→ai P m β H w (f b) r):ai P m β H w (dS x e f) r:=by
 cases x with
 | one c=>
  cases c with
  | b b=>exact h b hx
  | i k n=>exact he
  | o x=>exact he
 | agg _=>exact he
 | tup _=>exact he
 | any=>exact he
theorem um {P:Program} {m:Nat} {β:Pl} {H:Hp} {w:World} {x:AV} {v:Value} {e:ae} {f:List UInt8→ae} {r:Result Next} (hx:AR β x v) (he:ai P m β H w e r)
  (h:∀ s,v=.string ⟨s.toArray⟩→ai P m β H w (f s) r):ai P m β H w (ia x e f) r:=by
 cases x with
 | one c=>
  cases c with
  | b b=>exact he
  | i k n=>exact he
  | o x=>
   cases x with
   | str s=>exact h s hx
   | _=>exact he
 | agg _=>exact he
 | tup _=>exact he
 | any=>exact he
theorem mK {β:Pl} {w:World} {cells:List AC} {p:Place} (h:pC β w cells p) (off n:Nat) (hn:off+n≤p.hi):
  ∃ vs:List Value,vs.length=n∧CRs β ((cells.drop off).take n) vs∧∀ j v,vs[j]?=some v→w.cell? ((⟨p.b,p.o+off,none⟩:Addr).add j)=some v:=by
 obtain ⟨c,e,f,h1,h2,h3,h4,h5⟩:=h;refine ⟨(c.toList.drop (p.o+off)).take n,?_,?_,?_⟩
 ·simp only[List.length_take,List.length_drop,Array.length_toList];omega
 ·refine CRs.dY (by simp only[List.length_take,List.length_drop,Array.length_toList];omega) fun k x v hx hv=>?_;rw[List.getElem?_take] at hx hv;split at hx
  ·rename_i hk
   rw[zB0 hk] at hv;rw[List.getElem?_drop] at hx hv;obtain ⟨v',X3,hr⟩:=h5 (off+k) x (by omega) hx;have:v'=v:=by
    rw[Array.getElem?_toList] at hv;rw[show p.o+(off+k)=p.o+off+k from by omega,hv] at X3;exact (Option.some.inj X3).symm
   exact this ▸ hr
  cases hx
 intro j v hv;rw[List.getElem?_take] at hv;split at hv
 ·rename_i hk
  rw[List.getElem?_drop,Array.getElem?_toList] at hv;have:(⟨p.b,p.o+off,none⟩:Addr).add j=⟨p.b,p.o+off+j,none⟩:=by unfold Addr.add;split <;> simp_all
  rw[this];simp[World.cell?,h1,hv]
 cases hv
theorem oc {m:Nat} {β:Pl} {H:Hp} {w:World} (hR:Rel m β H w) {id g:Nat} {cells:List AC} {e:TypeId} {lo gen:Nat} (ho:H.get id=some (.arr cells e lo gen)) (h1:lo≤g) (h2:g≤gen)
  {p:Place} (hp:β id g=some p):gQ β w cells e p∧(g=gen→p.hi=cells.length):=by
 obtain ⟨_,I1,_,_⟩:=hR.obj id _ ho;obtain ⟨q,hq,hr,hh⟩:=I1 g h1 h2;rw[hp] at hq;cases hq;exact ⟨hr,hh⟩
theorem nJ {H:Hp} {id g off lim n:Nat} {c:List AC} (h:fg H id g off lim n=some c):
  ∃ cells,(∀ {m:Nat} {β:Pl} {w:World},Rel m β H w→∀ {p:Place},β id g=some p→pC β w cells p)∧n≤lim∧off+n≤cells.length∧c=(cells.drop off).take n:=by
 unfold fg rdO at h;cases ho:H.get id with
 | none=>rw[ho] at h;cases h
 | some o=>
  cases o with
  | oth x=>rw[ho] at h;cases h
  | arr cells e lo gen=>
   rw[ho] at h;simp only[bT,cK,aX,jT] at h;split at h
   ·rename_i hc
    simp only[Bool.and_eq_true,Nat.ble_eq] at hc;cases h
    exact ⟨cells,fun hR _ hp=>(oc hR ho hc.1 hc.2.1 hp).1.d,hc.2.2.1,hc.2.2.2,rfl⟩
   cases h
  | ro cells=>
   rw[ho] at h;simp only[bT,cK,aX,jT] at h;split at h
   ·rename_i hc
    simp only[Bool.and_eq_true,Nat.ble_eq] at hc;cases h
    have j8:=zA3 hc.1;refine ⟨cells,fun hR p hp=>?_,hc.2.1,hc.2.2,rfl⟩;obtain ⟨q,hq,hr⟩:=hR.obj id _ ho;rw[j8,hq] at hp;cases hp;exact hr
   cases h
theorem Wl {P:Program} {m:Nat} {β:Pl} {H:Hp} {w:World} (hR:Rel m β H w) {t:TypeId} {a:Bool} {n:Nat} (ht:loadT P t=some (a,n)) {x:AV} {v:Value} (hx:AR β x v):
  ai P m β H w (cd H a n x) ((do let y ←Instr.loadAt t v;pure (Next.value y):Sem Next).run P w):=by
 obtain ⟨ha,hn⟩:=Fc ht;unfold cd;refine Cr hx ⟨_,rfl⟩ fun id g off lim p _ hp C5 hv=>?_;subst hv;refine ai.nd fun c hc=>?_;obtain ⟨cells,hD,h3,h4,rfl⟩:=nJ hc;have hr:=hD hR hp;obtain ⟨vs,W6,Q5,C3⟩:=mK hr off n (by omega);cases a with
 | true=>
  show ai P m β H w (.val (.agg _) H) _;refine ai.same hR (v:=.agg vs.toArray) ?_ ⟨vs,Q5,rfl⟩;have hl:=run_loadCells_list (P:=P) w ⟨p.b,p.o+off,none⟩ vs C3;rw[W6] at hl;simp[Instr.loadAt,Instr.sureAddr,loadVar,eZ ha,cL hn,hl]
 | false=>
  cases F4:(cells.drop off).take n with
  | nil=>exact trivial
  | cons y l=>
   rw[F4] at Q5;cases vs with
   | nil=>exact Q5.elim
   | cons u us=>
    show ai P m β H w (.val (.one y) H) _;refine ai.same hR (v:=u) ?_ Q5.1;have h0:=C3 0 u rfl;have:(⟨p.b,p.o+off,none⟩:Addr).add 0=⟨p.b,p.o+off,none⟩:=rfl;rw[this] at h0;simp[Instr.loadAt,Instr.sureAddr,loadVar,eZ ha,run_load,h0]
theorem gC {α:Type} (l:List α) (off:Nat) (c:List α) (k:Nat) (h:off+c.length≤l.length):
  (l.take off++(c++l.drop (off+c.length)))[k]?=if k<off then l[k]? else if k<off+c.length then c[k - off]? else l[k]?:=by
 have ht:(l.take off).length=off:=by simp;omega
 by_cases h1:k<off
 ·rw[zB0 h1,List.getElem?_append_left (by omega),List.getElem?_take,zB0 h1]
 rw[zB1 h1,List.getElem?_append_right (by omega),ht];by_cases h2:k<off+c.length
 ·rw[zB0 h2,List.getElem?_append_left (by omega)]
 rw[zB1 h2,List.getElem?_append_right (by omega),List.getElem?_drop];congr 1
 omega
theorem fC {α:Type} (l:List α) (off:Nat) (c:List α) (h:off+c.length≤l.length):(l.take off++(c++l.drop (off+c.length))).length=l.length:=by
 simp only[List.length_append,List.length_take,List.length_drop];omega
theorem uJ {β:Pl} {w:World} {cells:List AC} {e:TypeId} {p:Place} (h:gQ β w cells e p) (hp:p.hi=cells.length) {off:Nat} {c:List AC} {vs:List Value} (hc:CRs β c vs) (N_:off+c.length≤cells.length):
  ∃ cur:Array Value,w.heap[p.b]?=some (.cells cur e (0,0))∧p.o+off+0+vs.length≤cur.size ∧
   gQ β (w.setRow p.b (cur.toList.take (p.o+off+0)++vs++cur.toList.drop (p.o+off+0+vs.length)).toArray) (cells.take off++(c++cells.drop (off+c.length))) e p:=by
 obtain ⟨cur,h1,h2,h3,h4,h5⟩:=h;have hl:=hc.length;refine ⟨cur,h1,by omega,?_⟩;have W2:p.o+off+0+vs.length≤cur.toList.length:=by simp;omega
 refine ⟨_,setRow_heap w p.b cur _ e _ h1,?_,h3,by rw[fC _ _ _ N_];exact h4,?_⟩
 ·rw[List.append_assoc,List.size_toArray,fC _ _ _ W2];simpa using h2
 intro k x hk hx;rw[gC _ _ _ _ N_] at hx;rw[List.append_assoc,List.getElem?_toArray,gC _ _ _ _ W2];by_cases a1:k<off
 ·rw[zB0 a1] at hx;rw[zB0 (by omega)];simpa using h5 k x hk hx
 rw[zB1 a1] at hx;rw[zB1 (by omega)];by_cases a2:k<off+c.length
 ·rw[zB0 a2] at hx;rw[zB0 (by omega)];have D0:k - off<vs.length:=by omega
  refine ⟨vs[k - off],?_,hc.get (k - off) x _ hx (zB4 D0)⟩;rw[show p.o+k - (p.o+off+0)=k - off from by omega,zB4 D0]
 rw[zB1 a2] at hx;rw[zB1 (by omega)];simpa using h5 k x hk hx
theorem LV {β:Pl} {w w':World} {id:Nat} {cells cells':List AC} {e:TypeId} {lo gen:Nat} {p:Place} (h:gj β w id (.arr cells e lo gen)) (hp:β id gen=some p) (hr:gQ β w' cells' e p) (hl:p.hi=cells'.length):
  gj β w' id (.arr cells' e gen gen):=by
 refine ⟨zA1 _,?_,?_,h.2.2.2⟩
 ·intro g h1 h2;have:g=gen:=by omega
  subst this;exact ⟨p,hp,hr,fun _=>hl⟩
 intro g g' q q' h1 h2 h3 hq Z2;have e1:g=gen:=by omega
 have e2:g'=gen:=by omega
 subst e1;subst e2;rw[hq] at Z2;cases Z2;exact ⟨zA1 _,fun _=>rfl⟩
theorem Te {P:Program} {m:Nat} {β:Pl} {H:Hp} {w:World} (hR:Rel m β H w) (hm:m≤m) {t:TypeId} {n:Nat} (ht:aU P t=some n) {x y:AV} {v u:Value} (hx:AR β x v) (hy:AR β y u):
  ai P m β H w (fS H n x y) ((do Instr.storeAt t u v;pure Next.skip:Sem Next).run P w):=by
 unfold fS;refine Cr hy ⟨_,rfl⟩ fun id g off lim p _ hp C5 hu=>?_;subst hu;unfold lF;cases ho:H.get id with
 | none=>exact trivial
 | some o=>
  cases o with
  | oth x=>exact trivial
  | ro x=>exact trivial
  | arr cells e lo gen=>
   refine ai.guard fun hc=>?_;have B0:x.bD=true:=(ag (ag (ag (ag (ag hc).2).2).2).2).2;have r8:Nat.beq g gen=true:=(ag hc).1;have P7:Nat.beq (bh x.cells) n=true:=(ag (ag hc).2).1;have q9:Nat.ble n lim=true:=(ag (ag (ag hc).2).2).1;have hc4:Nat.ble (Nat.add off n) (bh cells)=true:=(ag (ag (ag (ag hc).2).2).2).1;have a_:Nat.ble lo gen=true:=(ag (ag (ag (ag (ag hc).2).2).2).2).1;have e1:g=gen:=zA3 r8;have e2:(bh x.cells)=n:=zA3 P7;have e4:off+n≤bh cells:=zA4 hc4;have e5:lo≤gen:=zA4 a_;rw[aX] at e2 e4;subst e1;intro L1;have F4:=hx.cells B0;have W6:v.cells.size=n:=by rw[←e2];simpa using F4.length
   obtain ⟨I1,hhi⟩:=oc hR ho e5 (zA1 _) hp;obtain ⟨cur,hg,W2,L3⟩:=uJ I1 (hhi rfl) F4 (by rw[e2];exact e4);have D3:=run_storeCells_at P p.b (p.o+off) e v.cells.toList 0 cur w hg W2 F4.kQ;have G2:=lB hR hm L1 ho (.arr (fi cells off x.cells) e g g) (β':=β) (w':=w.setRow p.b (cur.toList.take (p.o+off+0)++v.cells.toList++cur.toList.drop (p.o+off+0+v.cells.toList.length)).toArray)
    (fun _ _ _ h=>h) (fun _ _ _=>rfl) (by simp) (by simp) (by simp) (by simp)
    (fun b _ hb=>setRow_other w p.b b _ (fun hh=>hb g p ⟨e5,zA1 _⟩ hp hh.symm))
    (by rw[fF];exact LV (hR.obj id _ ho) hp L3 (by rw[fC _ _ _ (by rw[e2];exact e4)];exact hhi rfl))
    (fun g0 p0 j8 S6=>.inr ⟨g,p,⟨e5,zA1 _⟩,hp,by
     have:g0=g:=by have:=j8.1;have:=j8.2;omega
     subst this;rw[hp] at S6;cases S6;rfl⟩)
   refine ⟨undef,_,.inr ⟨?_,rfl⟩,_,List.mem_singleton.2 rfl,β,⟨[],trivial,rfl⟩,G2.1,G2.2⟩;simp[Instr.storeAt,Instr.sureAddr,storeVar,cL ht,W6,D3]
theorem Out.one {m:Nat} {β β':Pl} {H H':Hp} {w w':World} {av:AV} {v:Value} (ha:AR β' av v) (h:Rel m β' H' w'∧Ext β H w β' H' w'):Out m β H w [(av,H')] v w':=
 ⟨_,List.mem_singleton.2 rfl,β',ha,h.1,h.2⟩
theorem yH {P:Program} {m:Nat} {β:Pl} {H:Hp} {w:World} (hR:Rel m β H w) (hm:m≤m) {cells:List AC} {vs:Array Value} (e:TypeId) (hc:CRs β cells vs.toList) {r:Result Next}
  (hr:r=.ok (.value (.pointer (some ⟨w.heap.size,0,none⟩))) (w.alloc (.cells vs e))):ai P m β H w (im H cells e) r:=by
 intro L1;have V7:H.nx+1≤m:=L1;have h:=uo hR hm (by omega) cells vs e hc w rfl rfl rfl rfl #[];refine ⟨_,_,.inl hr,Out.one ?_ (by simpa using h)⟩;refine ⟨_,aR _ _ _ _,?_,rfl⟩;show 0+bh cells≤cells.length;rw[aX];omega
theorem Td {P:Program} {m:Nat} {β:Pl} {H:Hp} {w:World} (hR:Rel m β H w) (hm:m≤m) {e:TypeId} {z:Value} (hz:ax P e=some z):
  ai P m β H w (im H (ofValue z).cells e) ((do let y ←Instr.alloc e true (.tuple #[]);pure (Next.value y):Sem Next).run P w):=by
 obtain ⟨ho,hn,_⟩:=iS hz;refine yH hR hm e (vs:=z.cells) ((ed ho).cells (mA hn)) ?_;simp only[Instr.alloc,Sem.run_bind,eV hz,Result.andThen_ok];rfl
theorem XQ {P:Program} {m:Nat} {β:Pl} {H:Hp} {w:World} (hR:Rel m β H w) (hm:m≤m) (e:TypeId) {x:AV} {v:Value} (hx:AR β x v):
  ai P m β H w (aF x.bD "box - a tuple" (im H x.cells e)) ((do let y ←Instr.box e v;pure (Next.value y):Sem Next).run P w):=by
 refine ai.guard fun hn=>?_;refine yH hR hm e (vs:=v.cells) (hx.cells hn) ?_;rfl
theorem Oz (off:Nat):∀ (vs:List Value) (i:Nat) (cs:Array Value),off+i+vs.length≤cs.size →
  ((vs.zipIdx i).foldl (fun cs (x:Value×Nat)=>cs.setIfInBounds (off+x.2) x.1) cs).toList=cs.toList.take (off+i)++(vs++cs.toList.drop (off+i+vs.length)):=by
 intro vs;induction vs with
 | nil=>intro i cs _;simp
 | cons v vs ih=>
  intro i cs h;simp only[List.length_cons] at h;simp only[List.zipIdx_cons,List.foldl_cons];rw[ih (i+1) _ (by simp;omega)];rw[Array.toList_setIfInBounds];apply List.ext_getElem?
  intro k;have hlen:cs.toList.length=cs.size:=by simp
  have e1:=gC (cs.toList.set (off+i) v) (off+(i+1)) vs k (by simp;omega);have e2:=gC cs.toList (off+i) (v::vs) k (by simp;omega);rw[e1];rw[e2];simp only[List.length_cons];by_cases a1:k<off+i
  ·rw[zB0 (by omega),zB0 a1,List.getElem?_set_ne (by omega)]
  by_cases a2:k=off+i
  ·subst a2;rw[zB0 (by omega),zB1 (by omega),zB0 (by omega),List.getElem?_set_self (by omega)];simp
  rw[zB1 (by omega),zB1 a1];by_cases a3:k<off+(i+1)+vs.length
  ·rw[zB0 a3,zB0 (by omega)];rw[show k - (off+i)=(k - (off+(i+1)))+1 from by omega,List.getElem?_cons_succ]
  rw[zB1 a3,zB1 (by omega),List.getElem?_set_ne (by omega)]
theorem KA {β:Pl} {tm:PT AV} {a:Act} (T0:∀ t,AR β (az (tm.get t) aH fun v=>v) (a.tmps.getD t undef)) {place:Nat→Option (Nat×Nat)}:
  ∀ {l:List (Nat×Operand)} {r:List (Nat×Nat×OpF)} {z:List AC} {c:List AC} {vs:Array Value},cT place l=some r→fj tm r z=some c→CRs β z vs.toList →
   ∃ us:Array Value,Instr.fill place vs (l.map fun p=>(p.1,a.eval p.2))=some us∧CRs β c us.toList∧c.length=z.length:=by
 intro l;induction l with
 | nil=>
  intro r z c vs h hf hz;cases h
  have:z=c:=by injection hf
  subst this;exact ⟨vs,rfl,hz,rfl⟩
 | cons q l ih=>
  intro r z c vs h hf hz;obtain ⟨i,x⟩:=q;unfold cT at h;split at h
  ·rename_i p r' hp E3
   cases h
   have hx:=bN T0 x;have hf':ifE (both (Nat.beq (bh ((opF x).ev tm).cells) p.2) (both (Nat.ble (Nat.add p.1 p.2) (bh z)) ((opF x).ev tm).bD)) (fj tm r' (fi z p.1 ((opF x).ev tm).cells)) none=some c:=hf;rw[bT] at hf';split at hf'
   ·rename_i hc
    have h1:bh ((opF x).ev tm).cells=p.2:=zA3 (ag hc).1;have h2:p.1+p.2≤bh z:=zA4 (ag (ag hc).2).1;have h3:((opF x).ev tm).bD=true:=(ag (ag hc).2).2;rw[aX] at h1 h2;have F4:CRs β ((opF x).ev tm).cells (a.eval x).cells.toList:=AR.cells hx h3;have hl:=F4.length;have X0:=hz.length;simp only[Array.length_toList] at hl X0;have J1:¬((a.eval x).cells.size≠p.2∨p.1+(a.eval x).cells.size>vs.size):=by omega
    have hfs:=Oz p.1 (a.eval x).cells.toList 0 vs (by simp;omega);have hrel:CRs β (fi z p.1 ((opF x).ev tm).cells) (((a.eval x).cells.zipIdx.foldl (fun cs (x:Value×Nat)=>cs.setIfInBounds (p.1+x.2) x.1) vs)).toList:=by
     rw[←Array.foldl_toList,Array.toList_zipIdx,hfs,fF];refine CRs.append (by simpa using hz.take p.1) (CRs.append F4 ?_);have:=hz.drop (p.1+((opF x).ev tm).cells.length);simpa [hl] using this
    obtain ⟨us,Q1,Y2,m6⟩:=ih E3 hf' hrel;refine ⟨us,?_,Y2,by rw[m6,fF,fC _ _ _ (by omega)]⟩;simp only[List.map_cons,Instr.fill,hp];rw[zB1 (by simpa using J1)];exact Q1
   cases hf'
  cases h
theorem Rj {P:Program} {m:Nat} {β:Pl} {H:Hp} {w:World} (hR:Rel m β H w) {tm:PT AV} {a:Act} (T0:∀ t,AR β (az (tm.get t) aH fun v=>v) (a.tmps.getD t undef))
  {t:TypeId} {z:Value} {pl:Nat→Option (Nat×Nat)} {parts:Array (Nat×Operand)} {ps:List (Nat×Nat×OpF)} (hz:ax P t=some z) (B7:cH P t=some pl) (Z8:cT pl parts.toList=some ps):
  ai P m β H w (nw H (ofValue z).cells tm ps) ((do let y ←Instr.build t (parts.map fun (i,x)=>(i,a.eval x));pure (Next.value y):Sem Next).run P w):=by
 refine ai.nd fun c hc=>?_;obtain ⟨ho,hn,it,S3,hiz⟩:=iS hz;obtain ⟨us,hu,F4,_⟩:=KA T0 Z8 hc (vs:=z.cells) ((ed ho).cells (mA hn));have hb:P.built t (parts.map fun (i,x)=>(i,a.eval x)).toList=some us:=by
  unfold cH at B7;unfold Program.built;rw[S3];split at B7
  ·rename_i fs y_
   split at B7
   ·rename_i places hp
    cases B7
    simp only[y_,hiz,hp];rw[←hu];simp
   cases B7
  ·rename_i n el y_
   split at B7
   ·rename_i ie C2
    cases B7
    simp only[y_,hiz,C2];rw[←hu];simp
   cases B7
  cases B7
 refine ai.same hR (v:=.agg us) ?_ ⟨us.toList,F4,by simp⟩;simp only[Sem.run_bind,run_build w t _ us hb,Result.andThen_ok];rfl
theorem Rs (z:List AC):∀ (n k:Nat),(kh z n)[k]?=if k<n*z.length then z[k % z.length]? else none:=by
 intro n;induction n with
 | zero=>intro k;show ([]:List AC)[k]?=_;simp
 | succ n ih=>
  intro k;show (lV z (kh z n))[k]?=_;rw[ga];have e:(n+1)*z.length=n*z.length+z.length:=by rw[Nat.add_mul];simp
  by_cases h:k<z.length
  ·rw[List.getElem?_append_left h,zB0 (by omega),Nat.mod_eq_of_lt h]
  rw[List.getElem?_append_right (by omega),ih];by_cases h2:k<(n+1)*z.length
  ·rw[zB0 h2,zB0 (by omega)];congr 1
   exact (Nat.mod_eq_sub_mod (by omega)).symm
  rw[zB1 h2,zB1 (by omega)]
theorem uG (z:List AC) (n:Nat):(kh z n).length=n*z.length:=by
 induction n with
 | zero=>show ([]:List AC).length=_;simp
 | succ n ih=>
  show (lV z (kh z n)).length=_;rw[ga,List.length_append,ih,Nat.add_mul];omega
theorem MF {β:Pl} {z:List AC} {vs:Array Value} (h:CRs β z vs.toList) (n:Nat):CRs β (kh z n) ((Array.range (n*vs.size)).map (vs[· % vs.size]!)).toList:=by
 have hl:vs.size=z.length:=by simpa using h.length
 refine CRs.dY (by simp[uG,hl]) fun k c v hc hv=>?_;rw[Rs] at hc;split at hc
 ·rename_i hk
  have M3:k<n*vs.size:=by rw[hl];exact hk
  have Z5:0<vs.size:=by
   rcases Nat.eq_zero_or_pos vs.size with h0|h0
   ·rw[h0] at M3;omega
   exact h0
  have hm:k % vs.size<vs.size:=Nat.mod_lt _ Z5;have X3:v=vs[k % vs.size]:=by
   simp[M3] at hv;rw[←hv,getElem!_pos vs _ hm]
  rw[X3];refine h.get (k % vs.size) c _ ?_ ?_
  ·rw[hl];exact hc
  simp[hm]
 cases hc
theorem xG {P:Program} {m:Nat} {β:Pl} {H:Hp} {w:World} (hR:Rel m β H w) (hm:m≤m) {tm:PT AV} {a:Act} (T0:∀ t,AR β (az (tm.get t) aH fun v=>v) (a.tmps.getD t undef))
  {t e:TypeId} {sz len:Nat} {z:Value} {parts:Array (Nat×Operand)} {ps:List (Nat×Nat×OpF)} (he:ba P t=some (e,sz)) (hz:ax P e=some z) (h24:len*sz≤16777216) (X0:(ofValue z).cells.length=sz)
  (Z8:cT (fun i=>some (i*sz,sz)) parts.toList=some ps):
  ai P m β H w (iK H (kh (ofValue z).cells len) tm e sz len ps) ((do let y ←Instr.buildSlice t len (parts.map fun (i,x)=>(i,a.eval x));pure (Next.value y):Sem Next).run P w):=by
 refine ai.nd fun c hc=>?_;intro L1;have V7:H.nx+1≤m:=L1;obtain ⟨hu,hs⟩:=ke he;obtain ⟨ho,hn,it,S3,hiz⟩:=iS hz;have x_:CRs β (ofValue z).cells z.cells.toList:=(ed ho).cells (mA hn);have hzs:z.cells.size=sz:=by rw[←X0];simpa using x_.length
 have hrep:=MF x_ len;rw[hzs] at hrep;obtain ⟨us,O',F4,hclen⟩:=KA T0 Z8 hc hrep;have hlen:c.length=len*sz:=by rw[hclen,uG,X0]
 have h:=uo hR hm (by omega) c us e F4 w rfl rfl rfl rfl #[];have y8:Instr.fill (fun i=>some (i*sz,sz)) ((Array.range (len*sz)).map (z.cells[· % sz]!)) (parts.map fun (i,x)=>(i,a.eval x)).toList=some us:=by rw[←O'];simp
 have Z1:(Instr.buildSlice t len (parts.map fun (i,x)=>(i,a.eval x))).run P w=.ok (.slice (some ⟨w.heap.size,0,none⟩) len len) (w.alloc (.cells us e)):=by
  have h24':¬(len*sz>2 ^ 24):=by omega
  by_cases h0:len*sz=0
  ·rw[h0] at y8;simp only[Instr.buildSlice,Sem.run_bind,run_underlying hu,Result.andThen_ok,cL hs,h0];rw[zB1 (by omega)];simp only[if_true,Sem.run_bind,Sem.run_pure,Result.andThen_ok];have hr:∀ f:Nat→Value,(Array.range 0).map f=#[]:=fun f=>by apply Array.ext';simp
   simp only[hr] at y8 ⊢;rw[y8];rfl
  simp only[Instr.buildSlice,Sem.run_bind,run_underlying hu,Result.andThen_ok,cL hs,zB1 h24',zB1 h0,eV hz,Sem.run_pure];rw[hzs,y8];rfl
 refine ⟨_,_,.inl (by simp only[Sem.run_bind,Z1,Result.andThen_ok];rfl),Out.one ?_ (by simpa using h)⟩;refine ⟨_,len,_,aR _ _ _ _,?_,zA1 _,rfl,.inr ⟨rfl,?_⟩⟩
 ·show 0+len*sz≤c.length;omega
 have:=F4.length;simp at this
 show 0+0+len*sz≤us.size+(#[]:Array Value).size;simp
 omega
section
variable {P:Program} {m:Nat} {β:Pl} {H:Hp} {w:World}
theorem qo (b o n:Nat):(⟨b,o,none⟩:Addr).add n=⟨b,o+n,none⟩:=by unfold Addr.add;split <;> simp_all
theorem BX (hR:Rel m β H w) {s:TypeId} {f fo:Nat} {ft:TypeId} {n:Nat} (ht:aJ P s f=some (fo,ft,n)) {x:AV} {v:Value} (hx:AR β x v):
  ai P m β H w (dU H fo n x) ((do let y ←Instr.fieldAt s v f;pure (Next.value y):Sem Next).run P w):=by
 obtain ⟨fs,fd,hu,hf,rfl,rfl,hn⟩:=Ak ht;unfold dU;refine Cr hx ⟨_,rfl⟩ fun id g off lim p _ hp C5 hv=>?_;subst hv;refine ai.guard fun hc=>?_;have h1:1≤n:=zA4 (ag hc).1;have h2:fd.offset+n≤lim:=zA4 (ag hc).2;refine ai.same hR (v:=.pointer (some ⟨p.b,p.o+off+fd.offset,none⟩)) ?_ ⟨p,hp,?_,?_⟩
 ·have V':¬n=0:=by omega
  simp[Instr.fieldAt,run_underlying hu,hf,Instr.sureAddr,fieldPlace,cL hn,V',qo]
 ·show Nat.add off fd.offset+Nat.sub lim fd.offset≤p.hi;have e1:Nat.add off fd.offset=off+fd.offset:=rfl;have e2:Nat.sub lim fd.offset=lim - fd.offset:=rfl;omega
 show _=Value.pointer (some ⟨p.b,p.o+(off+fd.offset),none⟩);rw[Nat.add_assoc]
theorem nk {n:Int} {k:Nat} (h:vo n=some k):n=(k:Int):=by
 cases n with
 | ofNat j=>cases h;rfl
 | negSucc j=>cases h
theorem BR (hR:Rel m β H w) {t e:TypeId} {sz':Nat} (ht:ba P t=some (e,sz')) {x i:AV} {v u:Value} (hx:AR β x v) (hi:AR β i u):
  ai P m β H w (cO H sz' x i) ((do let y ←Instr.indexAt t v u;pure (Next.value y):Sem Next).run P w):=by
 obtain ⟨hu,hs⟩:=ke ht;unfold cO;refine IU hx trivial fun id g off len sz p cap o' _ hp hlen M9 hv hex=>?_;subst hv;refine pH hi trivial fun k n hn=>?_;subst hn;refine ai.nd fun n' hn'=>?_;rw[nk hn'];refine ai.guard fun hc=>?_;have h1:sz=sz':=zA3 (ag hc).1;have h2:n'<len:=zA4 (ag hc).2;subst h1;have hex':o'=⟨p.b,p.o+off,none⟩:=by
  rcases hex with h|h
  ·omega
  exact h.1
 subst hex';have hmul:(n'+1)*sz≤len*sz:=Nat.mul_le_mul_right _ h2;rw[Nat.add_mul] at hmul;refine ai.same hR (v:=.pointer (some ⟨p.b,p.o+off+n'*sz,none⟩)) ?_ ⟨p,hp,?_,?_⟩
 ·simp[Instr.indexAt,asIntOf,run_underlying hu,cL hs,qo];intro U6;omega
 ·show Nat.add off (Nat.mul n' sz)+sz≤p.hi;have e1:Nat.add off (Nat.mul n' sz)=off+n'*sz:=rfl;omega
 show _=Value.pointer (some ⟨p.b,p.o+(off+n'*sz),none⟩);rw[Nat.add_assoc]
theorem vI {lo:Option Operand} {tm:PT AV} {a:Act} (T0:∀ t,AR β (az (tm.get t) aH fun v=>v) (a.tmps.getD t undef)) {d k:Nat} (h:CC (lo.map (ev tm)) d=some k):
  match lo.map a.eval with
  | none=>k=d
  | some v=>∃ kd,v=.int kd k:=by
 cases lo with
 | none=>exact (Option.some.inj h).symm
 | some x=>
  have hx:=bN T0 x;show ∃ kd,a.eval x=.int kd k;have h':eX (ev tm x) none (fun _ n=>vo n)=some k:=h;revert hx h'
  cases ev tm x with
  | one c=>
   cases c with
   | i kd n=>intro hx h';rw[nk h'] at hx;exact ⟨kd,hx⟩
   | b _=>intro _ h';cases h'
   | o _=>intro _ h';cases h'
  | agg _=>intro _ h';cases h'
  | tup _=>intro _ h';cases h'
  | any=>intro _ h';cases h'
theorem run_sliceBound (kd:IntKind) (k y:Nat) (code:BoundsCode) (h:k≤y):(Instr.sliceBound (.int kd k) y code).run P w=.ok k w:=by
 have h':(k:Int)≤(y:Int):=by omega
 simp[Instr.sliceBound,asIntOf,h']
theorem Sz (hR:Rel m β H w) {tm:PT AV} {a:Act} (T0:∀ t,AR β (az (tm.get t) aH fun v=>v) (a.tmps.getD t undef)) {t e:TypeId} {sz':Nat} (ht:ba P t=some (e,sz')) {x:Operand} {lo hi:Option Operand}
  {alt:ae} (halt:ai P m β H w alt ((do let y ←Instr.sliceAt t (a.eval x) (lo.map a.eval) (hi.map a.eval) none;pure (Next.value y):Sem Next).run P w)):
  ai P m β H w (dk H sz' (ev tm x) (lo.map (ev tm)) (hi.map (ev tm)) alt) ((do let y ←Instr.sliceAt t (a.eval x) (lo.map a.eval) (hi.map a.eval) none;pure (Next.value y):Sem Next).run P w):=by
 obtain ⟨hu,hs⟩:=ke ht;unfold dk;refine IU (bN T0 x) halt fun id g off len sz p cap o' _ hp hlen M9 hv hex=>?_;rw[hv];refine ai.nd fun l hl=>ai.nd fun r hr=>ai.guard fun hc=>?_;have h1:sz=sz':=zA3 (ag hc).1;have h2:l≤r:=zA4 (ag (ag hc).2).1;have h3:r≤len:=zA4 (ag (ag hc).2).2;subst h1;have bl:=vI T0 hl;have br:=vI T0 hr;have hb:(Instr.sliceBounds true len cap (lo.map a.eval) (hi.map a.eval) none).run P w=.ok (l,r,cap) w:=by
  cases hi with
  | none=>
   have E3:r=len:=br;cases lo with
   | none=>
    have a8:l=0:=bl;rw[E3,a8];rfl
   | some y=>
    obtain ⟨kd,hk⟩:=(bl:∃ kd,a.eval y=.int kd l);rw[E3];simp only[Instr.sliceBounds,Option.map_some,Option.map_none,hk,Sem.run_bind,Sem.run_pure,Result.andThen_ok,run_sliceBound kd l len _ (by omega)]
  | some z=>
   obtain ⟨kd2,U4⟩:=(br:∃ kd,a.eval z=.int kd r);cases lo with
   | none=>
    have a8:l=0:=bl;rw[a8];simp only[Instr.sliceBounds,Option.map_some,Option.map_none,U4,Sem.run_bind,Sem.run_pure,Result.andThen_ok,run_sliceBound kd2 r cap _ (by omega)]
   | some y=>
    obtain ⟨kd,hk⟩:=(bl:∃ kd,a.eval y=.int kd l);simp only[Instr.sliceBounds,Option.map_some,hk,U4,Sem.run_bind,Sem.run_pure,Result.andThen_ok,run_sliceBound kd2 r cap _ (by omega),run_sliceBound kd l r _ h2]
 have hmul:r*sz≤len*sz:=Nat.mul_le_mul_right _ h3;have G1:(r - l)*sz=r*sz - l*sz:=Nat.sub_mul _ _ _;have hmul2:l*sz≤r*sz:=Nat.mul_le_mul_right _ h2;refine ai.same hR (v:=.slice (some (if cap=l then o' else o'.add (l*sz))) (r - l) (cap - l)) ?_ ⟨p,cap - l,_,hp,?_,?_,rfl,?_⟩
 ·simp only[Instr.sliceAt,Instr.slice,Sem.run_bind,run_underlying hu,Result.andThen_ok,hb,cL hs];by_cases W0:cap=l
  ·simp[W0]
  simp[W0]
 ·show Nat.add off (Nat.mul l sz)+Nat.sub r l*sz≤p.hi;have e1:Nat.add off (Nat.mul l sz)=off+l*sz:=rfl;have e2:Nat.sub r l=r - l:=rfl;rw[e1,e2,G1];omega
 ·show Nat.sub r l≤cap - l;have e2:Nat.sub r l=r - l:=rfl;omega
 by_cases W0:cap=l
 ·exact .inl (by omega)
 rw[zB1 W0];have F4:(cap - l)*sz=cap*sz - l*sz:=Nat.sub_mul _ _ _;have hcm:l*sz≤cap*sz:=Nat.mul_le_mul_right _ (by omega);rcases hex with h|⟨h,h'⟩
 ·omega
 refine .inr ⟨?_,?_⟩
 ·show o'.add (l*sz)=⟨p.b,p.o+(off+l*sz),none⟩;rw[h,qo,Nat.add_assoc]
 show p.o+(off+l*sz)+(cap - l)*sz≤p.n;omega
theorem JP (hR:Rel m β H w) {x:AV} {v:Value} (hx:AR β x v) (i:Nat):ai P m β H w (cG H x i) ((do let y ←Instr.extract v i;pure (Next.value y):Sem Next).run P w):=by
 cases x with
 | one c=>exact trivial
 | agg l=>exact trivial
 | any => 
  show ai P m β H w (Nat.rec (motive:=fun _=>List (Bool×List AC)→ae) _ _ i []) _;cases i <;> exact trivial
 | tup l=>
  obtain ⟨vs,Q5,rfl⟩:=hx;have key:∀ (l:List (Bool×List AC)) (vs:List Value) (i:Nat),TRs β l vs→∀ r:Result Next,(∀ u,vs[i]?=some u→r=.ok (.value u) w) →
    ai P m β H w (cG H (.tup l) i) r:=by
   intro l vs i;induction i generalizing l vs with
   | zero=>
    intro h r hr;cases l with
    | nil=>exact trivial
    | cons c l=>
     cases vs with
     | nil=>exact h.elim
     | cons u us=>
      obtain ⟨b,cs⟩:=c;have h0:=hr u rfl;cases b with
      | true=>exact ai.same hR h0 h.1
      | false=>
       match cs,h.1 with
       | [c],hc=>exact ai.same hR h0 hc
   | succ i ih=>
    intro h r hr;cases l with
    | nil=>exact trivial
    | cons c l=>
     cases vs with
     | nil=>exact h.elim
     | cons u us=>exact ih l us h.2 r (fun y hy=>hr y (by simpa using hy))
  refine key l vs i Q5 _ fun u hu=>?_;simp[Instr.extract,hu]
theorem QD (hR:Rel m β H w) {t:TypeId} {f fo:Nat} {ft:TypeId} {n:Nat} {a:Bool} (ht:aJ P t f=some (fo,ft,n)) (ha:ns P ft=some a) {x:AV} {v:Value} (hx:AR β x v):
  ai P m β H w (pE H fo n a x) ((do let y ←Instr.field t v f;pure (Next.value y):Sem Next).run P w):=by
 obtain ⟨fs,fd,hu,hf,rfl,rfl,hn⟩:=Ak ht;cases x with
 | one c=>exact trivial
 | tup l=>exact trivial
 | any=>exact trivial
 | agg l=>
  obtain ⟨vs,Q5,rfl⟩:=hx;cases a with
  | true=>
   show ai P m β H w (aF (Nat.ble (Nat.add fd.offset n) (bh l)) "field - part" (.val (.agg (cut l fd.offset n)) H)) _
   refine ai.guard fun hc=>?_;have h1:fd.offset+n≤bh l:=zA4 hc;rw[aX] at h1;refine ai.same hR (v:=.agg ((vs.drop fd.offset).take n).toArray) ?_ ⟨_,?_,rfl⟩
   ·simp[Instr.field,run_underlying hu,hf,asAgg,part,eZ ha,cL hn]
   rw[jT];exact (Q5.drop _).take _
  | false=>
   show ai P m β H w (nd (UD fd.offset l) "field - part" fun c=>.val (.one c) H) _
   refine ai.nd fun c hc=>?_;rw[Vm] at hc;have D0:fd.offset<vs.length:=by rw[Q5.length];exact (List.getElem?_eq_some_iff.1 hc).1
   have hv:vs[fd.offset]?=some vs[fd.offset]:=zB4 D0;refine ai.same hR (v:=vs[fd.offset]) ?_ (Q5.get _ c _ hc hv);simp[Instr.field,run_underlying hu,hf,asAgg,part,eZ ha,D0]
end
section
variable {P:Program} {m:Nat} {β:Pl} {H:Hp} {w:World}
theorem XT (hR:Rel m β H w) {sz:Nat} {x:AV} {v:Value} (hx:AR β x v) {n:Nat} {c:List AC} (h:ff H sz x=some (n,c)):
  (n=0∧c=[]∧v=.slice none 0 0)∨∃ (o':Addr) (cap:Nat) (vs:List Value),v=.slice (some o') n cap∧vs.length=n*sz∧CRs β c vs ∧
   ∀ w':World,(∀ b,b<w.heap.size→w'.heap[b]?=w.heap[b]?)→∀ j u,vs[j]?=some u→w'.cell? (o'.add j)=some u:=by
 unfold ff at h;split at h
 ·rename_i id g off len sz'
  split at h
  ·rename_i c' J1 hc'
   cases h
   have hs:sz'=sz:=zA3 J1;subst hs;obtain ⟨p,cap,o',hp,hlen,M9,rfl,hex⟩:=hx;obtain ⟨cells,hD,h3,h4,rfl⟩:=nJ hc';have hr:=hD hR hp;obtain ⟨vs,W6,Q5,C3⟩:=mK hr off (Nat.mul n sz') hlen;refine .inr ⟨o',cap,vs,rfl,W6,Q5,fun w' S1 j u hu=>?_⟩;have hb:p.b<w.heap.size:=by obtain ⟨cc,_,_,o6,_⟩:=hr;exact dw o6
   have D0:=(List.getElem?_eq_some_iff.1 hu).1;have hj:j<n*sz':=by rw[W6] at D0;exact D0
   have Z5:0<n:=by
    rcases Nat.eq_zero_or_pos n with h0|h0
    ·rw[h0] at hj;omega
    exact h0
   have U2:o'=⟨p.b,p.o+off,none⟩:=by
    rcases hex with h|h
    ·omega
    exact h.1
   subst U2;have:=C3 j u hu;rw[←this];have e:((⟨p.b,p.o+off,none⟩:Addr).add j).block=p.b:=by unfold Addr.add;split <;> rfl
   exact World.cell?_of_block (by rw[e];exact S1 p.b hb)
  cases h
 ·cases h
  exact .inl ⟨rfl,rfl,hx⟩
 cases h
theorem fX {sz n:Nat} {o':Addr} {cap:Nat} {vs:List Value} {w':World} (hl:vs.length=n*sz) (h:∀ j u,vs[j]?=some u→w'.cell? (o'.add j)=some u) (len:Nat):
  (Builtin.firstCells sz n (.slice (some o') len cap)).run P w'=.ok vs.toArray w':=run_firstCells_some (P:=P) w' sz n o' len cap vs hl h
theorem uY {cells:List AC} {e:TypeId} {p:Place} (h:gQ β w cells e p) {c:List AC} {vs:List Value} (hc:CRs β c vs) {pre:List AC} (k0:Nat) (hk0:k0+pre.length≤p.hi) (Y1:pre=(cells.drop k0).take pre.length)
  (W2:p.o+k0+pre.length+c.length≤p.n):
  ∃ cur:Array Value,w.heap[p.b]?=some (.cells cur e (0,0))∧p.o+k0+pre.length+vs.length≤cur.size ∧
   gQ β (w.setRow p.b (cur.toList.take (p.o+k0+pre.length)++vs++cur.toList.drop (p.o+k0+pre.length+vs.length)).toArray) (pre++c) e ⟨p.b,p.o+k0,p.n,pre.length+c.length⟩:=by
 obtain ⟨cur,h1,h2,h3,h4,h5⟩:=h;have hl:=hc.length;refine ⟨cur,h1,by omega,?_⟩;have hfit':p.o+k0+pre.length+vs.length≤cur.toList.length:=by simp;omega
 refine ⟨_,setRow_heap w p.b cur _ e _ h1,?_,?_,?_,?_⟩
 ·rw[List.append_assoc,List.size_toArray,fC _ _ _ hfit'];simpa using h2
 ·show p.o+k0+(pre.length+c.length)≤p.n;omega
 ·show pre.length+c.length≤(pre++c).length;simp
 intro k x hk hx;have M3:k<pre.length+c.length:=hk;show ∃ v,(List.toArray (cur.toList.take (p.o+k0+pre.length)++vs++cur.toList.drop (p.o+k0+pre.length+vs.length)))[p.o+k0+k]?=some v∧CR β x v;rw[List.append_assoc,List.getElem?_toArray,gC _ _ _ _ hfit'];by_cases a1:k<pre.length
 ·rw[List.getElem?_append_left a1] at hx;rw[zB0 (by omega)];have G4:cells[k0+k]?=some x:=by
   have e1:((cells.drop k0).take pre.length)[k]?=some x:=by rw[←Y1];exact hx
   rw[List.getElem?_take,zB0 a1,List.getElem?_drop] at e1;exact e1
  obtain ⟨v,hv,hr⟩:=h5 (k0+k) x (by omega) G4;exact ⟨v,by rw[Array.getElem?_toList,Nat.add_assoc];exact hv,hr⟩
 rw[List.getElem?_append_right (by omega)] at hx;rw[zB1 (by omega),zB0 (by omega)];have D0:k - pre.length<vs.length:=by omega
 refine ⟨vs[k - pre.length],?_,hc.get _ x _ hx (zB4 D0)⟩;rw[show p.o+k0+k - (p.o+k0+pre.length)=k - pre.length from by omega,zB4 D0]
theorem An {pre c:List AC} {us vs:List Value} (hp:CRs β pre us) (hc:CRs β c vs) (e:TypeId) (tail:Array Value) (w0:World) (hw:w0.heap=w.heap):
  gQ β { w0 with heap:=w0.heap.push (.cells (us.toArray++vs.toArray++tail) e) } (pre++c) e ⟨w.heap.size,0,us.length+vs.length+tail.size,pre.length+c.length⟩:=by
 have h1:=hp.length;have h2:=hc.length;refine ⟨us.toArray++vs.toArray++tail,?_,by simp,?_,?_,?_⟩
 ·show (w0.heap.push _)[w.heap.size]?=_;rw[←hw,Array.getElem?_push_size]
 ·show 0+(pre.length+c.length)≤us.length+vs.length+tail.size;omega
 ·show pre.length+c.length≤(pre++c).length;simp
 intro k x hk hx;have M3:k<pre.length+c.length:=hk;have o6:=(hp.append hc);have D0:k<(us++vs).length:=by simp;omega
 refine ⟨(us++vs)[k],?_,o6.get k x _ hx (zB4 D0)⟩;show (us.toArray++vs.toArray++tail)[0+k]?=_;rw[Nat.zero_add,Array.getElem?_append_left (by simp;simp at D0;omega)];rw[←Array.getElem?_toList,Array.toList_append,zB4]
theorem xB (t ty e:TypeId) (i:TypeInfo) (ht:P.underlying t=some (.slice e)) (hi:P.info? e=some i)
  (g o sLen sCap:Nat) (cur:Array Value) (hg:w.heap[g]?=some (.cells cur e (0,0)))
  (v:Value) (m:Nat) (news:List Value) (hv:(Builtin.lenOf v).run P w=.ok m w) (hn:(Builtin.firstCells i.size m v).run P w=.ok news.toArray w) (h1:∀ u∈news,u.oneCell'=true)
  (F8:sLen+m≤sCap) (W2:o+sLen*i.size+news.length≤cur.size):
  (Builtin.append_ #[t,t] ty #[.slice (some ⟨g,o,none⟩) sLen sCap,v]).run P w =
   .ok (.slice (some ⟨g,o,none⟩) (sLen+m) sCap) (w.setRow g (cur.toList.take (o+sLen*i.size)++news++cur.toList.drop (o+sLen*i.size+news.length)).toArray):=by
 have D3:=run_storeCells_at P g (o+sLen*i.size) e news 0 cur w hg (by simpa using W2) h1;simp only[Nat.add_zero] at D3;simp[Builtin.append_,run_underlying ht,sizeOf,typeInfo,hi,hv,F8,hn,qo,D3]
theorem mW (t ty e:TypeId) (i:TypeInfo) (z:Value) (ht:P.underlying t=some (.slice e)) (hi:P.info? e=some i) (hz:i.zero=some z)
  (s:Option Addr) (sLen sCap:Nat) (olds:List Value) (ho:(Builtin.firstCells i.size sLen (.slice s sLen sCap)).run P w.drew=.ok olds.toArray w.drew)
  (v:Value) (m:Nat) (news:List Value) (hv:(Builtin.lenOf v).run P w=.ok m w) (hn:(Builtin.firstCells i.size m v).run P w.drew=.ok news.toArray w.drew)
  (hg:sCap<sLen+m) (hb:(sLen+m)*i.bytes≤140737488355328) (h63:sLen+m≤140737488355328):
  (Builtin.append_ #[t,t] ty #[.slice s sLen sCap,v]).run P w =
   .ok (.slice (some ⟨w.heap.size,0,none⟩) (sLen+m) (grownCap w (sLen+m) sCap e))
    (w.drew.alloc (.cells (olds.toArray++news.toArray++Builtin.zeroCells z.cells (grownCap w (sLen+m) sCap e - (sLen+m))) e)):=by
 have hn':¬(sLen+m≤sCap):=by omega
 have h63':¬(9223372036854775807<((sLen:Int)+(m:Int))):=by omega
 have h48':¬(281474976710656<Builtin.nextslicecap (sLen+m) sCap*i.bytes):=by have:=growslice_fits hg hb;omega
 simp[Builtin.append_,run_underlying ht,sizeOf,typeInfo,zeroValue,hi,hz,hv,hn',h63',h48',Question.forced,hn,ho,Go.newRow,grownCap];congr 2
 apply Array.ext'
 simp[List.append_assoc]
theorem SC {cells:List AC} {e:TypeId} {p:Place} (h:gQ β w cells e p) (c:List AC):gQ β w (cells++c) e p:=by
 obtain ⟨cc,r1,r2,r3,r4,r5⟩:=h;refine ⟨cc,r1,r2,r3,by rw[List.length_append];omega,fun j y hj hy=>?_⟩;rw[List.getElem?_append_left (by omega)] at hy;exact r5 j y hj hy
theorem NR {cells:List AC} {e:TypeId} {p q:Place} (h:gQ β w cells e q) {cur:Array Value} (hcur:w.heap[p.b]?=some (.cells cur e (0,0))) (vs:List Value) (k:Nat) (hk:k+vs.length≤cur.size)
  (hq:q.b=p.b→q.o+q.hi≤k):gQ β (w.setRow p.b (cur.toList.take k++vs++cur.toList.drop (k+vs.length)).toArray) cells e q:=by
 obtain ⟨cc,r1,r2,r3,r4,r5⟩:=h;by_cases hb:q.b=p.b
 ·rw[hb,hcur] at r1;cases r1;have W2:k+vs.length≤cur.toList.length:=by simpa using hk
  have Z2:=hq hb;refine ⟨_,by rw[hb];exact setRow_heap w p.b cur _ e _ hcur,?_,r3,r4,fun j y hj hy=>?_⟩
  ·rw[List.append_assoc,List.size_toArray,fC _ _ _ W2];simpa using r2
  obtain ⟨v',X3,E3⟩:=r5 j y hj hy;refine ⟨v',?_,E3⟩;rw[List.append_assoc,List.getElem?_toArray,gC _ _ _ _ W2,zB0 (by omega),Array.getElem?_toList];exact X3
 exact ⟨cc,by rw[setRow_other _ _ _ _ hb];exact r1,r2,r3,r4,r5⟩
theorem ET {w':World} {id:Nat} {cells c:List AC} {e:TypeId} {lo gen:Nat} (h:gj β w id (.arr cells e lo gen)) {q:Place} (hr:gQ β w' (cells++c) e q) (hq:q.hi=(cells++c).length)
  (hold:∀ k p,lo≤k→k≤gen→β id k=some p→gQ β w' cells e p∧(p.b=q.b→p.o=q.o)):gj (plus β id (gen+1) q) w' id (.arr (cells++c) e lo (gen+1)):=by
 obtain ⟨h1,h2,h3,h4⟩:=h;have hs:Sub β (plus β id (gen+1) q):=jg (h4 _ (by omega));refine ⟨by omega,?_,?_,?_⟩
 ·intro k Q3 U4;by_cases hk:k=gen+1
  ·subst hk;exact ⟨_,aR _ _ _ _,gQ.mono hs hr rfl,fun _=>hq⟩
  obtain ⟨p,hp,_,_⟩:=h2 k Q3 (by omega);exact ⟨p,hs _ _ _ hp,gQ.mono hs (SC (hold k p Q3 (by omega) hp).1 c) rfl,fun h=>absurd h hk⟩
 ·intro k k' p p' Q3 U4 B_ hp D2;by_cases M3:k'=gen+1
  ·subst M3;rw[aR] at D2;cases D2;by_cases hk:k=gen+1
   ·subst hk;rw[aR] at hp;cases hp;exact ⟨zA1 _,fun _=>rfl⟩
   rw[bP _ _ _ _ (by omega)] at hp;obtain ⟨r,F0⟩:=(hold k p Q3 (by omega) hp);obtain ⟨cc,_,_,_,r4,_⟩:=r;exact ⟨by rw[hq,List.length_append];omega,F0⟩
  rw[bP _ _ _ _ (by omega)] at hp D2;exact h3 k k' p p' Q3 U4 (by omega) hp D2
 intro k hk;rw[bP _ _ _ _ (by omega)];exact h4 k (by omega)
theorem Ax {w':World} {id:Nat} {cells cells':List AC} {e:TypeId} {lo gen:Nat} (h:gj β w id (.arr cells e lo gen)) {q:Place} (hr:gQ β w' cells' e q) (hq:q.hi=cells'.length):
  gj (plus β id (gen+1) q) w' id (.arr cells' e (gen+1) (gen+1)):=by
 obtain ⟨h1,h2,h3,h4⟩:=h;have hs:Sub β (plus β id (gen+1) q):=jg (h4 _ (by omega));refine ⟨by omega,?_,?_,?_⟩
 ·intro k Q3 U4;have hk:k=gen+1:=by omega
  subst hk;exact ⟨_,aR _ _ _ _,gQ.mono hs hr rfl,fun _=>hq⟩
 ·intro k k' p p' Q3 U4 B_ hp D2;have hk:k=gen+1:=by omega
  have M3:k'=gen+1:=by omega
  subst hk;subst M3;rw[hp] at D2;cases D2;exact ⟨zA1 _,fun _=>rfl⟩
 intro k hk;rw[bP _ _ _ _ (by omega)];exact h4 k (by omega)
theorem vP (z:Value) (n:Nat):(Builtin.zeroCells z.cells n).size=n*z.cells.size:=by simp[Builtin.zeroCells]
theorem OD (hR:Rel m β H w) (hm:m≤m) {t:TypeId} (ty:TypeId) {x y:AV} {v u:Value} (hx:AR β x v) (hy:AR β y u):
  ai P m β H w (aL P H t x y) ((do let r ←Builtin.append_ #[t,t] ty #[v,u];pure (Next.value r):Sem Next).run P w):=by
 unfold aL;refine ai.nd fun es hes=>ai.nd fun by_ hby=>ai.nd fun z hz=>ai.guard fun j8=>ai.nd fun nc hnc=>?_;obtain ⟨e,sz⟩:=es;obtain ⟨n,c⟩:=nc;obtain ⟨hu,hs⟩:=ke hes;obtain ⟨ho,B0,it,S3,hiz⟩:=iS hz;obtain ⟨it2,J9,J1⟩:=iJ hs;obtain ⟨it3,I9,Z4⟩:=oI hby;simp only at S3 J9 I9
 rw[S3] at J9 I9;cases J9;cases I9
 have x_:CRs β (ofValue z).cells z.cells.toList:=(ed ho).cells (mA B0);have D4:bh (ofValue z).cells=sz:=zA3 (ag j8).2;have hz2:sz≠0:=by
  have:=(ag j8).1;intro h0;simp only at this
  rw[h0] at this;cases this
 have hzs:z.cells.size=it.size:=by rw[J1,←D4,aX];simpa using x_.length
 have y9:=XT hR hy hnc;show ai P m β H w (dp H e sz by_ n c x) _;have y_:(Builtin.lenOf u).run P w=.ok n w:=by
  rcases y9 with ⟨rfl,_,rfl⟩|⟨o',cap,vs,rfl,_⟩ <;> rfl
 obtain ⟨vs,W6,F4,P4⟩:∃ vs:List Value,vs.length=n*sz∧CRs β c vs∧∀ w':World,(∀ b,b<w.heap.size→w'.heap[b]?=w.heap[b]?)→(Builtin.firstCells it.size n u).run P w'=.ok vs.toArray w':=by
  rcases y9 with ⟨rfl,rfl,rfl⟩|⟨o',cap,vs,rfl,h1,h2,h3⟩
  ·exact ⟨[],by simp,trivial,fun w' _=>by simp[Builtin.firstCells]⟩
  exact ⟨vs,h1,h2,fun w' S1=>fX (by rw[J1];exact h1) (h3 w' S1) _⟩
 have W0:c.length=n*sz:=by rw[←W6];exact F4.length.symm
 unfold dp;split
 ·
  have G4:v=.slice none 0 0:=hx;subst G4;rw[bT];split
  ·rename_i h0
   have V':n=0:=zA3 h0;subst V';have m_:(Builtin.firstCells it.size 0 u).run P w=.ok #[] w:=by
    have:=P4 w (fun _ _=>rfl);have hv0:vs=[]:=List.eq_nil_of_length_eq_zero (by simpa using W6);rw[hv0] at this;exact this
   refine ai.same hR (v:=.slice none 0 0) ?_ rfl;simp[Builtin.append_,run_underlying hu,sizeOf,typeInfo,S3,y_,m_]
  rename_i h0
  have V':n≠0:=fun h=>h0 (by rw[h];rfl);refine ai.guard fun hb=>?_;have hb1:n≤140737488355328:=zA4 (ag hb).1;have k8:n*by_≤140737488355328:=zA4 (ag hb).2;intro L1;have V7:H.nx+1≤m:=L1;have Z1:=mW (P:=P) (w:=w) t ty e it z hu S3 hiz none 0 0 [] (by simp[Builtin.firstCells]) u n vs y_ (P4 w.drew (fun _ _=>rfl)) (by omega) (by rw[Z4];simpa using k8) (by omega);simp only[Nat.zero_add,Array.empty_append] at Z1;have U3:=uo hR hm (by omega) c vs.toArray e (by simpa using F4) w.drew rfl rfl rfl rfl (Builtin.zeroCells z.cells (grownCap w n 0 e - n));refine ⟨_,_,.inl (by simp only[Sem.run_bind,Z1,Result.andThen_ok];rfl),Out.one ?_ U3⟩;refine ⟨_,grownCap w n 0 e,_,aR _ _ _ _,?_,grownCap_ge w n 0 e,rfl,.inr ⟨rfl,?_⟩⟩
  ·show 0+n*sz≤c.length;omega
  show 0+0+grownCap w n 0 e*sz≤vs.toArray.size+(Builtin.zeroCells z.cells _).size;have U6:=grownCap_ge w n 0 e;rw[vP,hzs,J1,List.size_toArray,W6,←Nat.add_mul];have:n+(grownCap w n 0 e - n)=grownCap w n 0 e:=by omega
  rw[this];omega
 ·
  rename_i id g off len sz'
  obtain ⟨p,cap,o',hp,hlen,M9,rfl,hex⟩:=hx;unfold lF;cases Z7:H.get id with
  | none=>exact trivial
  | some ob=>
   cases ob with
   | oth q=>exact trivial
   | ro q=>exact trivial
   | arr cells e' lo gen=>
    refine ai.guard fun hc=>?_;have c1:sz'=sz:=zA3 (ag hc).1;have c2:e'=e:=zA3 (ag (ag hc).2).1;have c3:lo≤g:=zA4 (ag (ag (ag hc).2).2).1;have c4:g≤gen:=zA4 (ag (ag (ag (ag hc).2).2).2).1;have c5:off+len*sz≤bh cells:=zA4 (ag (ag (ag (ag (ag hc).2).2).2).2).1;have c6:len+n≤140737488355328:=zA4 (ag (ag (ag (ag (ag (ag hc).2).2).2).2).2).1;have c7:(len+n)*by_≤140737488355328:=zA4 (ag (ag (ag (ag (ag (ag hc).2).2).2).2).2).2;subst c1 c2;rw[aX] at c5;rw[bT];split
    ·
     rename_i h0
     have V':n=0:=zA3 h0;subst V';have m_:(Builtin.firstCells it.size 0 u).run P w=.ok #[] w:=by
      have:=P4 w (fun _ _=>rfl);have hv0:vs=[]:=List.eq_nil_of_length_eq_zero (by simpa using W6);rw[hv0] at this;exact this
     refine ai.same hR (v:=.slice (some o') len cap) ?_ ⟨p,cap,o',hp,hlen,M9,rfl,hex⟩;simp[Builtin.append_,run_underlying hu,sizeOf,typeInfo,S3,y_,M9,m_,storeCells]
    rename_i h0
    have V':n≠0:=fun h=>h0 (by rw[h];rfl);obtain ⟨I1,hhi⟩:=oc hR Z7 c3 c4 hp;have hgenp:∃ pg,β id gen=some pg∧gQ β w cells e' pg∧pg.hi=cells.length:=by
     obtain ⟨hle,hrows,_,_⟩:=hR.obj id _ Z7;obtain ⟨q,hq,hr,hh⟩:=hrows gen (by omega) (zA1 _);exact ⟨q,hq,hr,hh rfl⟩
    obtain ⟨us,hul,O',hucell⟩:=mK I1.d off (len*sz') hlen;have Y1:(cut cells off (Nat.mul len sz')).length=len*sz':=by rw[←hul,jT];exact O'.length.symm
    have U3:β id (gen+1)=none:=(hR.obj id _ Z7).2.2.2 (gen+1) (by omega);have G1:∀ q,Sub β (plus β id (gen+1) q):=fun q=>jg U3;have hways:(∃ cur:Array Value,len+n≤cap∧o'=⟨p.b,p.o+off,none⟩∧p.o+off+len*sz'+c.length≤p.n∧w.heap[p.b]?=some (.cells cur e' (0,0))∧p.o+off+len*sz'+vs.length≤cur.size ∧
      (Builtin.append_ #[t,t] ty #[.slice (some o') len cap,u]).run P w=.ok (.slice (some ⟨p.b,p.o+off,none⟩) (len+n) cap) (w.setRow p.b (cur.toList.take (p.o+off+len*sz')++vs++cur.toList.drop (p.o+off+len*sz'+vs.length)).toArray)∧p.o+off+cap*sz'≤p.n) ∨
      (cap<len+n∧∃ (tail:Array Value) (ncap:Nat),len+n≤ncap∧us.length+vs.length+tail.size=ncap*sz' ∧
       (Builtin.append_ #[t,t] ty #[.slice (some o') len cap,u]).run P w=.ok (.slice (some ⟨w.heap.size,0,none⟩) (len+n) ncap) (w.drew.alloc (.cells (us.toArray++vs.toArray++tail) e'))):=by
     by_cases F8:len+n≤cap
     ·left;have hex':o'=⟨p.b,p.o+off,none⟩∧p.o+off+cap*sz'≤p.n:=by
       rcases hex with h|h
       ·omega
       exact h
      have hmul:(len+n)*sz'≤cap*sz':=Nat.mul_le_mul_right _ F8;rw[Nat.add_mul] at hmul;obtain ⟨cur,h1,h2,h3,h4,h5⟩:=I1;have W2:p.o+off+len*sz'+vs.length≤cur.size:=by omega
      have Z1:=xB (P:=P) (w:=w) t ty e' it hu S3 p.b (p.o+off) len cap cur h1 u n vs y_ (P4 w (fun _ _=>rfl)) F4.kQ F8 (by rw[J1];exact W2);rw[J1] at Z1;rw[hex'.1];exact ⟨cur,F8,rfl,by omega,h1,W2,Z1,hex'.2⟩
     right;refine ⟨by omega,Builtin.zeroCells z.cells (grownCap w (len+n) cap e' - (len+n)),grownCap w (len+n) cap e',grownCap_ge w (len+n) cap e',?_,?_⟩
     ·have U6:=grownCap_ge w (len+n) cap e';rw[vP,hzs,J1,hul,W6,←Nat.add_mul,←Nat.add_mul];congr 1
      omega
     have hold:(Builtin.firstCells it.size len (.slice (some o') len cap)).run P w.drew=.ok us.toArray w.drew:=by
      refine fX (by rw[J1];exact hul) (fun j q hj=>?_) len;have D0:=(List.getElem?_eq_some_iff.1 hj).1;have U2:o'=⟨p.b,p.o+off,none⟩:=by
       rcases hex with h|h
       ·have v_:len=0:=by omega
        rw[hul,v_] at D0;omega
       exact h.1
      rw[U2];exact hucell j q hj
     exact mW (P:=P) (w:=w) t ty e' it z hu S3 hiz (some o') len cap us hold u n vs y_ (P4 w.drew (fun _ _=>rfl)) (by omega) (by rw[Z4];exact c7) (by omega)
    have hcell':cut cells off (Nat.mul len sz')=(cells.drop off).take (cut cells off (Nat.mul len sz')).length:=by rw[Y1,jT];rfl
    rw[bT];split
    ·
     rename_i I3
     have d1:g=gen:=zA3 (ag I3).1;have d2:off=0:=zA3 (ag (ag I3).2).1;have d3:len*sz'=bh cells:=zA3 (ag (ag I3).2).2;rw[aX] at d3;subst d1 d2;intro L1;have L9:cut cells 0 (Nat.mul len sz')=cells:=by
      rw[jT,List.drop_zero];exact List.take_of_length_le (by show cells.length≤len*sz';omega)
     rw[L9] at Y1 hcell';have y8:CRs β cells us:=by
      have:=O';rw[List.drop_zero,List.take_of_length_le (by omega)] at this;exact this
     rw[ga];have hhi':=hhi rfl;rcases hways with ⟨cur,w1,w2,w3,w4,w5,w6,w7⟩|⟨w1,tail,ncap,w2,w3,w4⟩
     ·
      obtain ⟨cur',J8,_,L3⟩:=uY I1 F4 (pre:=cells) 0 (by omega) (by rw[List.drop_zero,List.take_length]) (by omega);rw[w4] at J8;cases J8;simp only[Nat.add_zero] at L3 w6 w2 w3 w7;rw[show len*sz'=cells.length from d3] at w6;have G2:=lB hR hm L1 Z7 (.arr (cells++c) e' lo (g+1)) (β':=plus β id (g+1) ⟨p.b,p.o,p.n,cells.length+c.length⟩) (w':=w.setRow p.b (cur.toList.take (p.o+cells.length)++vs++cur.toList.drop (p.o+cells.length+vs.length)).toArray)
       (G1 _) (fun i hi k=>bP _ _ _ _ (fun h=>hi h.1)) (by simp) (by simp) (by simp) (by simp)
       (fun b _ hb=>setRow_other w p.b b _ (fun hh=>hb g p ⟨c3,zA1 _⟩ hp hh.symm))
       (ET (hR.obj id _ Z7) L3 (by simp) fun k q Q3 U4 hq=>by
        have J7:=(hR.obj id _ Z7).2.2.1 k g q p Q3 U4 (zA1 _) hq hp;obtain ⟨hr,_⟩:=oc hR Z7 Q3 U4 hq;exact ⟨NR hr w4 vs _ (by omega) (fun hb=>by rw[J7.2 hb];omega),J7.2⟩)
       (fun k q hk hq=>.inr (by
        by_cases M3:k=g+1
        ·subst M3;rw[aR] at hq;cases hq;exact ⟨g,p,⟨c3,zA1 _⟩,hp,rfl⟩
        rw[bP _ _ _ _ (by omega)] at hq;exact ⟨k,q,⟨hk.1,by have:=hk.2;omega⟩,hq,rfl⟩))
      refine ⟨_,_,.inl (by simp only[Sem.run_bind,w6,Result.andThen_ok];rfl),Out.one ?_ G2⟩;refine ⟨_,cap,_,aR _ _ _ _,?_,w1,rfl,.inr ⟨rfl,?_⟩⟩
      ·show 0+(len+n)*sz'≤cells.length+c.length;rw[Nat.add_mul];omega
      show p.o+0+cap*sz'≤p.n;omega
     
     have L3:=An (w:=w) y8 F4 e' tail w.drew rfl;have G2:=lB hR hm L1 Z7 (.arr (cells++c) e' lo (g+1)) (β':=plus β id (g+1) ⟨w.heap.size,0,us.length+vs.length+tail.size,cells.length+c.length⟩) (w':=w.drew.alloc (.cells (us.toArray++vs.toArray++tail) e'))
      (G1 _) (fun i hi k=>bP _ _ _ _ (fun h=>hi h.1)) (by simp) rfl rfl rfl
      (fun b hb _=>RowKit.Below.heap_alloc w.drew _ b hb)
      (ET (hR.obj id _ Z7) L3 (by simp) fun k q Q3 U4 hq=>by
       obtain ⟨hr,_⟩:=oc hR Z7 Q3 U4 hq;have D0:q.b<w.heap.size:=by obtain ⟨cc,o6,_⟩:=hr;exact dw o6
       exact ⟨gQ.mono (fun _ _ _ h=>h) hr (RowKit.Below.heap_alloc w.drew _ _ D0),fun hb=>by have Z6:q.b=w.heap.size:=hb;omega⟩)
      (fun k q hk hq=>by
       by_cases M3:k=g+1
       ·subst M3;rw[aR] at hq;cases hq;exact .inl (zA1 _)
       rw[bP _ _ _ _ (by omega)] at hq;exact .inr ⟨k,q,⟨hk.1,by have:=hk.2;omega⟩,hq,rfl⟩)
     refine ⟨_,_,.inl (by simp only[Sem.run_bind,w4,Result.andThen_ok];rfl),Out.one ?_ G2⟩;refine ⟨_,ncap,_,aR _ _ _ _,?_,w2,rfl,.inr ⟨rfl,?_⟩⟩
     ·show 0+(len+n)*sz'≤cells.length+c.length;rw[Nat.add_mul];omega
     show 0+0+ncap*sz'≤us.length+vs.length+tail.size;omega
    
    intro L1;obtain ⟨pg,hpg,hrowg,hhig⟩:=hgenp;have y8:CRs β (cut cells off (Nat.mul len sz')) us:=by rw[jT];exact O'
    rw[ga];rcases hways with ⟨cur,w1,w2,w3,w4,w5,w6,w7⟩|⟨w1,tail,ncap,w2,w3,w4⟩
    ·obtain ⟨cur',J8,_,L3⟩:=uY I1 F4 (pre:=cut cells off (Nat.mul len sz')) off (by omega) hcell' (by omega);rw[w4] at J8;cases J8;rw[Y1] at L3;have G2:=lB hR hm L1 Z7 (.arr (cut cells off (Nat.mul len sz')++c) e' (gen+1) (gen+1)) (β':=plus β id (gen+1) ⟨p.b,p.o+off,p.n,len*sz'+c.length⟩)
      (w':=w.setRow p.b (cur.toList.take (p.o+off+len*sz')++vs++cur.toList.drop (p.o+off+len*sz'+vs.length)).toArray)
      (G1 _) (fun i hi k=>bP _ _ _ _ (fun h=>hi h.1)) (by simp) (by simp) (by simp) (by simp)
      (fun b _ hb=>setRow_other w p.b b _ (fun hh=>hb g p ⟨c3,c4⟩ hp hh.symm))
      (Ax (hR.obj id _ Z7) L3 (by rw[List.length_append,Y1]))
      (fun k q hk hq=>.inr (by
       have M3:k=gen+1:=by have:=hk.1;have:=hk.2;omega
       subst M3;rw[aR] at hq;cases hq;exact ⟨g,p,⟨c3,c4⟩,hp,rfl⟩))
     refine ⟨_,_,.inl (by simp only[Sem.run_bind,w6,Result.andThen_ok];rfl),Out.one ?_ G2⟩;refine ⟨_,cap,_,aR _ _ _ _,?_,w1,rfl,.inr ⟨rfl,?_⟩⟩
     ·show 0+(len+n)*sz'≤len*sz'+c.length;rw[Nat.add_mul];omega
     show p.o+off+0+cap*sz'≤p.n;omega
    have L3:=An (w:=w) y8 F4 e' tail w.drew rfl;have G2:=lB hR hm L1 Z7 (.arr (cut cells off (Nat.mul len sz')++c) e' (gen+1) (gen+1)) (β':=plus β id (gen+1) ⟨w.heap.size,0,us.length+vs.length+tail.size,(cut cells off (Nat.mul len sz')).length+c.length⟩)
     (w':=w.drew.alloc (.cells (us.toArray++vs.toArray++tail) e'))
     (G1 _) (fun i hi k=>bP _ _ _ _ (fun h=>hi h.1)) (by simp) rfl rfl rfl
     (fun b hb _=>RowKit.Below.heap_alloc w.drew _ b hb)
     (Ax (hR.obj id _ Z7) L3 (by rw[List.length_append]))
     (fun k q hk hq=>.inl (by
      have M3:k=gen+1:=by have:=hk.1;have:=hk.2;omega
      subst M3;rw[aR] at hq;cases hq;exact zA1 _))
    refine ⟨_,_,.inl (by simp only[Sem.run_bind,w4,Result.andThen_ok];rfl),Out.one ?_ G2⟩;refine ⟨_,ncap,_,aR _ _ _ _,?_,w2,rfl,.inr ⟨rfl,?_⟩⟩
    ·show 0+(len+n)*sz'≤(cut cells off (Nat.mul len sz')).length+c.length;rw[Nat.add_mul];omega
    show 0+0+ncap*sz'≤us.length+vs.length+tail.size;omega
 exact trivial
end
end Go.Eng
