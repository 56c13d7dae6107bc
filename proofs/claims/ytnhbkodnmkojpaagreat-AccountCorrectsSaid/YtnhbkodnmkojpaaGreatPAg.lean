/- A part of the proof: EngMono, EngWp, EngSym, EngSymD, EngSymO, EngSymL. No conditions. -/
import Derived.Test.YtnhbkodnmkojpaaGreatPAe
set_option maxRecDepth 100000
set_option maxHeartbeats 64000000
namespace Go.Eng
open Go
def RLe {α:Type} (r r':R α):Prop:=∀ o,r=.ok o→r'=.ok o
section
variable {α γ:Type}
theorem RLe.refl (r:R α):RLe r r:=fun _ h=>h
theorem RLe.bad (s:String) (r:R α):RLe (.bad s) r:=fun _ h=>by cases h
theorem RLe.cM {f f':α→R γ}:∀ (l:List α),(∀ x∈l,RLe (f x) (f' x))→RLe (Eng.cM f l) (Eng.cM f' l)
 | [],_=>RLe.refl _
 | [x],h=>h x (List.mem_singleton.2 rfl)
 | x::y::l,h=>by
  have h1:=h x (List.mem_cons_self ..)
  have h2:=RLe.cM (y::l) fun z hz=>h z (List.mem_cons_of_mem _ hz)
  intro o ho
  have ho':wc (f x) (Eng.cM f (y::l))=.ok o:=ho
  show wc (f' x) (Eng.cM f' (y::l))=.ok o
  cases ha:f x with
  | bad s=>rw[ha] at ho';cases ho'
  | ok oa=>
   cases hb:Eng.cM f (y::l) with
   | bad s=>rw[ha,hb] at ho';cases ho'
   | ok ob=>
    rw[ha,hb] at ho'
    rw[h1 oa ha,h2 ob hb]
    exact ho'
theorem RLe.bind {r r':R α} {f f':α→R γ} (hr:RLe r r') (hf:∀ x,RLe (f x) (f' x)):RLe (r.bind f) (r'.bind f'):=by
 cases r with
 | bad s=>exact RLe.bad _ _
 | ok l=>
  rw[hr l rfl]
  exact RLe.cM l fun x _=>hf x
theorem RLe.ifE {b:Bool} {x x' y y':R α} (hx:RLe x x') (hy:RLe y y'):RLe (Eng.ifE b x y) (Eng.ifE b x' y'):=by cases b with|true=>exact hx|false=>exact hy
theorem RLe.ay {o:Option γ} {e e':R α} {f f':γ→R α} (he:RLe e e') (h:∀ a,RLe (f a) (f' a)):RLe (Eng.ay o e f) (Eng.ay o e' f'):=by cases o with|none=>exact he|some a=>exact h a
end
theorem RLe.join {h:Hp} {r r':R (AV×Hp)} (hr:RLe r r'):RLe (sf h r) (sf h r'):=by
 cases r with
 | bad s=>exact RLe.bad _ _
 | ok l=>rw[hr l rfl];exact RLe.refl _
structure PJ (rec rec':Rec):Prop where
 code:∀ r c a h,RLe (rec.code r c a h) (rec'.code r c a h)
 call:∀ f l h,RLe (rec.call f l h) (rec'.call f l h)
theorem CA {tm:PT AV} {g:Option (Option Tmp×Bool)} {y y' n n':R (ab×Hp)} (hy:RLe y y') (hn:RLe n n'):RLe (bC tm g y n) (bC tm g y' n'):=by
 unfold bC
 refine RLe.ay hy fun p=>RLe.ay hn fun t=>RLe.ay hn fun v=>?_
 cases v with
 | one c=>cases c with
  | b b=>exact RLe.ifE (RLe.ifE hy hn) (RLe.ifE hn hy)
  | i _ _=>exact hn
  | o _=>exact RLe.refl _
 | agg _=>exact hn
 | tup _=>exact hn
 | any=>exact RLe.refl _
theorem OI {e:aE} {n n' r r':R (aE×ab×Hp)} {x x':Nat→R (aE×ab×Hp)} (hn:RLe n n') (hx:∀ i,RLe (x i) (x' i)) (hr:RLe r r'):RLe (exE e n x r) (exE e n' x' r'):=by
 cases e with
 | normal=>exact hn
 | exit i=>exact hx i
 | ret=>exact hr
theorem kL {a:ab} {dst:Option Tmp} {v:AV} {h:Hp} {k k':ab→Hp→R (ab×Hp)} (hk:∀ a h,RLe (k a h) (k' a h)):RLe (fK a dst v h k) (fK a dst v h k'):=
 RLe.ay (hk _ _) fun _=>RLe.ifE (hk _ _) (RLe.refl _)
section
variable {E:Env} {rec rec':Rec} (hr:PJ rec rec')
include hr
theorem Hk {id:Nat} {body:Code} (x:aE×ab×Hp):RLe (eC rec id body x) (eC rec' id body x):=by
 unfold eC
 split
 ·exact RLe.bind (hr.code _ _ _ _) fun y=>RLe.refl _
 ·exact RLe.refl _
theorem vD {id:Nat} {args:List AV} {h:Hp}:RLe (fm rec id args h) (fm rec' id args h):=by
 unfold fm
 split
 ·exact RLe.ifE (RLe.bind (hr.code _ _ _ _) fun x=>Hk hr x) (RLe.refl _)
 ·exact RLe.refl _
theorem qF {h:Hp} {n:ae}:RLe (ig E rec h n) (ig E rec' h n):=by
 cases n with
 | val v h'=>exact RLe.refl _
 | vals l=>exact RLe.refl _
 | enter f args=>exact RLe.ay (hr.call _ _ _) fun _=>RLe.refl _
 | round id args=>exact vD hr
 | bad s=>exact RLe.refl _
theorem PC {a:ab} {dst:Option Tmp} {h:Hp} {k k':ab→Hp→R (ab×Hp)} {n:ae} (hk:∀ a h,RLe (k a h) (k' a h)):RLe (nz E rec a dst h k n) (nz E rec' a dst h k' n):=by
 cases n with
 | val v h'=>exact kL hk
 | vals l=>exact RLe.cM l fun x _=>kL hk
 | enter f args=>exact RLe.bind (RLe.ay (hr.call _ _ _) fun _=>RLe.refl _) fun x=>kL hk
 | round id args=>exact RLe.bind (vD hr) fun x=>kL hk
 | bad s=>exact RLe.refl _
theorem py:∀ (l:List OF) (a:ab) (h:Hp),RLe (fE E rec l a h) (fE E rec' l a h)
 | [],_,_=>RLe.refl _
 | o::l,a,h=>CA (PC hr fun a h=>py l a h) (kL fun a h=>py l a h)
omit hr in
theorem RQ {kk j:Nat} {a:ab} {dst:Option Tmp} {h:Hp} {sub:PT aO} {us did:List Did} {K K':List Did→ab→Hp→R (ab×Hp)} {x x':R (AV×Hp)} (hx:RLe x x') (hK:∀ d a h,RLe (K d a h) (K' d a h)):
  RLe (ud kk j a dst h sub us did K x) (ud kk j a dst h sub us did K' x'):=by
 cases x with
 | bad s=>exact RLe.bad _ _
 | ok l=>
  rw[hx l rfl]
  cases l with
  | nil=>exact RLe.refl _
  | cons y l=>
   cases l with
   | cons _ _=>exact RLe.refl _
   | nil=>exact RLe.ifE (kL fun a h=>hK _ a h) (RLe.refl _)
theorem mX:∀ (l:List OF) (j:Nat) (ms:List Nat) (did:List Did) (a:ab) (h:Hp),RLe (cW E rec l j ms did a h) (cW E rec' l j ms did a h)
 | [],_,_,_,_,_=>RLe.refl _
 | o::l,j,[],did,a,h=>RLe.refl _
 | o::l,j,m::ms,did,a,h=>CA (RQ (qF hr) fun d a h=>mX l _ ms d a h) (kL fun a h=>mX l _ ms did a h)
theorem HA {r:Option Nat} {f:OpF} {ps:List Tmp} {as bo:Code} {a:ab} {h:Hp}:RLe (gb E rec r f ps as bo a h) (gb E rec' r f ps as bo a h):=by
 unfold gb
 split
 ·exact RLe.refl _
 ·split
  ·exact RLe.ifE (RLe.bind (hr.call _ _ _) fun x=>RLe.refl _) (RLe.refl _)
  ·exact RLe.refl _
theorem gC:∀ (c:Code) (r:Option Nat) (a:ab) (h:Hp),RLe ((codeF E c).run rec r a h) ((codeF E c).run rec' r a h):=by
 intro c
 induction c with
 | skip=>intro r a h;exact RLe.refl _
 | region id ops draw=>
  intro r a h
  cases draw with
  | false=>exact RLe.bind (py hr _ a h) fun x=>RLe.refl _
  | true=>
   show RLe ((Eng.ifE (dY ops) (CF.mk fun rec _ a h=>(cW E rec (rp E.P ops) 0 (dV [] 0 ops.toList) [] a h).bind fI) (CF.mk fun _ _ _ _=>.bad "draw - slots")).run rec r a h)
    ((Eng.ifE (dY ops) (CF.mk fun rec _ a h=>(cW E rec (rp E.P ops) 0 (dV [] 0 ops.toList) [] a h).bind fI) (CF.mk fun _ _ _ _=>.bad "draw - slots")).run rec' r a h)
   cases dY ops with
   | false=>exact RLe.refl _
   | true=>exact RLe.bind (mX hr _ _ _ _ a h) fun x=>RLe.refl _
 | seq x y hx hy=>
  intro r a h
  exact RLe.bind (hx r a h) fun z=>OI (hy r _ _) (fun _=>RLe.refl _) (RLe.refl _)
 | cond c x y hx hy=>
  intro r a h
  show RLe (dP ((opF c).ev a.tm) (.bad "cond") fun b=>Eng.ifE b ((codeF E x).run rec r a h) ((codeF E y).run rec r a h)) (dP ((opF c).ev a.tm) (.bad "cond") fun b=>Eng.ifE b ((codeF E x).run rec' r a h) ((codeF E y).run rec' r a h))
  cases (opF c).ev a.tm with
  | one q=>
   cases q with
   | b b=>exact RLe.ifE (hx r a h) (hy r a h)
   | i _ _=>exact RLe.refl _
   | o _=>exact RLe.refl _
  | agg _=>exact RLe.refl _
  | tup _=>exact RLe.refl _
  | any=>exact RLe.refl _
 | block id x hx=>
  intro r a h
  exact RLe.bind (hx r a h) fun z=>RLe.refl _
 | loop x hx=>
  intro r a h
  exact RLe.bind (hx r a h) fun z=>OI (hr.code _ _ _ _) (fun _=>RLe.refl _) (RLe.refl _)
 | rangeFunc f ps as bo _ _=>intro r a h;exact HA hr
 | exit id=>intro r a h;exact RLe.refl _
 | scope x hx=>intro r a h;exact hx r a h
 | label l=>intro r a h;exact RLe.refl _
 | goto l=>intro r a h;exact RLe.refl _
 | ret=>intro r a h;exact RLe.refl _
 | refuse x=>intro r a h;exact RLe.refl _
theorem MD {f:FuncId} {args:List AV} {h:Hp}:RLe (jv E rec f args h) (jv E rec' f args h):=by
 unfold jv QT
 split
 ·split
  ·exact RLe.ifE (RLe.join (RLe.bind (gC hr _ none _ h) fun x=>RLe.refl _)) (RLe.refl _)
  ·exact RLe.refl _
 ·exact RLe.refl _
end
theorem rf (E:Env):∀ n,PJ (eval E n) (eval E (n+1))
 | 0=>⟨fun _ _ _ _=>RLe.bad _ _,fun _ _ _=>RLe.bad _ _⟩
 | n+1=>⟨fun r c a h=>gC (rf E n) c r a h,fun f l h=>MD (rf E n)⟩
theorem fD (E:Env) {n:Nat}:∀ {k:Nat},n≤k→PJ (eval E n) (eval E k)
 | 0,h=>by
  have:n=0:=by omega
  subst this
  exact ⟨fun _ _ _ _=>RLe.refl _,fun _ _ _=>RLe.refl _⟩
 | k+1,h=>by
  by_cases e:n=k+1
  ·subst e;exact ⟨fun _ _ _ _=>RLe.refl _,fun _ _ _=>RLe.refl _⟩
  ·have h1:=fD E (n:=n) (k:=k) (by omega)
   have h2:=rf E k
   exact ⟨fun r c a h o ho=>h2.code r c a h o (h1.code r c a h o ho),fun f l h o ho=>h2.call f l h o (h1.call f l h o ho)⟩
def C1 (E:Env) (f:FuncId) (args:List AV) (H:Hp) (Q:AV→Hp→Prop):Prop:=∃ n v H',(eval E n).call f args H=.ok [(v,H')]∧Q v H'
def R1 (E:Env) (r:Option Nat) (c:Code) (A:ab) (H:Hp) (Q:aE→ab→Hp→Prop):Prop:=∃ n e A' H',(codeF E c).run (eval E n) r A H=.ok [(e,A',H')]∧Q e A' H'
def O1 (E:Env) (l:List OF) (A:ab) (H:Hp) (Q:ab→Hp→Prop):Prop:=∃ n A' H',fE E (eval E n) l A H=.ok [(A',H')]∧Q A' H'
def D1 (E:Env) (l:List OF) (j:Nat) (ms:List Nat) (did:List Did) (A:ab) (H:Hp) (Q:ab→Hp→Prop):Prop:=∃ n A' H',cW E (eval E n) l j ms did A H=.ok [(A',H')]∧Q A' H'
def N1 (E:Env) (H:Hp) (n:ae) (Q:AV→Hp→Prop):Prop:=∃ k v H',ig E (eval E k) H n=.ok [(v,H')]∧Q v H'
section
variable {E:Env}
theorem C1.mono {f:FuncId} {args:List AV} {H:Hp} {Q Q':AV→Hp→Prop} (h:C1 E f args H Q) (hq:∀ v H',Q v H'→Q' v H'):C1 E f args H Q':=
 let ⟨n,v,H',h1,h2⟩:=h;⟨n,v,H',h1,hq _ _ h2⟩
theorem R1.mono {r:Option Nat} {c:Code} {A:ab} {H:Hp} {Q Q':aE→ab→Hp→Prop} (h:R1 E r c A H Q) (hq:∀ e A' H',Q e A' H'→Q' e A' H'):R1 E r c A H Q':=
 let ⟨n,e,A',H',h1,h2⟩:=h;⟨n,e,A',H',h1,hq _ _ _ h2⟩
theorem O1.mono {l:List OF} {A:ab} {H:Hp} {Q Q':ab→Hp→Prop} (h:O1 E l A H Q) (hq:∀ A' H',Q A' H'→Q' A' H'):O1 E l A H Q':=
 let ⟨n,A',H',h1,h2⟩:=h;⟨n,A',H',h1,hq _ _ h2⟩
def Thn (K:ab→Hp→Prop) (Q:aE→ab→Hp→Prop):aE→ab→Hp→Prop
 | .normal,A,H=>K A H
 | .exit i,A,H=>Q (.exit i) A H
 | .ret,A,H=>Q .ret A H
def InB (id:Nat) (Q:aE→ab→Hp→Prop):aE→ab→Hp→Prop
 | .normal,A,H=>Q .normal A H
 | .exit i,A,H=>if i=id then Q .normal A H else Q (.exit i) A H
 | .ret,A,H=>Q .ret A H
variable {r:Option Nat} {A:ab} {H:Hp} {Q:aE→ab→Hp→Prop}
theorem R1.skip (h:Q .normal A H):R1 E r .skip A H Q:=⟨0,_,_,_,rfl,h⟩
theorem R1.exit {id:Nat} (h:Q (.exit id) A H):R1 E r (.exit id) A H Q:=⟨0,_,_,_,rfl,h⟩
theorem R1.ret (h:Q .ret A H):R1 E r .ret A H Q:=⟨0,_,_,_,rfl,h⟩
theorem R1.scope {c:Code} (h:R1 E r c A H Q):R1 E r (.scope c) A H Q:=h
theorem R1.seq {x y:Code} (h:R1 E r x A H (Thn (fun A H=>R1 E r y A H Q) Q)):R1 E r (.seq x y) A H Q:=by
 obtain ⟨n,e,A1,H1,h1,h2⟩:=h
 cases e with
 | normal=>
  obtain ⟨k,e2,A2,H2,h3,h4⟩:=h2
  refine ⟨max n k,e2,A2,H2,?_,h4⟩
  have a1:=gC (fD E (Nat.le_max_left n k)) x r A H _ h1
  have a2:=gC (fD E (Nat.le_max_right n k)) y r A1 H1 _ h3
  show ((codeF E x).run (eval E (max n k)) r A H).bind (vQ (codeF E y) (eval E (max n k)) r)=_
  rw[a1]
  exact a2
 | exit i=>
  refine ⟨n,_,A1,H1,?_,h2⟩
  show ((codeF E x).run (eval E n) r A H).bind (vQ (codeF E y) (eval E n) r)=_
  rw[h1];rfl
 | ret=>
  refine ⟨n,_,A1,H1,?_,h2⟩
  show ((codeF E x).run (eval E n) r A H).bind (vQ (codeF E y) (eval E n) r)=_
  rw[h1];rfl
theorem R1.cond {c:Operand} {x y:Code} {b:Bool} (hc:ev A.tm c=.one (.b b)) (h:R1 E r (if b=true then x else y) A H Q):R1 E r (.cond c x y) A H Q:=by
 obtain ⟨n,e,A1,H1,h1,h2⟩:=h
 refine ⟨n,e,A1,H1,?_,h2⟩
 show dP (ev A.tm c) (.bad "cond") (fun b=>Eng.ifE b ((codeF E x).run (eval E n) r A H) ((codeF E y).run (eval E n) r A H))=_
 rw[hc]
 cases b with
 | true=>exact h1
 | false=>exact h1
theorem R1.block {id:Nat} {c:Code} (h:R1 E r c A H (InB id Q)):R1 E r (.block id c) A H Q:=by
 obtain ⟨n,e,A1,H1,h1,h2⟩:=h
 have key:∀ e2,tX id (e,A1,H1)=.ok [(e2,A1,H1)]→Q e2 A1 H1→R1 E r (.block id c) A H Q:=fun e2 a b=>⟨n,e2,A1,H1,by
  show ((codeF E c).run (eval E n) r A H).bind (tX id)=_
  rw[h1];exact a,b⟩
 cases e with
 | normal=>exact key .normal rfl h2
 | ret=>exact key .ret rfl h2
 | exit i=>
  have h2':if i=id then Q .normal A1 H1 else Q (.exit i) A1 H1:=h2
  by_cases hi:i=id
  ·rw[if_pos hi] at h2'
   refine key .normal ?_ h2'
   show Eng.ifE (Nat.beq i id) (R.ok [((.normal:aE),A1,H1)]) (R.ok [(.exit i,A1,H1)])=_
   rw[hi,Nat.beq_refl];rfl
  ·rw[if_neg hi] at h2'
   refine key (.exit i) ?_ h2'
   show Eng.ifE (Nat.beq i id) (R.ok [((.normal:aE),A1,H1)]) (R.ok [(.exit i,A1,H1)])=_
   have:Nat.beq i id=false:=by
    cases hb:Nat.beq i id with
    | false=>rfl
    | true=>exact absurd (Nat.eq_of_beq_eq_true hb) hi
   rw[this];rfl
theorem R1.round {c:Code} (h:R1 E r c A H (Thn (fun A H=>R1 E r (.loop c) A H Q) Q)):R1 E r (.loop c) A H Q:=by
 obtain ⟨n,e,A1,H1,h1,h2⟩:=h
 cases e with
 | normal=>
  obtain ⟨k,e2,A2,H2,h3,h4⟩:=h2
  refine ⟨max n k+1,e2,A2,H2,?_,h4⟩
  have a1:=gC (fD E (show n≤max n k+1 by omega)) c r A H _ h1
  have a2:(eval E (max n k+1)).code r (.loop c) A1 H1=.ok [(e2,A2,H2)]:=gC (fD E (Nat.le_max_right n k)) (.loop c) r A1 H1 _ h3
  show ((codeF E c).run (eval E (max n k+1)) r A H).bind (CM (eval E (max n k+1)) r c)=_
  rw[a1]
  exact a2
 | exit i=>
  refine ⟨n,_,A1,H1,?_,h2⟩
  show ((codeF E c).run (eval E n) r A H).bind (CM (eval E n) r c)=_
  rw[h1];rfl
 | ret=>
  refine ⟨n,_,A1,H1,?_,h2⟩
  show ((codeF E c).run (eval E n) r A H).bind (CM (eval E n) r c)=_
  rw[h1];rfl
theorem R1.loop {c:Code} (I:Nat→ab→Hp→Prop) (hI:∀ k A H,I k A H→R1 E r c A H (Thn (fun A' H'=>∃ k',k'<k∧I k' A' H') Q)):∀ (k:Nat) {A:ab} {H:Hp},I k A H→R1 E r (.loop c) A H Q:=by
 intro k
 induction k using Nat.strongRecOn with
 | ind k ih=>
  intro A H h
  refine R1.round ((hI k A H h).mono fun e A' H' hq=>?_)
  cases e with
  | normal=>obtain ⟨k',hk,h'⟩:=hq;exact ih k' hk h'
  | exit i=>exact hq
  | ret=>exact hq
theorem R1.region {id:Nat} {ops:Array Oper} (h:O1 E (rp E.P ops) A H fun A H=>Q .normal A H):R1 E r (.region id ops false) A H Q:=by
 obtain ⟨n,A1,H1,h1,h2⟩:=h
 refine ⟨n,.normal,A1,H1,?_,h2⟩
 show (fE E (eval E n) (rp E.P ops) A H).bind fI=_
 rw[h1];rfl
theorem R1.draw {id:Nat} {ops:Array Oper} (hs:dY ops=true) (h:D1 E (rp E.P ops) 0 (dV [] 0 ops.toList) [] A H fun A H=>Q .normal A H):R1 E r (.region id ops true) A H Q:=by
 obtain ⟨n,A1,H1,h1,h2⟩:=h
 refine ⟨n,.normal,A1,H1,?_,h2⟩
 show (Eng.ifE (dY ops) (CF.mk fun rec _ a h=>(cW E rec (rp E.P ops) 0 (dV [] 0 ops.toList) [] a h).bind fI) (CF.mk fun _ _ _ _=>.bad "draw - slots")).run (eval E n) r A H=_
 rw[hs]
 show (cW E (eval E n) (rp E.P ops) 0 (dV [] 0 ops.toList) [] A H).bind fI=_
 rw[h1];rfl
theorem N1.val {H H':Hp} {v:AV} {Q:AV→Hp→Prop} (h:Q v H'):N1 E H (.val v H') Q:=⟨0,v,H',rfl,h⟩
theorem N1.call {H:Hp} {f:FuncId} {args:List AV} {Q:AV→Hp→Prop} (hp:E.fL f args=none) (h:C1 E f args H Q):N1 E H (.enter f args) Q:=by
 obtain ⟨n,v,H',h1,h2⟩:=h
 refine ⟨n,v,H',?_,h2⟩
 show ay (E.fL f args) ((eval E n).call f args H) (fun v=>.ok [(v,H)])=_
 rw[hp];exact h1
theorem N1.fL {H:Hp} {f:FuncId} {args:List AV} {v:AV} {Q:AV→Hp→Prop} (hp:E.fL f args=some v) (h:Q v H):N1 E H (.enter f args) Q:=by
 refine ⟨0,v,H,?_,h⟩
 show ay (E.fL f args) ((eval E 0).call f args H) (fun v=>.ok [(v,H)])=_
 rw[hp];rfl
noncomputable def bD (A:ab) (d:Option Tmp) (v:AV):ab:=ay d A fun d=>A.put d v
def au (d:Option Tmp) (nt:Nat):Bool:=match d with|none=>true|some d=>Nat.blt d nt
theorem mN {a:ab} {d:Option Tmp} {v:AV} {h:Hp} {k:ab→Hp→R (ab×Hp)} (hd:au d a.nt=true):fK a d v h k=k (bD a d v) h:=by
 cases d with
 | none=>rfl
 | some d=>
  show Eng.ifE (Nat.blt d a.nt) (k (a.put d v) h) (.bad "slot")=_
  have:Nat.blt d a.nt=true:=hd
  rw[this];rfl
theorem O1.nil {Q:ab→Hp→Prop} (h:Q A H):O1 E [] A H Q:=⟨0,A,H,rfl,h⟩
theorem O1.cons {g:Option (Option Tmp×Bool)} {d:Option Tmp} {f:SF} {o:Oper} {l:List OF} {Q:ab→Hp→Prop} (hg:∀ y n:R (ab×Hp),bC A.tm g y n=y) (hd:au d A.nt=true)
  (h:N1 E H (f.run A.tm H) fun v H'=>O1 E l (bD A d v) H' Q):O1 E (⟨g,d,f,o⟩::l) A H Q:=by
 obtain ⟨n,v,H1,h1,k,A2,H2,h2,h3⟩:=h
 refine ⟨max n k,A2,H2,?_,h3⟩
 have a1:=qF (E:=E) (fD E (Nat.le_max_left n k)) _ h1
 have a2:=py (E:=E) (fD E (Nat.le_max_right n k)) l (bD A d v) H1 _ h2
 show bC A.tm g (nz E (eval E (max n k)) A d H (fE E (eval E (max n k)) l) (f.run A.tm H)) (fK A d aG H (fE E (eval E (max n k)) l))=_
 rw[hg]
 have e:nz E (eval E (max n k)) A d H (fE E (eval E (max n k)) l) (f.run A.tm H)=(ig E (eval E (max n k)) H (f.run A.tm H)).bind fun x=>fK A d x.1 x.2 (fE E (eval E (max n k)) l):=by
  cases f.run A.tm H <;> rfl
 rw[e,a1]
 show fK A d v H1 (fE E (eval E (max n k)) l)=_
 rw[mN hd]
 exact a2
theorem O1.MH {g:Option (Option Tmp×Bool)} {d:Option Tmp} {f:SF} {o:Oper} {l:List OF} {Q:ab→Hp→Prop} (hg:∀ y n:R (ab×Hp),bC A.tm g y n=n) (hd:au d A.nt=true)
  (h:O1 E l (bD A d aG) H Q):O1 E (⟨g,d,f,o⟩::l) A H Q:=by
 obtain ⟨k,A2,H2,h2,h3⟩:=h
 refine ⟨k,A2,H2,?_,h3⟩
 show bC A.tm g (nz E (eval E k) A d H (fE E (eval E k) l) (f.run A.tm H)) (fK A d aG H (fE E (eval E k) l))=_
 rw[hg,mN hd]
 exact h2
theorem C1.Ti {f:FuncId} {fn:Func} {c:Code} {args:List AV} {Q:AV→Hp→Prop} (hf:E.P.funcs[f]?=some fn) (hb:fn.body=some c) (hn:args.length≤fn.ntmps) (hn2:fn.ntmps≤1048576)
  (h:R1 E none c ⟨setArgs args 0 .leaf,fn.ntmps,[]⟩ H fun e A' H'=>∃ v H2,ao E fn.results.toList (e,A',H')=.ok [(v,H2)]∧Q v H2):C1 E f args H Q:=by
 obtain ⟨n,e,A',H',h1,v,H2,h2,h3⟩:=h
 refine ⟨n+1,v,H2,?_,h3⟩
 show jv E (eval E n) f args H=_
 unfold jv QT
 rw[hf]
 simp only[hb]
 show Eng.ifE (both (Nat.ble (oM args) fn.ntmps) (Nat.ble fn.ntmps 1048576)) (sf H (((codeF E c).run (eval E n) none ⟨setArgs args 0 .leaf,fn.ntmps,[]⟩ H).bind (ao E fn.results.toList))) (.bad "too many arguments")=_
 have e1:Nat.ble (oM args) fn.ntmps=true:=Nat.ble_eq_true_of_le hn
 have e2:Nat.ble fn.ntmps 1048576=true:=Nat.ble_eq_true_of_le hn2
 rw[e1,e2]
 show sf H (((codeF E c).run (eval E n) none ⟨setArgs args 0 .leaf,fn.ntmps,[]⟩ H).bind (ao E fn.results.toList))=_
 rw[h1]
 have e3:R.bind (R.ok [(e,A',H')]) (ao E fn.results.toList)=ao E fn.results.toList (e,A',H'):=rfl
 rw[e3,h2];rfl
end
noncomputable def slot (tm:PT AV) (t:Nat):AV:=ay (tm.get t) aG fun v=>v
theorem Jo (tm:PT AV) (f:FuncId):ev tm (.func f)=.one (.o (.clo f [])):=rfl
theorem RY (tm:PT AV) (k:IntKind) (n:Int):ev tm (.const (.int k n))=.one (.i k n):=rfl
theorem LD (tm:PT AV) (b:Bool):ev tm (.const (.bool b))=.one (.b b):=rfl
theorem Oo (tm:PT AV) (s:ByteArray):ev tm (.const (.string s))=.one (.o (.str s.data.toList)):=rfl
theorem KW (tm:PT AV):ev tm (.const (.slice none 0 0))=.one (.o .nilS):=rfl
theorem aa (A:ab) (d t:Nat) (v:AV):slot (bD A (some d) v).tm t=if t=d then v else slot A.tm t:=by
 show ay ((A.tm.set d v).get t) aG (fun v=>v)=_
 rw[PT.dk]
 by_cases h:t=d
 ·subst h;rw[if_pos rfl,if_pos rfl];rfl
 ·rw[if_neg h,if_neg h];rfl
theorem yD (A:ab) (v:AV):bD A none v=A:=rfl
theorem aA (A:ab) (d:Option Tmp) (v:AV):(bD A d v).nt=A.nt:=by cases d <;> rfl
theorem ag (A:ab) (d:Option Tmp) (v:AV):(bD A d v).dfr=A.dfr:=by cases d <;> rfl
theorem sy:∀ (l:List AV) (k:Nat) (tm:PT AV) (t:Nat),k+l.length≤1048576→(setArgs l k tm).get t=if k≤t∧t<k+l.length then l[t - k]? else tm.get t
 | [],k,tm,t,_=>by
  show tm.get t=_
  rw[if_neg (by simp only[List.length_nil];omega)]
 | v::l,k,tm,t,h=>by
  simp only[List.length_cons] at h
  show (setArgs l (k+1) (tm.set k v)).get t=_
  rw[sy l (k+1) (tm.set k v) t (by omega),PT.mD _ _ _ _ (by omega)]
  simp only[List.length_cons]
  by_cases h1:t=k
  ·subst h1
   rw[if_neg (by omega),if_pos rfl,if_pos (by omega)]
   simp
  ·by_cases h2:k+1≤t∧t<k+1+l.length
   ·rw[if_pos h2,if_pos (by omega)]
    have:t - k=(t - (k+1))+1:=by omega
    rw[this]
    simp
   ·rw[if_neg h2,if_neg h1,if_neg (by omega)]
theorem Mv (l:List AV) (t:Nat) (h:l.length≤1048576):slot (setArgs l 0 .leaf) t=(l[t]?).getD aG:=by
 unfold slot
 rw[sy l 0 .leaf t (by omega)]
 by_cases h1:t<l.length
 ·rw[if_pos ⟨Nat.zero_le _,by omega⟩,Nat.sub_zero,List.getElem?_eq_getElem h1];rfl
 ·rw[if_neg (by omega),List.getElem?_eq_none (by omega)];rfl
section
variable {P:Program} {tm:PT AV} {H:Hp} {d:Option Tmp} {ty:TypeId} {pos:String} {af:Array Edge} {g:Option (Nat×Bool)}
theorem Ce {α:Type} {o:Option α} {a:α} {s:String} {f:α→SF} (h:o=some a):(ndF o s f).run tm H=(f a).run tm H:=by subst h;rfl
theorem Ly (x:Operand):(aq P ⟨d,.move x,ty,pos,af,g⟩).run tm H=.val (ev tm x) H:=by cases x <;> rfl
theorem zf (x:Operand):(aq P ⟨d,.assign x,ty,pos,af,g⟩).run tm H=.val (ev tm x) H:=by cases x <;> rfl
theorem Jz (c x y:Operand):(aq P ⟨d,.pick c x y,ty,pos,af,g⟩).run tm H=dP (ev tm c) (.bad "pick") fun b=>.val (ifE b (ev tm x) (ev tm y)) H:=rfl
theorem LX (t:TypeId) (x:Operand) {p:Bool×Nat} (h:loadT P t=some p):(aq P ⟨d,.load t x,ty,pos,af,g⟩).run tm H=cm H p.1 p.2 (ev tm x):=Ce h
theorem Hl (t:TypeId) (x y:Operand) {n:Nat} (h:aV P t=some n):(aq P ⟨d,.store t x y,ty,pos,af,g⟩).run tm H=fC H n (ev tm y) (ev tm x):=Ce h
theorem Rr (op:BinOp) (t:TypeId) (x y:Operand) (c:TypeId):(aq P ⟨d,.binOp op t x y c,ty,pos,af,g⟩).run tm H=bL H (aU P t) op (fA op) (ev tm x) (ev tm y) (ax P tm H ⟨d,.binOp op t x y c,ty,pos,af,g⟩):=rfl
theorem Tk (f:Operand) (as:Array Operand) (ts:Array TypeId):(aq P ⟨d,.call ⟨.value f,as,ts⟩,ty,pos,af,g⟩).run tm H=kg P (ev tm f) (evs as.toList tm):=rfl
theorem Uv (x:Operand) (t:TypeId) {k:Nat} (h:ez P t=some k):(aq P ⟨d,.call ⟨.builtin .len,#[x],#[t]⟩,ty,pos,af,g⟩).run tm H=cS H k (ev tm x):=Ce h
theorem Ma:evs [] tm=[]:=rfl
theorem Dr (x:Operand) (l:List Operand):evs (x::l) tm=ev tm x::evs l tm:=rfl
end
section
variable {H:Hp} {alt:ae}
structure Fr (X:Nat→Prop) (H H':Hp):Prop where
 nx:H.nx≤H'.nx
 get:∀ i,i<H.nx→¬X i→H'.get i=H.get i
 log:∃ l,H'.log=l++H.log∧∀ i∈l,H.nx≤i∨X i
abbrev Gr (H H':Hp):Prop:=Fr (fun _=>False) H H'
theorem Fr.refl {X:Nat→Prop} (H:Hp):Fr X H H:=⟨Nat.le_refl _,fun _ _ _=>rfl,[],rfl,fun _ h=>by cases h⟩
theorem Fr.trans {X:Nat→Prop} {H1 H2 H3:Hp} (h:Fr X H1 H2) (k:Fr (fun i=>H1.nx≤i∨X i) H2 H3):Fr X H1 H3 where
 nx:=Nat.le_trans h.nx k.nx
 get:=fun i hi hx=>by rw[k.get i (Nat.lt_of_lt_of_le hi h.nx) (fun h=>h.elim (by omega) hx),h.get i hi hx]
 log:=by
  obtain ⟨l,e,hl⟩:=h.log
  obtain ⟨l',e',hl'⟩:=k.log
  refine ⟨l'++l,by rw[e',e,List.append_assoc],fun i hi=>?_⟩
  rcases List.mem_append.1 hi with hi|hi
  ·rcases hl' i hi with h1|h1
   ·exact .inl (Nat.le_trans h.nx h1)
   ·exact h1
  ·exact hl i hi
theorem Fr.mono {X Y:Nat→Prop} {H H':Hp} (h:Fr X H H') (hxy:∀ i,X i→Y i):Fr Y H H':=⟨h.nx,fun i hi hy=>h.get i hi fun hx=>hy (hxy i hx),by
 obtain ⟨l,e,hl⟩:=h.log
 exact ⟨l,e,fun i hi=>(hl i hi).imp id (hxy i)⟩⟩
theorem Fr.then {X Y:Nat→Prop} {H1 H2 H3:Hp} (h:Fr X H1 H2) (k:Fr Y H2 H3) (hy:∀ i,Y i→H1.nx≤i∨X i):Fr X H1 H3:=h.trans (k.mono hy)
theorem Fr.gr {X:Nat→Prop} {H1 H2 H3:Hp} (h:Fr X H1 H2) (k:Gr H2 H3):Fr X H1 H3:=h.trans (k.mono fun _ h=>h.elim)
theorem Fr.new {X:Nat→Prop} {H H':Hp} (h:Fr X H H') (o:aO):Fr X H (H'.new o) where
 nx:=Nat.le_trans h.nx (Nat.le_succ _)
 get:=fun i hi hx=>by
  show (H'.t.set H'.nx o).get i=_
  rw[PT.dk,if_neg (by have:=h.nx;omega)];exact h.get i hi hx
 log:=h.log
theorem Fr.mod {X:Nat→Prop} {H H':Hp} (h:Fr X H H') {i:Nat} (o:aO) (hi:H.nx≤i∨X i):Fr X H (H'.mod i o) where
 nx:=h.nx
 get:=fun j hj hx=>by
  show (H'.t.set i o).get j=_
  have hne:j≠i:=fun e=>by subst e;exact hi.elim (by omega) hx
  rw[PT.dk,if_neg hne]
  exact h.get j hj hx
 log:=by
  obtain ⟨l,e,hl⟩:=h.log
  refine ⟨i::l,by show i::H'.log=_;rw[e];rfl,fun j hj=>?_⟩
  rcases List.mem_cons.1 hj with rfl|hj
  ·exact hi
  ·exact hl j hj
theorem Fr.none {H H':Hp} (h:Gr H H') {X:Nat→Prop}:Fr X H H':=Fr.mono h fun _ h=>h.elim
theorem Jp {β:Type} (b:Bool) (e:β) (f:Bool→β):dP (.one (.b b)) e f=f b:=rfl
end
inductive GW where
 | yes
 | no
 | lost
noncomputable def gw (g:Option (Option Tmp×Bool)) (tm:PT AV):GW:=
 match g with
 | none=>.yes
 | some (none,_)=>.no
 | some (some t,w)=>match slot tm t with|.one (.b b)=>if b=w then .yes else .no|.tup _=>.no|_=>.lost
def CN (E:Env) (H:Hp) (n:ae) (next:AV→Hp→Prop):Prop:=
 ∀ lg,N1 E ⟨H.t,H.nx,lg⟩ n fun v h'=>∀ lg',(∀ X,Fr X ⟨H.t,H.nx,lg⟩ h'→Fr X H ⟨h'.t,h'.nx,lg'⟩)→next v ⟨h'.t,h'.nx,lg'⟩
theorem CN.n1 {E:Env} {H:Hp} {n:ae} {next:AV→Hp→Prop} (h:CN E H n next):N1 E H n next:=
 let ⟨k,v,H',h1,h2⟩:=h H.log;⟨k,v,H',h1,h2 H'.log fun _ h=>h⟩
def WT (E:Env) (A:ab) (d:Option Tmp) (next:ab→Hp→Prop) (H:Hp) (n:ae):Prop:=
 match n with
 | .val v H'=>next (bD A d v) H'
 | .enter f args=>CN E H (.enter f args) fun v H'=>next (bD A d v) H'
 | .round id args=>CN E H (.round id args) fun v H'=>next (bD A d v) H'
 | _=>False
def WU (E:Env) (o:Oper) (A:ab) (H:Hp) (next:ab→Hp→Prop) (g:GW):Prop:=
 match g with
 | .yes=>WT E A o.dst next H ((aq E.P o).run A.tm H)
 | .no=>next (bD A o.dst aG) H
 | .lost=>False
def WO (E:Env) (ops:List Oper) (Q:ab→Hp→Prop):List Oper→ab→Hp→Prop
 | [],A,H=>Q A H
 | o::l,A,H=>au o.dst A.nt=true∧WU E o A H (WO E ops Q l) (gw (gOf ops o.guard) A.tm)
theorem WT.n1 {E:Env} {A:ab} {d:Option Tmp} {next:ab→Hp→Prop} {H:Hp} {n:ae} (h:WT E A d next H n):N1 E H n fun v H'=>next (bD A d v) H':=by
 cases n with
 | val v H'=>exact N1.val h
 | enter f args=>exact CN.n1 h
 | vals l=>exact h.elim
 | round id args=>exact CN.n1 h
 | bad s=>exact h.elim
theorem pr (g:Option (Option Tmp×Bool)) (tm:PT AV):(gw g tm=.yes∧∀ a b:R (ab×Hp),bC tm g a b=a)∨(gw g tm=.no∧∀ a b:R (ab×Hp),bC tm g a b=b)∨gw g tm=.lost:=by
 cases g with
 | none=>exact .inl ⟨rfl,fun _ _=>rfl⟩
 | some p=>
  obtain ⟨t,w⟩:=p
  cases t with
  | none=>exact .inr (.inl ⟨rfl,fun _ _=>rfl⟩)
  | some t=>
   have e:∀ a b:R (ab×Hp),bC tm (some (some t,w)) a b=ay (tm.get t) b fun v=>AV.rec (motive:=fun _=>R (ab×Hp)) (fun c=>acE c (fun x=>ifE x (ifE w a b) (ifE w b a)) (fun _ _=>b) (fun _=>.bad "guard")) (fun _=>b) (fun _=>b) (.bad "guard") v:=fun _ _=>rfl
   have e2:gw (some (some t,w)) tm=match slot tm t with|.one (.b b)=>if b=w then .yes else .no|.tup _=>.no|_=>.lost:=rfl
   unfold slot at e2
   cases hv:tm.get t with
   | none=>rw[hv] at e2;exact .inr (.inl ⟨e2,fun a b=>by rw[e,hv];rfl⟩)
   | some v=>
    rw[hv] at e2
    cases v with
    | one c=>
     cases c with
     | b x=>
      have e3:gw (some (some t,w)) tm=if x=w then .yes else .no:=e2
      cases x <;> cases w <;> first
       | exact .inl ⟨e3,fun a b=>by rw[e,hv];rfl⟩
       | exact .inr (.inl ⟨e3,fun a b=>by rw[e,hv];rfl⟩)
     | i _ _=>exact .inr (.inr e2)
     | o _=>exact .inr (.inr e2)
    | agg _=>exact .inr (.inr e2)
    | tup _=>exact .inr (.inl ⟨e2,fun a b=>by rw[e,hv];rfl⟩)
    | any=>exact .inr (.inr e2)
theorem WO.o1 {E:Env} {ops:List Oper} {Q:ab→Hp→Prop}:∀ {l:List Oper} {A:ab} {H:Hp},WO E ops Q l A H→O1 E (fB E.P ops l) A H Q
 | [],A,H,h=>O1.nil h
 | o::l,A,H,h=>by
  obtain ⟨hd,hg⟩:=h
  rcases pr (gOf ops o.guard) A.tm with ⟨h1,h2⟩|⟨h1,h2⟩|h1
  ·rw[h1] at hg
   obtain ⟨n,v,H1,h3,h4⟩:=WT.n1 hg
   exact O1.cons h2 hd ⟨n,v,H1,h3,WO.o1 h4⟩
  ·rw[h1] at hg
   exact O1.MH h2 hd (WO.o1 hg)
  ·rw[h1] at hg
   exact hg.elim
theorem R1.reg {E:Env} {r:Option Nat} {A:ab} {H:Hp} {Q:aE→ab→Hp→Prop} {id:Nat} {ops:Array Oper} (h:WO E ops.toList (fun A H=>Q .normal A H) ops.toList A H):R1 E r (.region id ops false) A H Q:=R1.region h.o1
theorem C1.body {E:Env} {H:Hp} {f:FuncId} {fn:Func} {c:Code} {nt:Nat} {res:List ResultVar} {args:List AV} {Q:AV→Hp→Prop} (hf:E.P.funcs[f]?=some fn) (hb:fn.body=some c) (hnt:fn.ntmps=nt) (hres:fn.results.toList=res) (hn:Nat.ble args.length nt=true) (hn2:Nat.ble nt 1048576=true)
  (h:∀ tm,(∀ i v,args[i]?=some v→slot tm i=v)→R1 E none c ⟨tm,nt,[]⟩ H fun e A' H'=>∃ v H2,ao E res (e,A',H')=.ok [(v,H2)]∧Q v H2):C1 E f args H Q:=by
 subst hnt hres
 have h1:args.length≤fn.ntmps:=Nat.le_of_ble_eq_true hn
 have h2:fn.ntmps≤1048576:=Nat.le_of_ble_eq_true hn2
 refine C1.Ti hf hb h1 h2 (h _ fun i v hv=>?_)
 rw[Mv _ _ (by omega),hv];rfl
theorem Ed {E:Env} {t:Tmp} {A:ab} {H:Hp} {e:aE} {v:AV} {x:Bool×List AC} (he:e=.normal∨e=.ret) (hd:A.dfr=[]) (hv:slot A.tm t=v) (hx:fl v=some x):ao E [.tmp t] (e,A,H)=.ok [(dm [x],H)]:=by
 have key:(ay (closeAll H A.dfr) (R.bad "marks") fun h2=>ay (bj E.P [.tmp t] A.tm h2) (.bad "results") fun l=>.ok [(dm l,h2)])=.ok [(dm [x],H)]:=by
  rw[hd]
  have hs:(A.tm.get t)=none∨∃ u,A.tm.get t=some u∧u=v:=by
   unfold slot at hv
   cases hg:A.tm.get t with
   | none=>exact .inl rfl
   | some u=>rw[hg] at hv;exact .inr ⟨u,rfl,hv⟩
  have hr:bj E.P [.tmp t] A.tm H=some [x]:=by
   show ay (ay (A.tm.get t) none fl) none (fun x=>ay (some []) none fun l=>some (x::l))=some [x]
   rcases hs with h|⟨u,h,rfl⟩
   ·exfalso
    unfold slot at hv
    rw[h] at hv
    have hv':aG=v:=hv
    rw[←hv'] at hx
    cases hx
   ·rw[h]
    show ay (fl u) none (fun x=>some [x])=_
    rw[hx];rfl
  show ay (bj E.P [.tmp t] A.tm H) (R.bad "results") (fun l=>R.ok [(dm l,H)])=_
  rw[hr];rfl
 rcases he with rfl|rfl
 ·exact key
 ·exact key
section
variable {H:Hp} {id g off lim n fo:Nat}
theorem pQ (h1:1≤n) (h2:fo+n≤lim):dF H fo n (.one (.o (.ptr id g off lim)))=.val (.one (.o (.ptr id g (off+fo) (lim - fo)))) H:=by
 show aK (both (Nat.ble 1 n) (Nat.ble (Nat.add fo n) lim)) _ _=_
 have e1:Nat.ble 1 n=true:=Nat.ble_eq_true_of_le h1
 have e2:Nat.ble (Nat.add fo n) lim=true:=Nat.ble_eq_true_of_le h2
 rw[e1,e2];rfl
theorem AN {len sz i:Nat} (h:i<len):bR H sz (.one (.o (.sl id g off len sz))) (.one (.i .i64 (.ofNat i)))=.val (.one (.o (.ptr id g (off+i*sz) sz))) H:=by
 show aK (both (Nat.beq sz sz) (Nat.blt i len)) _ _=_
 have e1:Nat.beq sz sz=true:=Nat.beq_refl _
 have e2:Nat.blt i len=true:=Nat.ble_eq_true_of_le h
 rw[e1,e2];rfl
theorem cX {len sz i:Nat} (h:i<len):bR H sz (.one (.o (.sl id g off len sz))) (.one (.i .i64 (i:Int)))=.val (.one (.o (.ptr id g (off+i*sz) sz))) H:=AN h
noncomputable def rowOf (o:Option aO) (g:Nat):Option (List AC):=
 match o with
 | some (.arr cells _ lo gen)=>if lo≤g∧g≤gen then some cells else none
 | some (.ro cells)=>if g=0 then some cells else none
 | _=>none
theorem bm {cells:List AC} {e:TypeId} {lo gen g:Nat} (h1:lo≤g) (h2:g≤gen):rowOf (some (.arr cells e lo gen)) g=some cells:=if_pos ⟨h1,h2⟩
theorem Ft {cells:List AC}:rowOf (some (.ro cells)) 0=some cells:=rfl
theorem JB (o:Option aO) (g off lim n:Nat):rdO o g off lim n=(rowOf o g).bind fun cells=>if n≤lim∧off+n≤cells.length then some ((cells.drop off).take n) else none:=by
 cases o with
 | none=>rfl
 | some o=>
  cases o with
  | arr cells e lo gen=>
   show ifE (both (Nat.ble lo g) (both (Nat.ble g gen) (both (Nat.ble n lim) (Nat.ble (Nat.add off n) (bE cells))))) (some (cut cells off n)) none=(if lo≤g∧g≤gen then some cells else none).bind _
   simp only[bV,cO,bq,kB,Bool.and_eq_true,Nat.ble_eq]
   by_cases h1:lo≤g∧g≤gen
   ·rw[if_pos h1]
    by_cases h2:n≤lim∧off+n≤cells.length
    ·rw[if_pos ⟨h1.1,h1.2,h2.1,h2.2⟩];simp only[Option.bind_some,if_pos h2]
    ·rw[if_neg fun h=>h2 ⟨h.2.2.1,h.2.2.2⟩];simp only[Option.bind_some,if_neg h2]
   ·rw[if_neg h1,if_neg fun h=>h1 ⟨h.1,h.2.1⟩];rfl
  | oth x=>rfl
  | ro cells=>
   show ifE (both (Nat.beq g 0) (both (Nat.ble n lim) (Nat.ble (Nat.add off n) (bE cells)))) (some (cut cells off n)) none=(if g=0 then some cells else none).bind _
   simp only[bV,cO,bq,kB,Bool.and_eq_true,Nat.ble_eq,Nat.beq_eq]
   by_cases h1:g=0
   ·rw[if_pos h1]
    by_cases h2:n≤lim∧off+n≤cells.length
    ·rw[if_pos ⟨h1,h2.1,h2.2⟩];simp only[Option.bind_some,if_pos h2]
    ·rw[if_neg fun h=>h2 ⟨h.2.1,h.2.2⟩];simp only[Option.bind_some,if_neg h2]
   ·rw[if_neg h1,if_neg fun h=>h1 h.1];rfl
def Rd (H:Hp) (id g off n:Nat) (c:List AC):Prop:=∃ cells,rowOf (H.get id) g=some cells∧off+n≤cells.length∧(cells.drop off).take n=c
theorem Rd.len {c:List AC} (h:Rd H id g off n c):c.length=n:=by
 obtain ⟨cells,h1,h4,rfl⟩:=h
 simp
 omega
theorem Rd.part {c:List AC} (h:Rd H id g off n c) (i k:Nat) (hk:i+k≤n):Rd H id g (off+i) k ((c.drop i).take k):=by
 obtain ⟨cells,h1,h4,rfl⟩:=h
 refine ⟨cells,h1,by omega,?_⟩
 rw[List.drop_take,List.drop_drop,List.take_take]
 congr 1
 omega
theorem Rd.dJ {c:List AC} {H':Hp} (h:Rd H id g off n c) (hg:H'.get id=H.get id):Rd H' id g off n c:=by
 obtain ⟨cells,h1,r⟩:=h
 exact ⟨cells,by rw[hg];exact h1,r⟩
theorem He (o:aO) (i:Nat):(H.new o).get i=if i=H.nx then some o else H.get i:=PT.dk _ _ _ _
theorem Gu (o:aO) (k i:Nat):(H.mod k o).get i=if i=k then some o else H.get i:=PT.dk _ _ _ _
end
section
variable {H:Hp} {kd:Nat} {alt:ae} {a b:List UInt8} {x y:Int}
theorem Oq {f:BF}:bL H kd .lss f (.one (.o (.str a))) (.one (.o (.str b))) alt=.val (.one (.b (iH a b))) H:=rfl
theorem Po {f:BF}:bL H kd .geq f (.one (.o (.str a))) (.one (.o (.str b))) alt=.val (.one (.b (!iH a b))) H:=rfl
theorem RZ {f:BF}:bL H kd .leq f (.one (.o (.str a))) (.one (.o (.str b))) alt=.val (.one (.b (iH a b||lEq a b))) H:=rfl
theorem Oh {f:BF}:bL H kd .gtr f (.one (.o (.str a))) (.one (.o (.str b))) alt=.val (.one (.b (!(iH a b||lEq a b)))) H:=rfl
theorem Qy {f:BF}:bL H kd .eql f (.one (.o (.str a))) (.one (.o (.str b))) alt=.val (.one (.b (lEq a b))) H:=rfl
theorem PV {f:BF}:bL H kd .neq f (.one (.o (.str a))) (.one (.o (.str b))) alt=.val (.one (.b (!lEq a b))) H:=rfl
theorem Qp {k:IntKind}:bL H kd .lss (fA .lss) (.one (.i k x)) (.one (.i k y)) alt=.val (.one (.b (decide (x<y)))) H:=by
 have e:bL H kd .lss (fA .lss) (.one (.i k x)) (.one (.i k y)) alt=.val (.one (.b (!iLe y x))) H:=by cases k <;> rfl
 rw[e,tE];congr 3;rw[Bool.eq_iff_iff];simp
theorem QH {k:IntKind}:bL H kd .leq (fA .leq) (.one (.i k x)) (.one (.i k y)) alt=.val (.one (.b (decide (x≤y)))) H:=by
 have e:bL H kd .leq (fA .leq) (.one (.i k x)) (.one (.i k y)) alt=.val (.one (.b (iLe x y))) H:=by cases k <;> rfl
 rw[e,tE]
theorem Pd {k:IntKind}:bL H kd .gtr (fA .gtr) (.one (.i k x)) (.one (.i k y)) alt=.val (.one (.b (decide (y<x)))) H:=by
 have e:bL H kd .gtr (fA .gtr) (.one (.i k x)) (.one (.i k y)) alt=.val (.one (.b (!iLe x y))) H:=by cases k <;> rfl
 rw[e,tE];congr 3;rw[Bool.eq_iff_iff];simp
theorem Qo {k:IntKind}:bL H kd .geq (fA .geq) (.one (.i k x)) (.one (.i k y)) alt=.val (.one (.b (decide (y≤x)))) H:=by
 have e:bL H kd .geq (fA .geq) (.one (.i k x)) (.one (.i k y)) alt=.val (.one (.b (iLe y x))) H:=by cases k <;> rfl
 rw[e,tE]
theorem RK {k:IntKind}:bL H kd .eql (fA .eql) (.one (.i k x)) (.one (.i k y)) alt=.val (.one (.b (x==y))) H:=by
 have e:bL H kd .eql (fA .eql) (.one (.i k x)) (.one (.i k y)) alt=.val (.one (.b (iEq x y))) H:=by cases k <;> rfl
 rw[e,rh]
theorem Qu {k:IntKind}:bL H kd .neq (fA .neq) (.one (.i k x)) (.one (.i k y)) alt=.val (.one (.b (!(x==y)))) H:=by
 have e:bL H kd .neq (fA .neq) (.one (.i k x)) (.one (.i k y)) alt=.val (.one (.b (!iEq x y))) H:=by cases k <;> rfl
 rw[e,rh]
theorem RN {k:IntKind}:bL H kd .add (fA .add) (.one (.i k x)) (.one (.i k y)) alt=.val (.one (.i k (k.wrap (x+y)))) H:=by
 have e:bL H kd .add (fA .add) (.one (.i k x)) (.one (.i k y)) alt=.val (.one (.i k (ql k (Int.add x y)))) H:=by cases k <;> rfl
 rw[e,oO];rfl
theorem PR {k:IntKind}:bL H kd .sub (fA .sub) (.one (.i k x)) (.one (.i k y)) alt=.val (.one (.i k (k.wrap (x - y)))) H:=by
 have e:bL H kd .sub (fA .sub) (.one (.i k x)) (.one (.i k y)) alt=.val (.one (.i k (ql k (Int.sub x y)))) H:=by cases k <;> rfl
 rw[e,oO];rfl
theorem Pc {k:IntKind}:bL H kd .mul (fA .mul) (.one (.i k x)) (.one (.i k y)) alt=.val (.one (.i k (k.wrap (x*y)))) H:=by
 have e:bL H kd .mul (fA .mul) (.one (.i k x)) (.one (.i k y)) alt=.val (.one (.i k (ql k (Int.mul x y)))) H:=by cases k <;> rfl
 rw[e,oO];rfl
end
theorem ak {E:Env} {t:Tmp} {A:ab} {H:Hp} {e:aE} (c:AC) (he:e=.normal∨e=.ret) (hd:A.dfr=[]) (hv:slot A.tm t=.one c):ao E [.tmp t] (e,A,H)=.ok [(.one c,H)]:=Ed he hd hv rfl
theorem eu:∀ us:List Did,ee us []=true
 | []=>rfl
 | u::us=>by
  show both (vu u.hin []) (ee us [])=true
  rw[eu us];rfl
section
variable {E:Env} {A:ab} {H:Hp} {Q:ab→Hp→Prop} {g:Option (Option Tmp×Bool)} {d:Option Tmp} {f:SF} {o:Oper} {l:List OF} {j m:Nat} {ms:List Nat} {did:List Did}
theorem D1.nil {j:Nat} {ms:List Nat} (h:Q A H):D1 E [] j ms did A H Q:=⟨0,A,H,rfl,h⟩
theorem D1.cons (hg:∀ y n:R (ab×Hp),bC A.tm g y n=y) (hd:au d A.nt=true) {sub:PT aO} (hsub:aI H.t H.nx A.tm o (aF m did)=sub)
  (h:N1 E ⟨sub,H.nx,[]⟩ (f.run A.tm ⟨sub,H.nx,[]⟩) fun v H'=>ee (aF m did) (da sub H.nx H'.log)=true ∧
   D1 E l (j+1) ms (note (bh o) j sub H H' did (da sub H.nx H'.log)) (bD A d v) ⟨cR (bh o) H H' (aF m did) (da sub H.nx H'.log),H'.nx,da sub H.nx H'.log++H.log⟩ Q):
  D1 E (⟨g,d,f,o⟩::l) j (m::ms) did A H Q:=by
 subst hsub
 obtain ⟨n,v,H1,h1,hf,k,A2,H2,h2,h3⟩:=h
 refine ⟨max n k,A2,H2,?_,h3⟩
 have a1:=qF (E:=E) (fD E (Nat.le_max_left n k)) _ h1
 have a2:=mX (E:=E) (fD E (Nat.le_max_right n k)) l (j+1) ms _ (bD A d v) _ _ h2
 show bC A.tm g (ud (bh o) j A d H (aI H.t H.nx A.tm o (aF m did)) (aF m did) did (cW E (eval E (max n k)) l (Nat.add j 1) ms) (ig E (eval E (max n k)) ⟨aI H.t H.nx A.tm o (aF m did),H.nx,[]⟩ (f.run A.tm ⟨aI H.t H.nx A.tm o (aF m did),H.nx,[]⟩)))
  (fK A d aG H (cW E (eval E (max n k)) l (Nat.add j 1) ms did))=_
 rw[hg,a1]
 show Eng.ifE (ee (aF m did) (da (aI H.t H.nx A.tm o (aF m did)) H.nx H1.log)) (fK A d v _ (cW E (eval E (max n k)) l (Nat.add j 1) ms _)) _=_
 rw[hf]
 show fK A d v _ (cW E (eval E (max n k)) l (Nat.add j 1) ms _)=_
 rw[mN hd]
 exact a2
theorem D1.skip (hg:∀ y n:R (ab×Hp),bC A.tm g y n=n) (hd:au d A.nt=true) (h:D1 E l (j+1) ms did (bD A d aG) H Q):D1 E (⟨g,d,f,o⟩::l) j (m::ms) did A H Q:=by
 obtain ⟨k,A2,H2,h2,h3⟩:=h
 refine ⟨k,A2,H2,?_,h3⟩
 show bC A.tm g _ (fK A d aG H (cW E (eval E k) l (Nat.add j 1) ms did))=_
 rw[hg,mN hd]
 exact h2
theorem D1.pure (hg:∀ y n:R (ab×Hp),bC A.tm g y n=y) (hd:au d A.nt=true) (hk:bh o=0) {v:AV} (hv:f.run A.tm ⟨.leaf,H.nx,[]⟩=.val v ⟨.leaf,H.nx,[]⟩)
  (h:D1 E l (j+1) ms did (bD A d v) H Q):D1 E (⟨g,d,f,o⟩::l) j (m::ms) did A H Q:=by
 have hs:aI H.t H.nx A.tm o (aF m did)=.leaf:=by unfold aI;rw[hk];rfl
 refine D1.cons hg hd hs ?_
 rw[hv]
 refine N1.val ⟨eu _,?_⟩
 rw[hk]
 have e1:note 0 j .leaf H ⟨.leaf,H.nx,[]⟩ did (da .leaf H.nx [])=did:=by
  show Eng.ifE (both true (Nat.beq H.nx H.nx)) did _=did
  rw[Nat.beq_refl];rfl
 have e2:cR 0 H ⟨.leaf,H.nx,[]⟩ (aF m did) (da .leaf H.nx [])=H.t:=by
  show cr H.t .leaf (cK H.nx (H.nx - H.nx))=H.t
  rw[Nat.sub_self];rfl
 rw[e1,e2]
 exact h
def made (j nx:Nat):Did:=⟨j,.leaf,nx,nx+1,[]⟩
theorem D1.make (hg:∀ y n:R (ab×Hp),bC A.tm g y n=y) (hd:au d A.nt=true) (hk:bh o=0) {v:AV} {x:aO} (hv:f.run A.tm ⟨.leaf,H.nx,[]⟩=.val v (Hp.new ⟨.leaf,H.nx,[]⟩ x))
  (h:D1 E l (j+1) ms (made j H.nx::did) (bD A d v) (H.new x) Q):D1 E (⟨g,d,f,o⟩::l) j (m::ms) did A H Q:=by
 have hs:aI H.t H.nx A.tm o (aF m did)=.leaf:=by unfold aI;rw[hk];rfl
 refine D1.cons hg hd hs ?_
 rw[hv]
 refine N1.val ⟨eu _,?_⟩
 rw[hk]
 have hne:Nat.beq H.nx (H.nx+1)=false:=by
  cases hb:Nat.beq H.nx (H.nx+1) with
  | false=>rfl
  | true=>have:=Nat.eq_of_beq_eq_true hb;omega
 have e1:note 0 j .leaf H (Hp.new ⟨.leaf,H.nx,[]⟩ x) did (da .leaf H.nx [])=made j H.nx::did:=by
  show Eng.ifE (both true (Nat.beq H.nx (H.nx+1))) did _=_
  rw[hne];rfl
 have e2:cR 0 H (Hp.new ⟨.leaf,H.nx,[]⟩ x) (aF m did) (da .leaf H.nx [])=H.t.set H.nx x:=by
  show cr H.t ((PT.leaf:PT aO).set H.nx x) (cK H.nx (H.nx+1 - H.nx))=_
  have:H.nx+1 - H.nx=1:=by omega
  rw[this]
  show PT.put (((PT.leaf:PT aO).set H.nx x).get H.nx) H.t H.nx=_
  rw[PT.dk,if_pos rfl];rfl
 have e3:da .leaf H.nx (Hp.new ⟨.leaf,H.nx,[]⟩ x).log=[]:=rfl
 rw[e3]
 have e4:note 0 j .leaf H (Hp.new ⟨.leaf,H.nx,[]⟩ x) did []=made j H.nx::did:=e1
 have e5:cR 0 H (Hp.new ⟨.leaf,H.nx,[]⟩ x) (aF m did) []=H.t.set H.nx x:=e2
 rw[e4,e5]
 exact h
def looked (j nx:Nat) (sub:PT aO):Did:=⟨j,sub,nx,nx,[]⟩
theorem D1.look (hg:∀ y n:R (ab×Hp),bC A.tm g y n=y) (hd:au d A.nt=true) (hk:bh o=1) {v:AV}
  (hv:f.run A.tm ⟨aI H.t H.nx A.tm o (aF m did),H.nx,[]⟩=.val v ⟨aI H.t H.nx A.tm o (aF m did),H.nx,[]⟩)
  (h:∀ sub,aI H.t H.nx A.tm o (aF m did)=sub→D1 E l (j+1) ms (looked j H.nx sub::did) (bD A d v) H Q):D1 E (⟨g,d,f,o⟩::l) j (m::ms) did A H Q:=by
 refine D1.cons hg hd rfl ?_
 rw[hv]
 refine N1.val ⟨eu _,?_⟩
 rw[hk]
 have e2:cR 1 H ⟨aI H.t H.nx A.tm o (aF m did),H.nx,[]⟩ (aF m did) (da (aI H.t H.nx A.tm o (aF m did)) H.nx [])=H.t:=by
  show cr H.t _ ([]++cK H.nx (H.nx - H.nx))=H.t
  rw[Nat.sub_self];rfl
 rw[e2]
 exact h _ rfl
end
theorem rQ {t:PT aO} {i:Nat}:∀ {l:List Nat},i∈l→i∈ed t l
 | [],h=>by cases h
 | x::l,h=>by
  unfold ed
  rcases List.mem_cons.1 h with rfl|h
  ·split <;> exact List.mem_cons_self ..
  ·have ih:=rQ (t:=t) h
   split
   ·exact List.mem_cons_of_mem _ (List.mem_cons_of_mem _ ih)
   ·exact List.mem_cons_of_mem _ ih
theorem jf {src:PT aO} {id:Nat}:∀ {l:List Nat} {t:PT aO},(cr t src l).get id=if id∈l then src.get id else t.get id
 | [],t=>by simp[cr]
 | i::l,t=>by
  unfold cr
  rw[jf]
  by_cases hl:id∈l
  ·rw[if_pos hl,if_pos (List.mem_cons_of_mem _ hl)]
  ·rw[if_neg hl,PT.oV]
   by_cases hi:id=i
   ·subst hi;rw[if_pos rfl,if_pos (List.mem_cons_self ..)]
   ·rw[if_neg hi,if_neg fun hh=>(List.mem_cons.1 hh).elim hi hl]
theorem ss {id:Nat}:∀ {l:List Nat} {t:PT aO},(jm t l).get id=if id∈l then none else t.get id
 | [],t=>by simp[jm]
 | i::l,t=>by
  unfold jm
  rw[ss]
  by_cases hl:id∈l
  ·rw[if_pos hl,if_pos (List.mem_cons_of_mem _ hl)]
  ·rw[if_neg hl]
   show (PT.put none t i).get id=_
   rw[PT.oV]
   by_cases hi:id=i
   ·subst hi;rw[if_pos rfl,if_pos (List.mem_cons_self ..)]
   ·rw[if_neg hi,if_neg fun hh=>(List.mem_cons.1 hh).elim hi hl]
structure DSy where
 idx:Nat
 at?:Option Nat
 c0:Nat
 c1:Nat
 wr:List Nat
def DSy.of (s:DSy) (u:Did):Prop:=u.idx=s.idx∧u.c0=s.c0∧u.c1=s.c1∧u.wr=s.wr∧∀ k,s.at?=some k→∀ i,i≠k→u.hin.get i=none
inductive DSs:List DSy→List Did→Prop
 | nil:DSs [] []
 | cons {s u l l'}:s.of u→DSs l l'→DSs (s::l) (u::l')
def aM (m:Nat):List DSy→List DSy
 | []=>[]
 | s::l=>if Nat.testBit m s.idx=true then aM m l else s::aM m l
theorem fX {m:Nat}:∀ {l:List DSy} {l':List Did},DSs l l'→DSs (aM m l) (aF m l')
 | _,_,.nil=>.nil
 | _,_,.cons (s:=s) (u:=u) (l:=l) (l':=l') h h2=>by
  have e:aF m (u::l')=ifE (Nat.testBit m u.idx) (aF m l') (u::aF m l'):=rfl
  rw[e,h.1]
  unfold aM
  cases hb:Nat.testBit m s.idx with
  | true=>rw[if_pos rfl];exact fX h2
  | false=>rw[if_neg (by decide)];exact .cons h (fX h2)
def bw (id:Nat):List DSy→Prop
 | []=>True
 | s::l=>(id∉s.wr∧(id<s.c0∨s.c1≤id))∧bw id l
def bJ (id:Nat):List DSy→Prop
 | []=>True
 | s::l=>(∃ k,s.at?=some k∧id≠k)∧bJ id l
theorem bw.of {id:Nat}:∀ {l:List DSy} {l':List Did},DSs l l'→bw id l→∀ u∈l',bW u id=false
 | _,_,.nil,_,u,hu=>by cases hu
 | _,_,.cons (s:=s) (u:=u) h h2,⟨h3,h4⟩,v,hv=>by
  rcases List.mem_cons.1 hv with rfl|hv
  ·obtain ⟨_,a,b,c,_⟩:=h
   unfold bW
   rw[a,b,c]
   have e1:DD s.wr id=false:=by
    cases hm:DD s.wr id with
    | false=>rfl
    | true=>exact absurd (kh.1 hm) h3.1
   rw[e1]
   rcases h3.2 with h|h
   ·have:Nat.ble s.c0 id=false:=by
     cases hb:Nat.ble s.c0 id with
     | false=>rfl
     | true=>have:=Nat.le_of_ble_eq_true hb;omega
    rw[this];rfl
   ·have:Nat.blt id s.c1=false:=by
     cases hb:Nat.blt id s.c1 with
     | false=>rfl
     | true=>have:id<s.c1:=Nat.le_of_ble_eq_true hb;omega
    rw[this];simp
  ·exact bw.of h2 h4 v hv
theorem bJ.of {id:Nat}:∀ {l:List DSy} {l':List Did},DSs l l'→bJ id l→ee l' [id]=true
 | _,_,.nil,_=>rfl
 | _,_,.cons (s:=s) (u:=u) (l':=l') h h2,⟨⟨k,h3,h5⟩,h4⟩=>by
  show both (vu u.hin [id]) (ee l' [id])=true
  rw[bJ.of h2 h4]
  have e:u.hin.get id=none:=h.2.2.2.2 k h3 id h5
  have e2:vu u.hin [id]=true:=by
   show ay (u.hin.get id) true (fun _=>false)=true
   rw[e];rfl
  rw[e2];rfl
def qO (v:AV) (P:Nat→Prop):Prop:=
 match v with
 | .one (.o (.ptr id _ _ _))=>P id
 | _=>False
def cV (P:AV→Hp→Prop) (n:ae):Prop:=
 match n with
 | .val v H=>P v H
 | _=>False
def Eo (k:Option Nat) (v:AV) (P:Option Nat→AV→Prop):Prop:=
 match k,v with
 | some 0,.one (.o (.str s))=>P (some 0) (BK (IJ s))
 | some 1,.one (.o (.sl _ _ _ n _))=>P none (BK n)
 | some 1,.one (.o .nilS)=>P none (BK 0)
 | _,_=>False
theorem Dk {id g off lim:Nat} {P:Nat→Prop}:qO (.one (.o (.ptr id g off lim))) P=P id:=rfl
theorem CP {P:AV→Hp→Prop} {v:AV} {H:Hp}:cV P (.val v H)=P v H:=rfl
def DP (j:Nat) (did:List DSy) (A:ab) (d:Option Tmp) (H:Hp) (next:List DSy→ab→Hp→Prop) (n:ae):Prop:=
 (∃ v,n=.val v ⟨.leaf,H.nx,[]⟩∧next did (bD A d v) H)∨(∃ v x,n=.val v (Hp.new ⟨.leaf,H.nx,[]⟩ x)∧next (⟨j,some 0,H.nx,H.nx+1,[]⟩::did) (bD A d v) (H.new x))
theorem OM {j:Nat} {did:List DSy} {A:ab} {d:Option Tmp} {H:Hp} {next:List DSy→ab→Hp→Prop} {v:AV}:DP j did A d H next (.val v ⟨.leaf,H.nx,[]⟩)=next did (bD A d v) H:=by
 apply propext
 constructor
 ·rintro (⟨w,h,k⟩|⟨w,x,h,k⟩)
  ·cases h;exact k
  ·injection h with h1 h2
   have:H.nx=H.nx+1:=congrArg Hp.nx h2
   omega
 ·exact fun h=>.inl ⟨v,rfl,h⟩
theorem RR {j:Nat} {did:List DSy} {A:ab} {d:Option Tmp} {H:Hp} {next:List DSy→ab→Hp→Prop} {v:AV} {x:aO}:DP j did A d H next (.val v (Hp.new ⟨.leaf,H.nx,[]⟩ x))=next (⟨j,some 0,H.nx,H.nx+1,[]⟩::did) (bD A d v) (H.new x):=by
 apply propext
 constructor
 ·rintro (⟨w,h,k⟩|⟨w,y,h,k⟩)
  ·injection h with h1 h2
   have:H.nx+1=H.nx:=congrArg Hp.nx h2
   omega
  ·injection h with h1 h2
   subst h1
   have h3:(PT.leaf:PT aO).set H.nx x=(PT.leaf:PT aO).set H.nx y:=congrArg Hp.t h2
   have h4:=congrArg (fun t=>PT.get t H.nx) h3
   have h5:(some x:Option aO)=some y:=by
    have e1:=PT.dk (PT.leaf:PT aO) H.nx H.nx x
    have e2:=PT.dk (PT.leaf:PT aO) H.nx H.nx y
    rw[if_pos rfl] at e1 e2
    exact e1.symm.trans (h4.trans e2)
   cases h5;exact k
 ·exact fun h=>.inr ⟨v,x,rfl,h⟩
def DC (E:Env) (j m:Nat) (did:List DSy) (A:ab) (d:Option Tmp) (H:Hp) (next:List DSy→ab→Hp→Prop) (n:ae):Prop:=
 match n with
 | .enter f args=>∀ h:Hp,h.nx=H.nx→(∀ i,i<H.nx→bw i (aM m did)→h.get i=H.get i)→((∀ i,H.nx≤i→H.get i=none)→∀ i,H.nx≤i→h.get i=none) →
   N1 E h (.enter f args) fun v h'=>Gr h h'∧∀ H':Hp,H'.nx=h'.nx→H'.log=H.log→(∀ i,i<H.nx→H'.get i=H.get i)→(∀ i,H.nx≤i→H'.get i=h'.get i) →
    next (⟨j,none,H.nx,h'.nx,[]⟩::did) (bD A d v) H'
 | _=>False
def AP (j m:Nat) (did:List DSy) (A:ab) (d:Option Tmp) (H:Hp) (next:List DSy→ab→Hp→Prop) (ids:List Nat) (r:Hp→ae):Prop:=
 (∀ id∈ids,id<H.nx∧bw id (aM m did)) ∧
  ((∃ v c,(∀ h:Hp,h.nx=H.nx→(∀ id∈ids,h.get id=H.get id)→r h=.val v (h.new c))∧next (⟨j,none,H.nx,H.nx+1,[]⟩::did) (bD A d v) (H.new c)) ∨
    (∃ v,(∀ h:Hp,h.nx=H.nx→(∀ id∈ids,h.get id=H.get id)→r h=.val v h)∧next (⟨j,none,H.nx,H.nx,[]⟩::did) (bD A d v) H))
def DK (E:Env) (o:Oper) (j m:Nat) (did:List DSy) (A:ab) (H:Hp) (next:List DSy→ab→Hp→Prop):Prop:=
 match o.op with
 | .load _ x=>qO (ev A.tm x) fun id=>id<H.nx∧bw id (aM m did)∧cV (fun v H'=>next (⟨j,some id,H.nx,H.nx,[]⟩::did) (bD A o.dst v) H') ((aq E.P o).run A.tm H)
 | .store _ a _=>qO (ev A.tm a) fun id=>id<H.nx∧bw id (aM m did)∧bJ id (aM m did)∧cV (fun v H'=>next (⟨j,none,H.nx,H.nx,[id]⟩::did) (bD A o.dst v) H') ((aq E.P o).run A.tm H)
 | .call ⟨.value _,_,_⟩=>DC E j m did A o.dst H next ((aq E.P o).run A.tm H)
 | .call ⟨.builtin .len,⟨[x]⟩,⟨[t]⟩⟩=>Eo (ez E.P t) (ev A.tm x) fun at? v=>next (⟨j,at?,H.nx,H.nx,[]⟩::did) (bD A o.dst v) H
 | .call ⟨.builtin .append,⟨[s,x]⟩,⟨[_,_]⟩⟩=>AP j m did A o.dst H next ((ev A.tm s).ids++(ev A.tm x).ids) fun h=>(aq E.P o).run A.tm h
 | _=>bh o=0∧DP j did A o.dst H next ((aq E.P o).run A.tm ⟨.leaf,H.nx,[]⟩)
def DU (E:Env) (o:Oper) (j m:Nat) (did:List DSy) (A:ab) (H:Hp) (next:List DSy→ab→Hp→Prop) (g:GW):Prop:=
 match g with
 | .yes=>DK E o j m did A H next
 | .no=>next did (bD A o.dst aG) H
 | .lost=>False
def DO (E:Env) (ops:List Oper) (Q:ab→Hp→Prop):List Oper→Nat→List Nat→List DSy→ab→Hp→Prop
 | [],_,_,_,A,H=>Q A H
 | _::_,_,[],_,_,_=>False
 | o::l,j,m::ms,did,A,H=>au o.dst A.nt=true∧DU E o j m did A H (fun did A H=>DO E ops Q l (j+1) ms did A H) (gw (gOf ops o.guard) A.tm)
theorem Cn {P:Program} {d:Option Tmp} {t:TypeId} {x:Operand} {ty:TypeId} {pos:String} {af:Array Edge} {g:Option (Nat×Bool)} {tm:PT AV} {H H':Hp} {id gn off lim:Nat} {v:AV}
  (hx:ev tm x=.one (.o (.ptr id gn off lim))) (h:(aq P ⟨d,.load t x,ty,pos,af,g⟩).run tm H=.val v H'):
  H'=H∧(∀ o,H.get id≠some (.oth o))∧∀ h:Hp,h.get id=H.get id→(aq P ⟨d,.load t x,ty,pos,af,g⟩).run tm h=.val v h:=by
 cases ht:loadT P t with
 | none=>
  have e:∀ h,(aq P ⟨d,.load t x,ty,pos,af,g⟩).run tm h=.bad "load" ∨ ∃ w,(aq P ⟨d,.load t x,ty,pos,af,g⟩).run tm h=.bad w:=fun h=>.inr (by
   show ∃ w,(ndF (loadT P t) _ _).run tm h=_
   rw[ht];exact ⟨_,rfl⟩)
  rcases e H with e|⟨w,e⟩ <;> (rw[e] at h;cases h)
 | some p=>
  have e:∀ h:Hp,(aq P ⟨d,.load t x,ty,pos,af,g⟩).run tm h=nd (eL h id gn off lim p.2) "load - cells" fun c=>ifE p.1 (.val (.agg c) h) (List.rec (motive:=fun _=>ae) (.bad "load - no cell") (fun x _ _=>.val (.one x) h) c):=fun h=>by
   rw[LX t x ht,hx];rfl
  rw[e H] at h
  cases hr:eL H id gn off lim p.2 with
  | none=>rw[hr] at h;cases h
  | some c=>
   rw[hr] at h
   have h':ifE p.1 (ae.val (.agg c) H) (List.rec (motive:=fun _=>ae) (.bad "load - no cell") (fun x _ _=>.val (.one x) H) c)=.val v H':=h
   have key:H'=H∧∀ k:Hp,ifE p.1 (ae.val (.agg c) k) (List.rec (motive:=fun _=>ae) (.bad "load - no cell") (fun x _ _=>.val (.one x) k) c)=.val v k:=by
    cases hb:p.1 with
    | true=>
     rw[hb] at h'
     injection h' with h1 h2
     exact ⟨h2.symm,fun k=>by rw[←h1];rfl⟩
    | false=>
     rw[hb] at h'
     cases c with
     | nil=>cases h'
     | cons y c=>
      injection h' with h1 h2
      exact ⟨h2.symm,fun k=>by rw[←h1];rfl⟩
   refine ⟨key.1,?_,fun k hk=>?_⟩
   ·intro o ho
    have h3:rdO (H.get id) gn off lim p.2=some c:=hr
    rw[ho] at h3;cases h3
   ·rw[e k]
    have:eL k id gn off lim p.2=some c:=by
     rw[←hr];unfold eL;rw[hk]
    rw[this]
    exact key.2 k
theorem wS {P:Program} {d:Option Tmp} {t:TypeId} {a x:Operand} {ty:TypeId} {pos:String} {af:Array Edge} {g:Option (Nat×Bool)} {tm:PT AV} {H H':Hp} {id gn off lim:Nat} {v:AV}
  (hx:ev tm a=.one (.o (.ptr id gn off lim))) (h:(aq P ⟨d,.store t a x,ty,pos,af,g⟩).run tm H=.val v H'):
  ∃ o,H'=H.mod id o∧(∃ k,H.get id=some k)∧∀ h:Hp,h.get id=H.get id→(aq P ⟨d,.store t a x,ty,pos,af,g⟩).run tm h=.val v (h.mod id o):=by
 cases ht:aV P t with
 | none=>
  have e:∃ w,(aq P ⟨d,.store t a x,ty,pos,af,g⟩).run tm H=.bad w:=by
   show ∃ w,(ndF (aV P t) _ _).run tm H=_
   rw[ht];exact ⟨_,rfl⟩
  obtain ⟨w,e⟩:=e
  rw[e] at h;cases h
 | some n=>
  have e:∀ h:Hp,(aq P ⟨d,.store t a x,ty,pos,af,g⟩).run tm h=nk (h.get id) (.bad "store - no row") fun cells e lo gen=>
   aK (both (Nat.beq gn gen) (both (Nat.beq (bE (ev tm x).cells) n) (both (Nat.ble n lim) (both (Nat.ble (Nat.add off n) (bE cells)) (both (Nat.ble lo gen) (ev tm x).bA))))) "store - stale or of another size"
    (.val aG (h.mod id (.arr (eN cells off (ev tm x).cells) e gen gen))):=fun h=>by rw[Hl t a x ht,hx];rfl
  rw[e H] at h
  cases hg:H.get id with
  | none=>rw[hg] at h;cases h
  | some o=>
   cases o with
   | oth o=>rw[hg] at h;cases h
   | ro o=>rw[hg] at h;cases h
   | arr cells el lo gen=>
    rw[hg] at h
    have h':aK (both (Nat.beq gn gen) (both (Nat.beq (bE (ev tm x).cells) n) (both (Nat.ble n lim) (both (Nat.ble (Nat.add off n) (bE cells)) (both (Nat.ble lo gen) (ev tm x).bA))))) "store - stale or of another size"
     (.val aG (H.mod id (.arr (eN cells off (ev tm x).cells) el gen gen)))=.val v H':=h
    cases hb:both (Nat.beq gn gen) (both (Nat.beq (bE (ev tm x).cells) n) (both (Nat.ble n lim) (both (Nat.ble (Nat.add off n) (bE cells)) (both (Nat.ble lo gen) (ev tm x).bA)))) with
    | false=>rw[hb] at h';cases h'
    | true=>
     rw[hb] at h'
     injection h' with h1 h2
     refine ⟨_,h2.symm,⟨_,rfl⟩,fun k hk=>?_⟩
     rw[e k,hk]
     show aK _ _ (ae.val aG (k.mod id (.arr (eN cells off (ev tm x).cells) el gen gen)))=_
     rw[hb,←h1];rfl
theorem px {H:Hp} {tm:PT AV} {o:Oper} {us:List Did} {id:Nat} {x:Operand} (hk:bh o=1) (hx:x∈o.op.operands.toList) (hid:id∈(ev tm x).ids) (hlt:id<H.nx) (hu:∀ u∈us,bW u id=false):
  (aI H.t H.nx tm o us).get id=H.get id:=by
 have e:aI H.t H.nx tm o us=cr .leaf H.t ((ed H.t (o.op.operands.toList.flatMap fun x=>(ev tm x).ids)).filter fun i=>Nat.blt i H.nx&&!us.any (bW · i)):=by
  unfold aI;rw[hk];rfl
 rw[e,jf,if_pos]
 ·rfl
 ·rw[List.mem_filter]
  refine ⟨rQ (List.mem_flatMap.2 ⟨x,hx,hid⟩),?_⟩
  have h1:Nat.blt id H.nx=true:=Nat.ble_eq_true_of_le hlt
  have h2:us.any (bW · id)=false:=by
   rw[List.any_eq_false]
   intro u hm
   rw[hu u hm];simp
  rw[h1,h2];rfl
theorem Dm {H:Hp} {tm:PT AV} {o:Oper} {us:List Did} (hk:bh o=1) {i:Nat} (hi:i∉ed H.t (o.op.operands.toList.flatMap fun x=>(ev tm x).ids)):(aI H.t H.nx tm o us).get i=none:=by
 have e:aI H.t H.nx tm o us=cr .leaf H.t ((ed H.t (o.op.operands.toList.flatMap fun x=>(ev tm x).ids)).filter fun i=>Nat.blt i H.nx&&!us.any (bW · i)):=by
  unfold aI;rw[hk];rfl
 rw[e,jf,if_neg]
 ·rfl
 ·rw[List.mem_filter]
  exact fun h=>hi h.1
theorem Gl {t:PT aO} {id:Nat} (h:∀ o,t.get id≠some (.oth o)):ed t [id]=[id]:=by
 unfold ed
 split
 ·rename_i m a b c hq;exact absurd hq (h _)
 ·rfl
def LtS (nx:Nat) (l:List DSy):Prop:=∀ s∈l,s.c1≤nx∧∀ w∈s.wr,w<nx
theorem LtS.mono {n n':Nat} {l:List DSy} (h:LtS n l) (hn:n≤n'):LtS n' l:=fun s hs=>⟨Nat.le_trans (h s hs).1 hn,fun w hw=>Nat.lt_of_lt_of_le ((h s hs).2 w hw) hn⟩
theorem LtS.cons {n:Nat} {l:List DSy} {s:DSy} (h:LtS n l) (h1:s.c1≤n) (h2:∀ w∈s.wr,w<n):LtS n (s::l):=fun t ht=>by
 rcases List.mem_cons.1 ht with rfl|ht
 ·exact ⟨h1,h2⟩
 ·exact h t ht
theorem LtS.did {n:Nat}:∀ {l:List DSy} {l':List Did},DSs l l'→LtS n l→∀ u∈l',∀ i,bW u i=true→i<n
 | _,_,.nil,_,u,hu=>by cases hu
 | _,_,.cons (s:=s) (u:=u) h h2,hl,v,hv=>by
  intro i ht
  rcases List.mem_cons.1 hv with rfl|hv
  ·obtain ⟨_,a,b,c,_⟩:=h
   obtain ⟨h3,h4⟩:=hl _ (List.mem_cons_self ..)
   unfold bW at ht
   rw[a,b,c,Bool.or_eq_true,kh,Bool.and_eq_true] at ht
   rcases ht with ht|ht
   ·exact h4 i ht
   ·have:i<s.c1:=Nat.le_of_ble_eq_true ht.2
    omega
  ·exact LtS.did h2 (fun t ht=>hl t (List.mem_cons_of_mem _ ht)) v hv i ht
section
variable {E:Env} {A:ab} {H:Hp} {Q:ab→Hp→Prop} {g:Option (Option Tmp×Bool)} {d:Option Tmp} {l:List OF} {j m:Nat} {ms:List Nat} {did:List Did} {did':List DSy}
variable {ty:TypeId} {pos:String} {af:Array Edge} {gd:Option (Nat×Bool)}
theorem DK.load (hg:∀ y n:R (ab×Hp),bC A.tm g y n=y) (hd:au d A.nt=true) (hds:DSs did' did) (hlt:LtS H.nx did') {t:TypeId} {x:Operand}
  (h:qO (ev A.tm x) fun id=>id<H.nx∧bw id (aM m did')∧cV (fun v H'=>LtS H'.nx (⟨j,some id,H.nx,H.nx,[]⟩::did')→∀ dd,DSs (⟨j,some id,H.nx,H.nx,[]⟩::did') dd→D1 E l (j+1) ms dd (bD A d v) H' Q) ((aq E.P ⟨d,.load t x,ty,pos,af,gd⟩).run A.tm H)):
  D1 E (⟨g,d,aq E.P ⟨d,.load t x,ty,pos,af,gd⟩,⟨d,.load t x,ty,pos,af,gd⟩⟩::l) j (m::ms) did A H Q:=by
 unfold qO at h
 split at h
 ·rename_i id gn off lim hx
  obtain ⟨hid,hu,hv⟩:=h
  unfold cV at hv
  split at hv
  ·rename_i v H' hn
   obtain ⟨e1,harr,h3⟩:=Cn hx hn
   subst e1
   have hus:=bw.of (fX (m:=m) hds) hu
   have hget:=px (H:=H') (tm:=A.tm) (o:=⟨d,.load t x,ty,pos,af,gd⟩) (us:=aF m did) (id:=id) (x:=x) rfl (by simp[Op.operands]) (by rw[hx];exact List.mem_singleton.2 rfl) hid hus
   refine D1.look hg hd rfl (h3 ⟨_,H'.nx,[]⟩ hget) fun sub hs=>?_
   refine hv (hlt.cons (Nat.le_refl _) (fun w hw=>by cases hw)) _ (.cons ⟨rfl,rfl,rfl,rfl,fun k hk i hi=>?_⟩ hds)
   cases hk
   show sub.get i=none
   rw[←hs]
   refine Dm rfl ?_
   have e2:((Op.load t x).operands.toList.flatMap fun x=>(ev A.tm x).ids)=[id]:=by
    simp[Op.operands,hx,AV.ids,AC.ids,AO.ids]
   show i∉ed H'.t ((Op.load t x).operands.toList.flatMap fun x=>(ev A.tm x).ids)
   rw[e2,Gl fun o ho=>harr o ho]
   simpa using hi
  ·exact hv.elim
 ·exact h.elim
theorem DK.store (hg:∀ y n:R (ab×Hp),bC A.tm g y n=y) (hd:au d A.nt=true) (hds:DSs did' did) (hlt:LtS H.nx did') {t:TypeId} {a x:Operand}
  (h:qO (ev A.tm a) fun id=>id<H.nx∧bw id (aM m did')∧bJ id (aM m did')∧cV (fun v H'=>LtS H'.nx (⟨j,none,H.nx,H.nx,[id]⟩::did')→∀ dd,DSs (⟨j,none,H.nx,H.nx,[id]⟩::did') dd→D1 E l (j+1) ms dd (bD A d v) H' Q) ((aq E.P ⟨d,.store t a x,ty,pos,af,gd⟩).run A.tm H)):
  D1 E (⟨g,d,aq E.P ⟨d,.store t a x,ty,pos,af,gd⟩,⟨d,.store t a x,ty,pos,af,gd⟩⟩::l) j (m::ms) did A H Q:=by
 unfold qO at h
 split at h
 ·rename_i id gn off lim hx
  obtain ⟨hid,hu,hsn,hv⟩:=h
  unfold cV at hv
  split at hv
  ·rename_i v H' hn
   obtain ⟨ob,e1,⟨ko,hko⟩,h3⟩:=wS hx hn
   subst e1
   have hus:=bw.of (fX (m:=m) hds) hu
   have hfree:=bJ.of (fX (m:=m) hds) hsn
   have hget:=px (H:=H) (tm:=A.tm) (o:=⟨d,.store t a x,ty,pos,af,gd⟩) (us:=aF m did) (id:=id) (x:=a) rfl (by simp[Op.operands]) (by rw[hx];exact List.mem_singleton.2 rfl) hid hus
   generalize hs:aI H.t H.nx A.tm ⟨d,.store t a x,ty,pos,af,gd⟩ (aF m did)=sub at hget
   refine D1.cons hg hd hs ?_
   rw[h3 ⟨sub,H.nx,[]⟩ hget]
   have hwr:da sub H.nx [id]=[id]:=by
    show Eng.ifE (Nat.blt id H.nx) (ay (sub.get id) (da sub H.nx []) fun _=>id::da sub H.nx []) (da sub H.nx [])=_
    have e1:Nat.blt id H.nx=true:=Nat.ble_eq_true_of_le hid
    have e2:sub.get id=some ko:=hget.trans hko
    rw[e1,e2];rfl
   refine N1.val ?_
   show ee (aF m did) (da sub H.nx [id])=true∧D1 E l (j+1) ms (note 1 j sub H _ did (da sub H.nx [id])) (bD A d v) ⟨cR 1 H _ (aF m did) (da sub H.nx [id]),H.nx,da sub H.nx [id]++H.log⟩ Q
   rw[hwr]
   refine ⟨hfree,?_⟩
   have hm:cR 1 H (Hp.mod ⟨sub,H.nx,[]⟩ id ob) (aF m did) [id]=H.t.set id ob:=by
    show cr H.t (sub.set id _) ([id]++cK H.nx (H.nx - H.nx))=_
    rw[Nat.sub_self]
    show PT.put ((sub.set id _).get id) H.t id=_
    rw[PT.dk,if_pos rfl];rfl
   rw[hm]
   exact hv (hlt.cons (Nat.le_refl _) (fun w hw=>by rw[List.mem_singleton.1 hw];exact hid)) _ (.cons ⟨rfl,rfl,rfl,rfl,fun k hk=>by cases hk⟩ hds)
  ·exact hv.elim
 ·exact h.elim
theorem DK.pure {o:Oper} (hg:∀ y n:R (ab×Hp),bC A.tm g y n=y) (hd:au o.dst A.nt=true) (hds:DSs did' did) (hlt:LtS H.nx did')
  (h:bh o=0∧DP j did' A o.dst H (fun d' A H=>LtS H.nx d'→∀ dd,DSs d' dd→D1 E l (j+1) ms dd A H Q) ((aq E.P o).run A.tm ⟨.leaf,H.nx,[]⟩)):
  D1 E (⟨g,o.dst,aq E.P o,o⟩::l) j (m::ms) did A H Q:=by
 obtain ⟨hk,⟨v,h1,h2⟩|⟨v,x,h1,h2⟩⟩:=h
 ·exact D1.pure hg hd hk h1 (h2 hlt _ hds)
 ·exact D1.make hg hd hk h1 (h2 ((hlt.mono (Nat.le_succ _)).cons (Nat.le_refl _) fun w hw=>by cases hw) _ (.cons ⟨rfl,rfl,rfl,rfl,fun k hk i hi=>rfl⟩ hds))
theorem DK.len (hg:∀ y n:R (ab×Hp),bC A.tm g y n=y) (hd:au d A.nt=true) (hds:DSs did' did) (hlt:LtS H.nx did') {x:Operand} {t:TypeId}
  (h:Eo (ez E.P t) (ev A.tm x) fun at? v=>LtS H.nx (⟨j,at?,H.nx,H.nx,[]⟩::did')→∀ dd,DSs (⟨j,at?,H.nx,H.nx,[]⟩::did') dd→D1 E l (j+1) ms dd (bD A d v) H Q):
  D1 E (⟨g,d,aq E.P ⟨d,.call ⟨.builtin .len,#[x],#[t]⟩,ty,pos,af,gd⟩,⟨d,.call ⟨.builtin .len,#[x],#[t]⟩,ty,pos,af,gd⟩⟩::l) j (m::ms) did A H Q:=by
 have hops:(Op.call ⟨.builtin .len,#[x],#[t]⟩).operands.toList.flatMap (fun x=>(ev A.tm x).ids)=(ev A.tm x).ids:=by
  simp[Op.operands,Call.operands]
 have key:∀ (k:Nat) (at?:Option Nat) (v:AV),ez E.P t=some k→(∀ h:Hp,cS h k (ev A.tm x)=.val v h)→(∀ q,at?=some q→∀ i,i≠q→∀ sub,aI H.t H.nx A.tm ⟨d,.call ⟨.builtin .len,#[x],#[t]⟩,ty,pos,af,gd⟩ (aF m did)=sub→sub.get i=none) →
   (LtS H.nx (⟨j,at?,H.nx,H.nx,[]⟩::did')→∀ dd,DSs (⟨j,at?,H.nx,H.nx,[]⟩::did') dd→D1 E l (j+1) ms dd (bD A d v) H Q) →
   D1 E (⟨g,d,aq E.P ⟨d,.call ⟨.builtin .len,#[x],#[t]⟩,ty,pos,af,gd⟩,⟨d,.call ⟨.builtin .len,#[x],#[t]⟩,ty,pos,af,gd⟩⟩::l) j (m::ms) did A H Q:=by
  intro k at? v hk hv hs h
  refine D1.look hg hd rfl (v:=v) ?_ fun sub hs'=>?_
  ·rw[Uv x t hk];exact hv _
  ·exact h (hlt.cons (Nat.le_refl _) fun w hw=>by cases hw) _ (.cons ⟨rfl,rfl,rfl,rfl,fun k hk i hi=>hs k hk i hi _ hs'⟩ hds)
 unfold Eo at h
 split at h
 ·rename_i s hk hx
  refine key 0 (some 0) _ hk (fun h=>by rw[hx];rfl) (fun q _ i _ sub hs=>?_) h
  rw[←hs]
  refine Dm rfl ?_
  show i∉ed H.t ((Op.call ⟨.builtin .len,#[x],#[t]⟩).operands.toList.flatMap (fun x=>(ev A.tm x).ids))
  rw[hops,hx]
  show i∉ed H.t []
  unfold ed;simp
 ·rename_i id gn off n sz hk hx
  exact key 1 none _ hk (fun h=>by rw[hx];rfl) (fun q hq=>by cases hq) h
 ·rename_i hk hx
  exact key 1 none _ hk (fun h=>by rw[hx];rfl) (fun q hq=>by cases hq) h
 ·exact h.elim
theorem lQ {u:Did} {i:Nat}:i∈dq u↔bW u i=true:=by
 unfold dq bW
 have hr:∀ (n a:Nat),i∈cK a n↔a≤i∧i<a+n:=by
  intro n
  induction n with
  | zero=>intro a;show i∈[]↔_;simp
  | succ n ih=>
   intro a
   show i∈a::cK (a+1) n↔_
   rw[List.mem_cons,ih]
   omega
 have e:Nat.sub u.c1 u.c0=u.c1 - u.c0:=rfl
 rw[List.mem_append,e,hr,Bool.or_eq_true,kh,Bool.and_eq_true,Nat.ble_eq]
 have e2:Nat.blt i u.c1=true↔i<u.c1:=⟨fun h=>Nat.le_of_ble_eq_true h,fun h=>Nat.ble_eq_true_of_le h⟩
 rw[e2]
 constructor
 ·rintro (h|h)
  ·exact .inl h
  ·exact .inr ⟨h.1,by omega⟩
 ·rintro (h|h)
  ·exact .inl h
  ·exact .inr ⟨h.1,by omega⟩
theorem DK.call (hg:∀ y n:R (ab×Hp),bC A.tm g y n=y) (hd:au d A.nt=true) (hds:DSs did' did) (hlt:LtS H.nx did') {f:Operand} {as:Array Operand} {ts:Array TypeId}
  (h:DC E j m did' A d H (fun d' A H=>LtS H.nx d'→∀ dd,DSs d' dd→D1 E l (j+1) ms dd A H Q) ((aq E.P ⟨d,.call ⟨.value f,as,ts⟩,ty,pos,af,gd⟩).run A.tm H)):
  D1 E (⟨g,d,aq E.P ⟨d,.call ⟨.value f,as,ts⟩,ty,pos,af,gd⟩,⟨d,.call ⟨.value f,as,ts⟩,ty,pos,af,gd⟩⟩::l) j (m::ms) did A H Q:=by
 have hk:bh ⟨d,.call ⟨.value f,as,ts⟩,ty,pos,af,gd⟩=2:=rfl
 have hsub:∀ i,(aI H.t H.nx A.tm ⟨d,.call ⟨.value f,as,ts⟩,ty,pos,af,gd⟩ (aF m did)).get i=if i∈(aF m did).flatMap dq then none else H.t.get i:=fun i=>by
  unfold aI;rw[hk];exact ss
 generalize hs:aI H.t H.nx A.tm ⟨d,.call ⟨.value f,as,ts⟩,ty,pos,af,gd⟩ (aF m did)=sub at hsub
 have hin:∀ i,i∈(aF m did).flatMap dq↔∃ u∈aF m did,bW u i=true:=fun i=>by
  rw[List.mem_flatMap]
  exact ⟨fun ⟨u,a,b⟩=>⟨u,a,lQ.1 b⟩,fun ⟨u,a,b⟩=>⟨u,a,lQ.2 b⟩⟩
 unfold DC at h
 split at h
 ·rename_i fn args hn
  have hstep:∀ h:Hp,(aq E.P ⟨d,.call ⟨.value f,as,ts⟩,ty,pos,af,gd⟩).run A.tm h=.enter fn args:=fun h=>by
   rw[Tk] at hn ⊢;exact hn
  have hnot:∀ i,bw i (aM m did')→i∉(aF m did).flatMap dq:=fun i hi hm=>by
   obtain ⟨u,hu,ht⟩:=(hin i).1 hm
   rw[bw.of (fX (m:=m) hds) hi u hu] at ht;cases ht
  obtain ⟨k,v,h',h1,hgr,h2⟩:=h ⟨sub,H.nx,[]⟩ rfl (fun i hi hu=>by
    show sub.get i=_
    rw[hsub,if_neg (hnot i hu)];rfl) (fun hw i hi=>by
    show sub.get i=_
    rw[hsub]
    by_cases hm:i∈(aF m did).flatMap dq
    ·rw[if_pos hm]
    ·rw[if_neg hm];exact hw i hi)
  refine D1.cons hg hd hs ?_
  rw[hstep]
  refine ⟨k,v,h',h1,?_⟩
  have hwr:da sub H.nx h'.log=[]:=by
   obtain ⟨lg,e,hl⟩:=hgr.log
   rw[List.eq_nil_iff_forall_not_mem]
   intro i hi
   obtain ⟨a1,a2,_⟩:=iS.1 hi
   rw[e] at a1
   rcases List.mem_append.1 a1 with a1|a1
   ·rcases hl i a1 with a3|a3
    ·have a4:H.nx≤i:=a3
     omega
    ·exact a3
   ·cases a1
  show ee (aF m did) (da sub H.nx h'.log)=true∧D1 E l (j+1) ms (note 2 j sub H h' did (da sub H.nx h'.log)) (bD A d v) ⟨cR 2 H h' (aF m did) (da sub H.nx h'.log),h'.nx,da sub H.nx h'.log++H.log⟩ Q
  rw[hwr]
  refine ⟨eu _,?_⟩
  have hm:∀ i,(cR 2 H h' (aF m did) []).get i=if i∈(aF m did).flatMap dq then H.t.get i else h'.t.get i:=fun i=>by
   show (cr h'.t H.t ((aF m did).flatMap dq)).get i=_
   exact jf
  refine h2 ⟨cR 2 H h' (aF m did) [],h'.nx,[]++H.log⟩ rfl rfl (fun i hi=>?_) (fun i hi=>?_) ((hlt.mono hgr.nx).cons (Nat.le_refl _) fun w hw=>by cases hw) _ (.cons ⟨rfl,rfl,rfl,rfl,fun k hk=>by cases hk⟩ hds)
  ·show (cR 2 H h' (aF m did) []).get i=H.t.get i
   rw[hm]
   by_cases hm:i∈(aF m did).flatMap dq
   ·rw[if_pos hm]
   ·rw[if_neg hm]
    have e1:=hgr.get i hi id
    have e2:Hp.get ⟨sub,H.nx,[]⟩ i=H.t.get i:=by
     show sub.get i=_
     rw[hsub,if_neg hm]
    exact e1.trans e2
  ·show (cR 2 H h' (aF m did) []).get i=h'.t.get i
   rw[hm,if_neg]
   intro hm
   obtain ⟨u,hu,ht⟩:=(hin i).1 hm
   have:=LtS.did hds hlt u (cL.1 hu).1 i ht
   omega
 ·exact h.elim
end
theorem qO.mono {v:AV} {P P':Nat→Prop} (h:qO v P) (hp:∀ id,P id→P' id):qO v P':=by
 unfold qO at h ⊢
 split at h
 ·exact hp _ h
 ·exact h.elim
theorem cV.mono {n:ae} {P P':AV→Hp→Prop} (h:cV P n) (hp:∀ v H,P v H→P' v H):cV P' n:=by
 unfold cV at h ⊢
 split at h
 ·exact hp _ _ h
 ·exact h.elim
theorem Eo.mono {k:Option Nat} {v:AV} {P P':Option Nat→AV→Prop} (h:Eo k v P) (hp:∀ a v,P a v→P' a v):Eo k v P':=by
 unfold Eo at h ⊢
 split at h
 ·exact hp _ _ h
 ·exact hp _ _ h
 ·exact hp _ _ h
 ·exact h.elim
theorem N1.mono {E:Env} {H:Hp} {n:ae} {Q Q':AV→Hp→Prop} (h:N1 E H n Q) (hq:∀ v H',Q v H'→Q' v H'):N1 E H n Q':=
 let ⟨k,v,H',h1,h2⟩:=h;⟨k,v,H',h1,hq _ _ h2⟩
theorem DP.mono {j:Nat} {did:List DSy} {A:ab} {d:Option Tmp} {H:Hp} {next next':List DSy→ab→Hp→Prop} {n:ae} (h:DP j did A d H next n) (hn:∀ d A H,next d A H→next' d A H):DP j did A d H next' n:=by
 rcases h with ⟨v,h1,h2⟩|⟨v,x,h1,h2⟩
 ·exact .inl ⟨v,h1,hn _ _ _ h2⟩
 ·exact .inr ⟨v,x,h1,hn _ _ _ h2⟩
theorem DC.mono {E:Env} {j m:Nat} {did:List DSy} {A:ab} {d:Option Tmp} {H:Hp} {next next':List DSy→ab→Hp→Prop} {n:ae} (h:DC E j m did A d H next n) (hn:∀ d A H,next d A H→next' d A H):DC E j m did A d H next' n:=by
 unfold DC at h ⊢
 split at h
 ·exact fun k a b c=>(h k a b c).mono fun v h' ⟨x,y⟩=>⟨x,fun H' p q r s=>hn _ _ _ (y H' p q r s)⟩
 ·exact h.elim
theorem AP.mono {j m:Nat} {did:List DSy} {A:ab} {d:Option Tmp} {H:Hp} {next next':List DSy→ab→Hp→Prop} {ids:List Nat} {r:Hp→ae} (h:AP j m did A d H next ids r) (hn:∀ d A H,next d A H→next' d A H):AP j m did A d H next' ids r:=
 ⟨h.1,h.2.imp (fun ⟨v,c,h1,h2⟩=>⟨v,c,h1,hn _ _ _ h2⟩) fun ⟨v,h1,h2⟩=>⟨v,h1,hn _ _ _ h2⟩⟩
theorem DK.app {E:Env} {A:ab} {H:Hp} {Q:ab→Hp→Prop} {g:Option (Option Tmp×Bool)} {d:Option Tmp} {l:List OF} {j m:Nat} {ms:List Nat} {did:List Did} {did':List DSy} {ty:TypeId} {pos:String} {af:Array Edge} {gd:Option (Nat×Bool)}
  (hg:∀ y n:R (ab×Hp),bC A.tm g y n=y) (hd:au d A.nt=true) (hds:DSs did' did) (hlt:LtS H.nx did') {s x:Operand} {t t2:TypeId}
  (h:AP j m did' A d H (fun d' A H=>LtS H.nx d'→∀ dd,DSs d' dd→D1 E l (j+1) ms dd A H Q) ((ev A.tm s).ids++(ev A.tm x).ids) fun h=>(aq E.P ⟨d,.call ⟨.builtin .append,⟨[s,x]⟩,⟨[t,t2]⟩⟩,ty,pos,af,gd⟩).run A.tm h):
  D1 E (⟨g,d,aq E.P ⟨d,.call ⟨.builtin .append,⟨[s,x]⟩,⟨[t,t2]⟩⟩,ty,pos,af,gd⟩,⟨d,.call ⟨.builtin .append,⟨[s,x]⟩,⟨[t,t2]⟩⟩,ty,pos,af,gd⟩⟩::l) j (m::ms) did A H Q:=by
 obtain ⟨hid,hv⟩:=h
 have hops:∀ id∈(ev A.tm s).ids++(ev A.tm x).ids,∃ y∈(Op.call ⟨.builtin .append,⟨[s,x]⟩,⟨[t,t2]⟩⟩).operands.toList,id∈(ev A.tm y).ids:=fun id h=>by
  rcases List.mem_append.1 h with h|h
  ·exact ⟨s,by simp[Op.operands,Call.operands],h⟩
  ·exact ⟨x,by simp[Op.operands,Call.operands],h⟩
 have hget:∀ id∈(ev A.tm s).ids++(ev A.tm x).ids,(aI H.t H.nx A.tm ⟨d,.call ⟨.builtin .append,⟨[s,x]⟩,⟨[t,t2]⟩⟩,ty,pos,af,gd⟩ (aF m did)).get id=H.get id:=fun id h=>by
  obtain ⟨y,hy,hyi⟩:=hops id h
  exact px (o:=⟨d,.call ⟨.builtin .append,⟨[s,x]⟩,⟨[t,t2]⟩⟩,ty,pos,af,gd⟩) rfl hy hyi (hid id h).1 (bw.of (fX (m:=m) hds) (hid id h).2)
 rcases hv with ⟨v,c,h1,h2⟩|⟨v,h1,h2⟩
 ·refine D1.cons hg hd rfl ?_
  have e0:(aq E.P ⟨d,.call ⟨.builtin .append,⟨[s,x]⟩,⟨[t,t2]⟩⟩,ty,pos,af,gd⟩).run A.tm ⟨aI H.t H.nx A.tm ⟨d,.call ⟨.builtin .append,⟨[s,x]⟩,⟨[t,t2]⟩⟩,ty,pos,af,gd⟩ (aF m did),H.nx,[]⟩=.val v (Hp.new ⟨aI H.t H.nx A.tm ⟨d,.call ⟨.builtin .append,⟨[s,x]⟩,⟨[t,t2]⟩⟩,ty,pos,af,gd⟩ (aF m did),H.nx,[]⟩ c):=h1 _ rfl hget
  rw[e0]
  refine N1.val ⟨eu _,?_⟩
  have e3:∀ sub:PT aO,cR 1 H (Hp.new ⟨sub,H.nx,[]⟩ c) (aF m did) []=H.t.set H.nx c:=fun sub=>by
   show cr H.t (sub.set H.nx c) (cK H.nx (H.nx+1 - H.nx))=_
   have:H.nx+1 - H.nx=1:=by omega
   rw[this]
   show PT.put ((sub.set H.nx c).get H.nx) H.t H.nx=_
   rw[PT.dk,if_pos rfl];rfl
  show D1 E l (j+1) ms _ (bD A d v) ⟨cR 1 H (Hp.new ⟨_,H.nx,[]⟩ c) (aF m did) [],H.nx+1,[]++H.log⟩ Q
  rw[e3]
  exact h2 ((hlt.mono (Nat.le_succ _)).cons (Nat.le_refl _) fun w hw=>by cases hw) _ (.cons ⟨rfl,rfl,rfl,rfl,fun k hk=>by cases hk⟩ hds)
 ·exact D1.look hg hd rfl (h1 ⟨_,H.nx,[]⟩ rfl hget) fun sub _=>h2 (hlt.cons (Nat.le_refl _) fun w hw=>by cases hw) _ (.cons ⟨rfl,rfl,rfl,rfl,fun k hk=>by cases hk⟩ hds)
theorem DK.mono {E:Env} {o:Oper} {j m:Nat} {did:List DSy} {A:ab} {H:Hp} {next next':List DSy→ab→Hp→Prop} (h:DK E o j m did A H next) (hn:∀ d A H,next d A H→next' d A H):DK E o j m did A H next':=by
 unfold DK at h ⊢
 split at h
 ·exact h.mono fun id ⟨a,b,c⟩=>⟨a,b,c.mono fun v H h=>hn _ _ _ h⟩
 ·exact h.mono fun id ⟨a,b,b',c⟩=>⟨a,b,b',c.mono fun v H h=>hn _ _ _ h⟩
 ·exact h.mono hn
 ·exact h.mono fun a v h=>hn _ _ _ h
 ·exact h.mono hn
 ·exact ⟨h.1,h.2.mono hn⟩
theorem DK.d1 {E:Env} {o:Oper} {j m:Nat} {ms:List Nat} {did':List DSy} {did:List Did} {l:List OF} {g:Option (Option Tmp×Bool)} {A:ab} {H:Hp} {Q:ab→Hp→Prop} (hg:∀ y n:R (ab×Hp),bC A.tm g y n=y) (hd:au o.dst A.nt=true) (hds:DSs did' did) (hlt:LtS H.nx did')
  (h:DK E o j m did' A H fun d' A H=>LtS H.nx d'→∀ dd,DSs d' dd→D1 E l (j+1) ms dd A H Q):D1 E (⟨g,o.dst,aq E.P o,o⟩::l) j (m::ms) did A H Q:=by
 obtain ⟨d,op,ty,pos,af,gd⟩:=o
 unfold DK at h
 split at h
 ·rename_i t x hop
  cases hop
  exact DK.load hg hd hds hlt h
 ·rename_i t a x hop
  cases hop
  exact DK.store hg hd hds hlt h
 ·rename_i f as ts hop
  cases hop
  exact DK.call hg hd hds hlt h
 ·rename_i x t hop
  cases hop
  exact DK.len hg hd hds hlt h
 ·rename_i s x t t2 hop
  cases hop
  exact DK.app hg hd hds hlt h
 ·exact DK.pure hg hd hds hlt h
theorem DO.d1 {E:Env} {ops:List Oper} {Q:ab→Hp→Prop}:∀ {l:List Oper} {j:Nat} {ms:List Nat} {did':List DSy} {did:List Did} {A:ab} {H:Hp},DSs did' did→LtS H.nx did'→DO E ops Q l j ms did' A H→D1 E (fB E.P ops l) j ms did A H Q
 | [],j,ms,_,_,A,H,_,_,h=>D1.nil (show Q A H by cases ms <;> exact h)
 | o::l,j,[],_,_,A,H,_,_,h=>by unfold DO at h;exact h.elim
 | o::l,j,m::ms,did',did,A,H,hds,hlt,h=>by
  unfold DO at h
  obtain ⟨hd,hg⟩:=h
  rcases pr (gOf ops o.guard) A.tm with ⟨h1,h2⟩|⟨h1,h2⟩|h1
  ·rw[h1] at hg
   have key:∀ {d':List DSy} {A':ab} {H':Hp},DO E ops Q l (j+1) ms d' A' H'→LtS H'.nx d'→∀ dd,DSs d' dd→D1 E (fB E.P ops l) (j+1) ms dd A' H' Q:=fun h hl dd hd=>DO.d1 hd hl h
   exact DK.d1 h2 hd hds hlt (hg.mono fun _ _ _ h=>key h)
  ·rw[h1] at hg
   exact D1.skip h2 hd (DO.d1 hds hlt hg)
  ·rw[h1] at hg;exact hg.elim
theorem R1.drw {E:Env} {r:Option Nat} {A:ab} {H:Hp} {Q:aE→ab→Hp→Prop} {id:Nat} {ops:Array Oper} {ms:List Nat} (hs:dY ops=true) (hm:dV [] 0 ops.toList=ms) (h:DO E ops.toList (fun A H=>Q .normal A H) ops.toList 0 ms [] A H):R1 E r (.region id ops true) A H Q:=by
 subst hm
 exact R1.draw hs (DO.d1 .nil (fun s hs=>by cases hs) h)
section
variable {E:Env} {ops:List Oper} {Q:ab→Hp→Prop} {l:List Oper} {o:Oper} {j m:Nat} {ms:List Nat} {did:List DSy} {A:ab} {H:Hp} {next:List DSy→ab→Hp→Prop}
theorem Rg:DO E ops Q [] j ms did A H=Q A H:=by cases ms <;> rfl
theorem KK:DO E ops Q (o::l) j (m::ms) did A H=(au o.dst A.nt=true∧DU E o j m did A H (fun did A H=>DO E ops Q l (j+1) ms did A H) (gw (gOf ops o.guard) A.tm)):=by rw[DO]
theorem Rq:DU E o j m did A H next .yes=DK E o j m did A H next:=rfl
theorem TV:DU E o j m did A H next .no=next did (bD A o.dst aG) H:=rfl
variable {d:Option Tmp} {ty:TypeId} {pos:String} {af:Array Edge} {g:Option (Nat×Bool)}
theorem JC {t:TypeId} {x:Operand}:DK E ⟨d,.load t x,ty,pos,af,g⟩ j m did A H next=qO (ev A.tm x) fun id=>id<H.nx∧bw id (aM m did)∧cV (fun v H'=>next (⟨j,some id,H.nx,H.nx,[]⟩::did) (bD A d v) H') ((aq E.P ⟨d,.load t x,ty,pos,af,g⟩).run A.tm H):=rfl
theorem Hg {t:TypeId} {a x:Operand}:DK E ⟨d,.store t a x,ty,pos,af,g⟩ j m did A H next=qO (ev A.tm a) fun id=>id<H.nx∧bw id (aM m did)∧bJ id (aM m did)∧cV (fun v H'=>next (⟨j,none,H.nx,H.nx,[id]⟩::did) (bD A d v) H') ((aq E.P ⟨d,.store t a x,ty,pos,af,g⟩).run A.tm H):=rfl
theorem Je {f:Operand} {as:Array Operand} {ts:Array TypeId}:DK E ⟨d,.call ⟨.value f,as,ts⟩,ty,pos,af,g⟩ j m did A H next=DC E j m did A d H next (kg E.P (ev A.tm f) (evs as.toList A.tm)):=rfl
theorem Pf {x:Operand} {t:TypeId}:DK E ⟨d,.call ⟨.builtin .len,#[x],#[t]⟩,ty,pos,af,g⟩ j m did A H next=Eo (ez E.P t) (ev A.tm x) fun at? v=>next (⟨j,at?,H.nx,H.nx,[]⟩::did) (bD A d v) H:=rfl
theorem iF (p:Prop):((0:Nat)=0∧p)=p:=propext ⟨fun h=>h.2,fun h=>⟨rfl,h⟩⟩
theorem wV {s x:Operand} {t:TypeId}:DK E ⟨d,.call ⟨.builtin .append,#[s,x],#[t,t]⟩,ty,pos,af,g⟩ j m did A H next=AP j m did A d H next ((ev A.tm s).ids++(ev A.tm x).ids) fun h=>bd E.P h t (ev A.tm s) (ev A.tm x):=by
 show AP j m did A d H next ((ev A.tm s).ids++(ev A.tm x).ids) (fun h=>(Eng.ifE (Nat.beq t t) (.mk fun tm h=>bd E.P h t (ev tm s) (ev tm x)) (jW "append - types"):SF).run A.tm h)=_
 rw[Nat.beq_refl];rfl
theorem LA {x:Operand}:DK E ⟨d,.move x,ty,pos,af,g⟩ j m did A H next=DP j did A d H next ((aq E.P ⟨d,.move x,ty,pos,af,g⟩).run A.tm ⟨.leaf,H.nx,[]⟩):=iF _
theorem yC {x:Operand}:DK E ⟨d,.assign x,ty,pos,af,g⟩ j m did A H next=DP j did A d H next ((aq E.P ⟨d,.assign x,ty,pos,af,g⟩).run A.tm ⟨.leaf,H.nx,[]⟩):=iF _
theorem KQ {c x y:Operand}:DK E ⟨d,.pick c x y,ty,pos,af,g⟩ j m did A H next=DP j did A d H next ((aq E.P ⟨d,.pick c x y,ty,pos,af,g⟩).run A.tm ⟨.leaf,H.nx,[]⟩):=iF _
theorem Dy {e:TypeId}:DK E ⟨d,.alloc e,ty,pos,af,g⟩ j m did A H next=DP j did A d H next ((aq E.P ⟨d,.alloc e,ty,pos,af,g⟩).run A.tm ⟨.leaf,H.nx,[]⟩):=iF _
theorem NQ {e:TypeId} {x:Operand}:DK E ⟨d,.box e x,ty,pos,af,g⟩ j m did A H next=DP j did A d H next ((aq E.P ⟨d,.box e x,ty,pos,af,g⟩).run A.tm ⟨.leaf,H.nx,[]⟩):=iF _
theorem Eg {t:TypeId} {ps:Array (Nat×Operand)}:DK E ⟨d,.build t ps,ty,pos,af,g⟩ j m did A H next=DP j did A d H next ((aq E.P ⟨d,.build t ps,ty,pos,af,g⟩).run A.tm ⟨.leaf,H.nx,[]⟩):=iF _
theorem nI {t:TypeId} {n:Nat} {ps:Array (Nat×Operand)}:DK E ⟨d,.buildSlice t n ps,ty,pos,af,g⟩ j m did A H next=DP j did A d H next ((aq E.P ⟨d,.buildSlice t n ps,ty,pos,af,g⟩).run A.tm ⟨.leaf,H.nx,[]⟩):=iF _
theorem Gj {op:BinOp} {t:TypeId} {x y:Operand} {u:TypeId}:DK E ⟨d,.binOp op t x y u,ty,pos,af,g⟩ j m did A H next=DP j did A d H next ((aq E.P ⟨d,.binOp op t x y u,ty,pos,af,g⟩).run A.tm ⟨.leaf,H.nx,[]⟩):=iF _
theorem Ld {op:UnOp} {t:TypeId} {x:Operand}:DK E ⟨d,.unOp op t x,ty,pos,af,g⟩ j m did A H next=DP j did A d H next ((aq E.P ⟨d,.unOp op t x,ty,pos,af,g⟩).run A.tm ⟨.leaf,H.nx,[]⟩):=iF _
theorem rH {f:Fn} {x y:Array Operand}:DK E ⟨d,.makeFunc f x y,ty,pos,af,g⟩ j m did A H next=DP j did A d H next ((aq E.P ⟨d,.makeFunc f x y,ty,pos,af,g⟩).run A.tm ⟨.leaf,H.nx,[]⟩):=iF _
theorem Fw {t:TypeId} {x:Operand} {a b c:Option Operand}:DK E ⟨d,.slice t x a b c,ty,pos,af,g⟩ j m did A H next=DP j did A d H next ((aq E.P ⟨d,.slice t x a b c,ty,pos,af,g⟩).run A.tm ⟨.leaf,H.nx,[]⟩):=iF _
theorem qn {t:TypeId} {x:Operand} {f:Nat}:DK E ⟨d,.fieldAddr t x f,ty,pos,af,g⟩ j m did A H next=DP j did A d H next ((aq E.P ⟨d,.fieldAddr t x f,ty,pos,af,g⟩).run A.tm ⟨.leaf,H.nx,[]⟩):=iF _
theorem DT {t:TypeId} {x:Operand} {f:Nat}:DK E ⟨d,.field t x f,ty,pos,af,g⟩ j m did A H next=DP j did A d H next ((aq E.P ⟨d,.field t x f,ty,pos,af,g⟩).run A.tm ⟨.leaf,H.nx,[]⟩):=iF _
theorem pL {t:TypeId} {x y:Operand}:DK E ⟨d,.indexAddr t x y,ty,pos,af,g⟩ j m did A H next=DP j did A d H next ((aq E.P ⟨d,.indexAddr t x y,ty,pos,af,g⟩).run A.tm ⟨.leaf,H.nx,[]⟩):=iF _
theorem vH {x:Operand} {n:Nat}:DK E ⟨d,.extract x n,ty,pos,af,g⟩ j m did A H next=DP j did A d H next ((aq E.P ⟨d,.extract x n,ty,pos,af,g⟩).run A.tm ⟨.leaf,H.nx,[]⟩):=iF _
end
noncomputable def ldO (b:Bool) (n off lim:Nat) (H:Hp) (o:Option (List AC)):ae:=
 nd (o.bind fun cells=>if n≤lim∧off+n≤cells.length then some ((cells.drop off).take n) else none) "load - cells" fun c=>ifE b (.val (.agg c) H) (List.rec (motive:=fun _=>ae) (.bad "load - no cell") (fun x _ _=>.val (.one x) H) c)
noncomputable def stO (n id g off lim:Nat) (x:AV) (H:Hp) (o:Option aO):ae:=
 nk o (.bad "store - no row") fun cells e lo gen=>
  aK (both (Nat.beq g gen) (both (Nat.beq (bE x.cells) n) (both (Nat.ble n lim) (both (Nat.ble (Nat.add off n) (bE cells)) (both (Nat.ble lo gen) x.bA))))) "store - stale or of another size"
   (.val aG (H.mod id (.arr (eN cells off x.cells) e gen gen)))
section
variable {H:Hp} {b:Bool} {n id g off lim lo gen:Nat} {cells:List AC} {e:TypeId} {x:AV}
theorem eX:cm H b n (.one (.o (.ptr id g off lim)))=ldO b n off lim H (rowOf (H.get id) g):=by
 show nd (rdO (H.get id) g off lim n) _ _=_
 rw[JB];rfl
theorem rI:fC H n x (.one (.o (.ptr id g off lim)))=stO n id g off lim x H (H.get id):=rfl
theorem pE (h3:n≤lim) (h4:off+n≤cells.length):ldO true n off lim H (some cells)=.val (.agg ((cells.drop off).take n)) H:=by
 unfold ldO
 simp only[Option.bind_some,if_pos (And.intro h3 h4)];rfl
theorem sZ (h3:1≤lim) (h4:off+1≤cells.length):ldO false 1 off lim H (some cells)=.val (.one ((cells.drop off).headD (.b false))) H:=by
 unfold ldO
 simp only[Option.bind_some,if_pos (And.intro h3 h4)]
 cases hc:cells.drop off with
 | nil=>have:=congrArg List.length hc;simp at this;omega
 | cons y c=>rfl
theorem LH (h1:g=gen) (h2:x.cells.length=n) (h3:n≤lim) (h4:off+n≤cells.length) (h5:lo≤gen) (h6:x.bA=true):
  stO n id g off lim x H (some (.arr cells e lo gen))=.val aG (H.mod id (.arr (cells.take off++(x.cells++cells.drop (off+n))) e gen gen)):=by
 subst h1 h2
 show aK (both (Nat.beq g g) (both (Nat.beq (bE x.cells) x.cells.length) (both (Nat.ble x.cells.length lim) (both (Nat.ble (Nat.add off x.cells.length) (bE cells)) (both (Nat.ble lo g) x.bA))))) _ _=_
 have e4:Nat.ble (Nat.add off x.cells.length) (bE cells)=true:=by rw[bq];exact Nat.ble_eq_true_of_le h4
 rw[Nat.beq_refl,bq,Nat.beq_refl,Nat.ble_eq_true_of_le h3,e4,Nat.ble_eq_true_of_le h5,h6,fi];rfl
def SlC (H:Hp) (v:AC) (sz n:Nat) (cells:List AC):Prop:=cells.length=n*sz∧((v=.o .nilS∧n=0)∨∃ id g off,v=.o (.sl id g off n sz)∧id<H.nx∧Rd H id g off (n*sz) cells)
theorem SlC.dJ {v:AC} {sz n:Nat} {c:List AC} {H':Hp} (h:SlC H v sz n c) (hn:H.nx≤H'.nx) (hg:∀ i,i<H.nx→H'.get i=H.get i):SlC H' v sz n c:=by
 refine ⟨h.1,h.2.imp id ?_⟩
 rintro ⟨id,g,off,h1,h2,h3⟩
 exact ⟨id,g,off,h1,Nat.lt_of_lt_of_le h2 hn,h3.dJ (hg _ h2)⟩
theorem SlC.gr {v:AC} {sz n:Nat} {c:List AC} {H':Hp} (h:SlC H v sz n c) (hg:Gr H H'):SlC H' v sz n c:=h.dJ hg.nx fun i hi=>hg.get i hi fun h=>h
theorem SlC.len {v:AC} {sz n:Nat} {c:List AC} (h:SlC H v sz n c):cS H 1 (.one v)=.val (.one (.i .i64 (n:Int))) H:=by
 rcases h.2 with ⟨rfl,rfl⟩|⟨id,g,off,rfl,_⟩ <;> rfl
theorem SlC.pos {v:AC} {sz n:Nat} {c:List AC} (h:SlC H v sz n c) (hn:0<n):∃ id g off,v=.o (.sl id g off n sz)∧id<H.nx∧Rd H id g off (n*sz) c:=by
 rcases h.2 with ⟨_,rfl⟩|h
 ·omega
 ·exact h
theorem qi {α:Type} {c:α→List AC} {sz:Nat} (hc:∀ x,(c x).length=sz):∀ l:List α,(l.flatMap c).length=l.length*sz
 | []=>by simp
 | x::l=>by rw[List.flatMap_cons,List.length_append,hc,qi hc l,List.length_cons];rw[Nat.succ_mul];omega
theorem LG {α:Type} {c:α→List AC} {sz:Nat} (hc:∀ x,(c x).length=sz):∀ (l:List α) (i:Nat) (x:α),l[i]?=some x→((l.flatMap c).drop (i*sz)).take sz=c x
 | [],i,x,h=>by simp at h
 | y::l,0,x,h=>by
  simp only[List.getElem?_cons_zero,Option.some.injEq] at h
  subst h
  rw[Nat.zero_mul,List.drop_zero,List.flatMap_cons,List.take_append_of_le_length (by rw[hc];exact Nat.le_refl _),List.take_of_length_le (by rw[hc];exact Nat.le_refl _)]
 | y::l,i+1,x,h=>by
  rw[List.getElem?_cons_succ] at h
  rw[List.flatMap_cons,Nat.succ_mul,List.drop_append,hc,List.drop_of_length_le (by rw[hc];omega),List.nil_append]
  have:i*sz+sz - sz=i*sz:=by omega
  rw[this]
  exact LG hc l i x h
theorem Rd.at {α:Type} {c:α→List AC} {sz:Nat} (hc:∀ x,(c x).length=sz) {l:List α} (h:Rd H id g off (l.length*sz) (l.flatMap c)) {i:Nat} {x:α} (hi:l[i]?=some x):Rd H id g (off+i*sz) sz (c x):=by
 have hlt:i<l.length:=by
  rcases Nat.lt_or_ge i l.length with h|h
  ·exact h
  ·rw[List.getElem?_eq_none h] at hi;cases hi
 have:=h.part (i*sz) sz (by
  have:(i+1)*sz≤l.length*sz:=Nat.mul_le_mul_right _ hlt
  rw[Nat.succ_mul] at this;exact this)
 rwa [LG hc l i x hi] at this
end
def gwv (v:AV) (w:Bool):GW:=match v with|.one (.b b)=>if b=w then .yes else .no|.tup _=>.no|_=>.lost
theorem Uc (w:Bool):gwv aG w=.no:=rfl
theorem TP (b w:Bool):gwv (.one (.b b)) w=if b=w then .yes else .no:=rfl
theorem NO (t:Tmp) (w:Bool) (tm:PT AV):gw (some (some t,w)) tm=gwv (slot tm t) w:=rfl
theorem Cv (ops:List Oper) (j:Nat) (w:Bool):gOf ops (some (j,w))=(ops[j]?).elim (some (none,w)) fun o=>some (o.dst,w):=by
 show (match ops[j]? with|none=>some (none,w)|some o=>some (o.dst,w))=_
 cases ops[j]? <;> rfl
theorem zZ {α β:Type} (g:α→R β):∀ (l l':List α) (o o':List β),cM g l=.ok o→cM g l'=.ok o'→cM g (l++l')=.ok (o++o')
 | [],_,_,_,h,_=>by cases h
 | [a],l',o,o',h,h'=>by
  cases l' with
  | nil=>cases h'
  | cons b l'=>
   have e:g a=.ok o:=h
   show wc (g a) (cM g (b::l'))=_
   rw[e,h'];rfl
 | a::b::l,l',o,o',h,h'=>by
  have h1:wc (g a) (cM g (b::l))=.ok o:=h
  cases ha:g a with
  | bad s=>rw[ha] at h1;cases h1
  | ok oa=>
   cases hb:cM g (b::l) with
   | bad s=>rw[ha,hb] at h1;cases h1
   | ok ob=>
    rw[ha,hb] at h1
    have e:oa++ob=o:=by injection h1
    subst e
    show wc (g a) (cM g (b::l++l'))=_
    rw[ha,zZ g (b::l) l' ob o' hb h']
    show R.ok (oa++(ob++o'))=_
    rw[List.append_assoc]
theorem yZ {α β γ:Type} {f:α→R β} {g:β→R γ}:∀ (l:List α) (o:List γ),cM (fun a=>(f a).bind g) l=.ok o→(cM f l).bind g=.ok o
 | [],_,h=>by cases h
 | [a],_,h=>h
 | a::b::l,o,h=>by
  have h1:wc ((f a).bind g) (cM (fun a=>(f a).bind g) (b::l))=.ok o:=h
  cases ha:(f a).bind g with
  | bad s=>rw[ha] at h1;cases h1
  | ok oa=>
   cases hb:cM (fun a=>(f a).bind g) (b::l) with
   | bad s=>rw[ha,hb] at h1;cases h1
   | ok ob=>
    rw[ha,hb] at h1
    have e:oa++ob=o:=by injection h1
    subst e
    have ih:=yZ (b::l) ob hb
    show (wc (f a) (cM f (b::l))).bind g=_
    cases hf:f a with
    | bad s=>rw[hf] at ha;cases ha
    | ok la=>
     rw[hf] at ha
     cases hl:cM f (b::l) with
     | bad s=>rw[hl] at ih;cases ih
     | ok lb=>
      rw[hl] at ih
      exact zZ g la lb oa ob ha ih
theorem Oc {α β γ:Type} {x:R α} {f:α→R β} {g:β→R γ} {o:List γ} (h:x.bind (fun a=>(f a).bind g)=.ok o):(x.bind f).bind g=.ok o:=by
 cases x with
 | bad s=>cases h
 | ok l=>exact yZ l o h
section
variable {E:Env} {r:Option Nat} {A:ab} {H:Hp} {Q:aE→ab→Hp→Prop} {x y z:Code}
theorem R1.aw (h:R1 E r (.seq x (.seq y z)) A H Q):R1 E r (.seq (.seq x y) z) A H Q:=by
 obtain ⟨n,e,A1,H1,h1,h2⟩:=h
 refine ⟨n,e,A1,H1,?_,h2⟩
 show (((codeF E x).run (eval E n) r A H).bind (vQ (codeF E y) (eval E n) r)).bind (vQ (codeF E z) (eval E n) r)=_
 have he:(fun a=>(vQ (codeF E y) (eval E n) r a).bind (vQ (codeF E z) (eval E n) r))=vQ (codeF E (.seq y z)) (eval E n) r:=by
  funext a
  obtain ⟨e,A2,H2⟩:=a
  cases e <;> rfl
 refine Oc ?_
 rw[he]
 exact h1
theorem R1.Ok {c:Operand} {b:Bool} (hc:ev A.tm c=.one (.b b)) (h1:b=true→R1 E r (.seq x z) A H Q) (h2:b=false→R1 E r (.seq y z) A H Q):R1 E r (.seq (.cond c x y) z) A H Q:=by
 cases b with
 | true=>
  obtain ⟨n,e,A1,H1,h3,h4⟩:=h1 rfl
  refine ⟨n,e,A1,H1,?_,h4⟩
  show (dP (ev A.tm c) (.bad "cond") (fun b=>Eng.ifE b ((codeF E x).run (eval E n) r A H) ((codeF E y).run (eval E n) r A H))).bind _=_
  rw[hc];exact h3
 | false=>
  obtain ⟨n,e,A1,H1,h3,h4⟩:=h2 rfl
  refine ⟨n,e,A1,H1,?_,h4⟩
  show (dP (ev A.tm c) (.bad "cond") (fun b=>Eng.ifE b ((codeF E x).run (eval E n) r A H) ((codeF E y).run (eval E n) r A H))).bind _=_
  rw[hc];exact h3
theorem R1.aS (h:R1 E r z A H Q):R1 E r (.seq .skip z) A H Q:=R1.seq (R1.skip h)
theorem R1.oP (h:Q .ret A H):R1 E r (.seq .ret z) A H Q:=R1.seq (R1.ret h)
theorem R1.kQ {id:Nat} (h:Q (.exit id) A H):R1 E r (.seq (.exit id) z) A H Q:=R1.seq (R1.exit h)
theorem R1.gW (h:R1 E r (.seq x z) A H Q):R1 E r (.seq (.scope x) z) A H Q:=h
theorem R1.kY {id:Nat} {ops:Array Oper} {ms:List Nat} (hs:dY ops=true) (hm:dV [] 0 ops.toList=ms) (h:∀ K:ab→Hp→Prop,(∀ A H,R1 E r z A H Q→K A H)→DO E ops.toList K ops.toList 0 ms [] A H):R1 E r (.seq (.region id ops true) z) A H Q:=R1.seq (R1.drw hs hm (h _ fun _ _ h=>h))
theorem R1.aJ {id:Nat} (h:∀ K:aE→ab→Hp→Prop,(∀ A H,R1 E r z A H Q→K .normal A H)→(∀ A H,R1 E r z A H Q→K (.exit id) A H)→(∀ i A H,i≠id→Q (.exit i) A H→K (.exit i) A H)→(∀ A H,Q .ret A H→K .ret A H)→R1 E r x A H K):R1 E r (.seq (.block id x) z) A H Q:=by
 refine R1.seq (R1.block (h _ (fun A H h=>h) (fun A H h=>?_) (fun i A H hi h=>?_) fun A H h=>h))
 ·show if id=id then _ else _
  rw[if_pos rfl];exact h
 ·show if i=id then _ else _
  rw[if_neg hi];exact h
end
end Go.Eng
