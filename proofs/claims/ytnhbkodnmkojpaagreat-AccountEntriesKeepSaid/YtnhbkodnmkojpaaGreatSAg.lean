/- A part of the proof: EngMono, EngWp, EngSym, EngSymD, EngSymO, EngSymL. No conditions. -/
import Derived.Test.YtnhbkodnmkojpaaGreatSAe
set_option maxRecDepth 100000
set_option maxHeartbeats 64000000
set_option linter.unusedVariables false
set_option linter.unusedSimpArgs false
noncomputable section
namespace Go.Eng
open Go
def RLe {α:Type} (r r':R α):Prop:=∀ o,r=.ok o→r'=.ok o
section
variable {α γ:Type}
theorem RLe.refl (r:R α):RLe r r:=fun _ h=>h
theorem RLe.bad (s:String) (r:R α):RLe (.bad s) r:=fun _ h=>by cases h
theorem RLe.cj {f f':α→R γ}:∀ (l:List α),(∀ x∈l,RLe (f x) (f' x))→RLe (Eng.cj f l) (Eng.cj f' l)
 | [],_=>RLe.refl _
 | [x],h=>h x (List.mem_singleton.2 rfl)
 | x::y::l,h=>by
  have h1:=h x (List.mem_cons_self ..);have h2:=RLe.cj (y::l) fun z hz=>h z (List.mem_cons_of_mem _ hz);intro o ho;have Z1:wy (f x) (Eng.cj f (y::l))=.ok o:=ho;show wy (f' x) (Eng.cj f' (y::l))=.ok o;cases ha:f x with
  | bad s=>rw[ha] at Z1;cases Z1
  | ok oa=>
   cases hb:Eng.cj f (y::l) with
   | bad s=>rw[ha,hb] at Z1;cases Z1
   | ok ob=>
    rw[ha,hb] at Z1;rw[h1 oa ha,h2 ob hb];exact Z1
theorem RLe.bind {r r':R α} {f f':α→R γ} (hr:RLe r r') (hf:∀ x,RLe (f x) (f' x)):RLe (r.bind f) (r'.bind f'):=by
 cases r with
 | bad s=>exact RLe.bad _ _
 | ok l=>
  rw[hr l rfl];exact RLe.cj l fun x _=>hf x
theorem RLe.ifE {b:Bool} {x x' y y':R α} (hx:RLe x x') (hy:RLe y y'):RLe (Eng.ifE b x y) (Eng.ifE b x' y'):=by cases b with|true=>exact hx|false=>exact hy
theorem RLe.ay {o:Option γ} {e e':R α} {f f':γ→R α} (he:RLe e e') (h:∀ a,RLe (f a) (f' a)):RLe (Eng.ay o e f) (Eng.ay o e' f'):=by cases o with|none=>exact he|some a=>exact h a
end
theorem RLe.join {h:Hp} {r r':R (AV×Hp)} (hr:RLe r r'):RLe (oB h r) (oB h r'):=by
 cases r with
 | bad s=>exact RLe.bad _ _
 | ok l=>rw[hr l rfl];exact RLe.refl _
structure SL (rec rec':Rec):Prop where
 code:∀ r c a h,RLe (rec.code r c a h) (rec'.code r c a h)
 call:∀ f l h,RLe (rec.call f l h) (rec'.call f l h)
theorem Eb {tm:PT AV} {g:Option (Option Tmp×Bool)} {y y' n n':R (ab×Hp)} (hy:RLe y y') (hn:RLe n n'):RLe (bu tm g y n) (bu tm g y' n'):=by
 unfold bu;refine RLe.ay hy fun p=>RLe.ay hn fun t=>RLe.ay hn fun v=>?_;cases v with
 | one c=>cases c with
  | b b=>exact RLe.ifE (RLe.ifE hy hn) (RLe.ifE hn hy)
  | i _ _=>exact hn
  | o _=>exact RLe.refl _
 | agg _=>exact hn
 | tup _=>exact hn
 | any=>exact RLe.refl _
theorem CL {e:ax} {n n' r r':R (ax×ab×Hp)} {x x':Nat→R (ax×ab×Hp)} (hn:RLe n n') (hx:∀ i,RLe (x i) (x' i)) (hr:RLe r r'):RLe (exE e n x r) (exE e n' x' r'):=by
 cases e with
 | normal=>exact hn
 | exit i=>exact hx i
 | ret=>exact hr
theorem jS {a:ab} {dst:Option Tmp} {v:AV} {h:Hp} {k k':ab→Hp→R (ab×Hp)} (hk:∀ a h,RLe (k a h) (k' a h)):RLe (fC a dst v h k) (fC a dst v h k'):=
 RLe.ay (hk _ _) fun _=>RLe.ifE (hk _ _) (RLe.refl _)
section
variable {E:Env} {rec rec':Rec} (hr:SL rec rec')
include hr
theorem HI {id:Nat} {body:Code} (x:ax×ab×Hp):RLe (eh rec id body x) (eh rec' id body x):=by
 unfold eh;split
 ·exact RLe.bind (hr.code _ _ _ _) fun y=>RLe.refl _
 exact RLe.refl _
theorem vk {id:Nat} {args:List AV} {h:Hp}:RLe (fL rec id args h) (fL rec' id args h):=by
 unfold fL;split
 ·exact RLe.ifE (RLe.bind (hr.code _ _ _ _) fun x=>HI hr x) (RLe.refl _)
 exact RLe.refl _
theorem rZ {h:Hp} {n:ad}:RLe (jh E rec h n) (jh E rec' h n):=by
 cases n with
 | val v h'=>exact RLe.refl _
 | ox l=>exact RLe.refl _
 | enter f args=>exact RLe.ay (hr.call _ _ _) fun _=>RLe.refl _
 | round id args=>exact vk hr
 | bad s=>exact RLe.refl _
theorem Qv {a:ab} {dst:Option Tmp} {h:Hp} {k k':ab→Hp→R (ab×Hp)} {n:ad} (hk:∀ a h,RLe (k a h) (k' a h)):RLe (mo E rec a dst h k n) (mo E rec' a dst h k' n):=by
 cases n with
 | val v h'=>exact jS hk
 | ox l=>exact RLe.cj l fun x _=>jS hk
 | enter f args=>exact RLe.bind (RLe.ay (hr.call _ _ _) fun _=>RLe.refl _) fun x=>jS hk
 | round id args=>exact RLe.bind (vk hr) fun x=>jS hk
 | bad s=>exact RLe.refl _
theorem nf:∀ (l:List OF) (a:ab) (h:Hp),RLe (dR E rec l a h) (dR E rec' l a h)
 | [],_,_=>RLe.refl _
 | o::l,a,h=>Eb (Qv hr fun a h=>nf l a h) (jS fun a h=>nf l a h)
omit hr in
theorem Qi {kk j:Nat} {a:ab} {dst:Option Tmp} {h:Hp} {sub:PT aK} {us did:List Did} {K K':List Did→ab→Hp→R (ab×Hp)} {x x':R (AV×Hp)} (hx:RLe x x') (hK:∀ d a h,RLe (K d a h) (K' d a h)):
  RLe (xe kk j a dst h sub us did K x) (xe kk j a dst h sub us did K' x'):=by
 cases x with
 | bad s=>exact RLe.bad _ _
 | ok l=>
  rw[hx l rfl];cases l with
  | nil=>exact RLe.refl _
  | cons y l=>
   cases l with
   | cons _ _=>exact RLe.refl _
   | nil=>exact RLe.ifE (jS fun a h=>hK _ a h) (RLe.refl _)
theorem oe:∀ (l:List OF) (j:Nat) (ms:List Nat) (did:List Did) (a:ab) (h:Hp),RLe (cJ E rec l j ms did a h) (cJ E rec' l j ms did a h)
 | [],_,_,_,_,_=>RLe.refl _
 | o::l,j,[],did,a,h=>RLe.refl _
 | o::l,j,m::ms,did,a,h=>Eb (Qi (rZ hr) fun d a h=>oe l _ ms d a h) (jS fun a h=>oe l _ ms did a h)
theorem JP {r:Option Nat} {f:OpF} {ps:List Tmp} {as bo:Code} {a:ab} {h:Hp}:RLe (gI E rec r f ps as bo a h) (gI E rec' r f ps as bo a h):=by
 unfold gI;split
 ·exact RLe.refl _
 split
 ·exact RLe.ifE (RLe.bind (hr.call _ _ _) fun x=>RLe.refl _) (RLe.refl _)
 exact RLe.refl _
theorem dq:∀ (c:Code) (r:Option Nat) (a:ab) (h:Hp),RLe ((codeF E c).run rec r a h) ((codeF E c).run rec' r a h):=by
 intro c;induction c with
 | skip=>intro r a h;exact RLe.refl _
 | region id ops draw=>
  intro r a h;cases draw with
  | false=>exact RLe.bind (nf hr _ a h) fun x=>RLe.refl _
  | true=>
   show RLe ((Eng.ifE (dF ops) (CF.mk fun rec _ a h=>(cJ E rec (pA E.P ops) 0 (dw [] 0 ops.toList) [] a h).bind eJ) (CF.mk fun _ _ _ _=>.bad "draw - slots")).run rec r a h)
    ((Eng.ifE (dF ops) (CF.mk fun rec _ a h=>(cJ E rec (pA E.P ops) 0 (dw [] 0 ops.toList) [] a h).bind eJ) (CF.mk fun _ _ _ _=>.bad "draw - slots")).run rec' r a h)
   cases dF ops with
   | false=>exact RLe.refl _
   | true=>exact RLe.bind (oe hr _ _ _ _ a h) fun x=>RLe.refl _
 | seq x y hx hy=>
  intro r a h;exact RLe.bind (hx r a h) fun z=>CL (hy r _ _) (fun _=>RLe.refl _) (RLe.refl _)
 | cond c x y hx hy=>
  intro r a h;show RLe (dz ((opF c).ev a.tm) (.bad "cond") fun b=>Eng.ifE b ((codeF E x).run rec r a h) ((codeF E y).run rec r a h)) (dz ((opF c).ev a.tm) (.bad "cond") fun b=>Eng.ifE b ((codeF E x).run rec' r a h) ((codeF E y).run rec' r a h))
  cases (opF c).ev a.tm with
  | one q=>
   cases q with
   | b b=>exact RLe.ifE (hx r a h) (hy r a h)
   | i _ _=>exact RLe.refl _
   | o _=>exact RLe.refl _
  | agg _=>exact RLe.refl _
  | tup _=>exact RLe.refl _
  | any=>exact RLe.refl _
 | block id x hx=>
  intro r a h;exact RLe.bind (hx r a h) fun z=>RLe.refl _
 | loop x hx=>
  intro r a h;exact RLe.bind (hx r a h) fun z=>CL (hr.code _ _ _ _) (fun _=>RLe.refl _) (RLe.refl _)
 | rangeFunc f ps as bo _ _=>intro r a h;exact JP hr
 | exit id=>intro r a h;exact RLe.refl _
 | scope x hx=>intro r a h;exact hx r a h
 | label l=>intro r a h;exact RLe.refl _
 | goto l=>intro r a h;exact RLe.refl _
 | ret=>intro r a h;exact RLe.refl _
 | refuse x=>intro r a h;exact RLe.refl _
theorem OJ {f:FuncId} {args:List AV} {h:Hp}:RLe (hH E rec f args h) (hH E rec' f args h):=by
 unfold hH NQ;split
 ·split
  ·exact RLe.ifE (RLe.join (RLe.bind (dq hr _ none _ h) fun x=>RLe.refl _)) (RLe.refl _)
  exact RLe.refl _
 exact RLe.refl _
end
theorem sv (E:Env):∀ n,SL (eval E n) (eval E (n+1))
 | 0=>⟨fun _ _ _ _=>RLe.bad _ _,fun _ _ _=>RLe.bad _ _⟩
 | n+1=>⟨fun r c a h=>dq (sv E n) c r a h,fun f l h=>OJ (sv E n)⟩
theorem cO (E:Env) {n:Nat}:∀ {k:Nat},n≤k→SL (eval E n) (eval E k)
 | 0,h=>by
  have:n=0:=by omega
  subst this;exact ⟨fun _ _ _ _=>RLe.refl _,fun _ _ _=>RLe.refl _⟩
 | k+1,h=>by
  by_cases e:n=k+1
  ·subst e;exact ⟨fun _ _ _ _=>RLe.refl _,fun _ _ _=>RLe.refl _⟩
  have h1:=cO E (n:=n) (k:=k) (by omega);have h2:=sv E k;exact ⟨fun r c a h o ho=>h2.code r c a h o (h1.code r c a h o ho),fun f l h o ho=>h2.call f l h o (h1.call f l h o ho)⟩
def C1 (E:Env) (f:FuncId) (args:List AV) (H:Hp) (Q:AV→Hp→Prop):Prop:=∃ n v H',(eval E n).call f args H=.ok [(v,H')]∧Q v H'
def R1 (E:Env) (r:Option Nat) (c:Code) (A:ab) (H:Hp) (Q:ax→ab→Hp→Prop):Prop:=∃ n e A' H',(codeF E c).run (eval E n) r A H=.ok [(e,A',H')]∧Q e A' H'
def O1 (E:Env) (l:List OF) (A:ab) (H:Hp) (Q:ab→Hp→Prop):Prop:=∃ n A' H',dR E (eval E n) l A H=.ok [(A',H')]∧Q A' H'
def D1 (E:Env) (l:List OF) (j:Nat) (ms:List Nat) (did:List Did) (A:ab) (H:Hp) (Q:ab→Hp→Prop):Prop:=∃ n A' H',cJ E (eval E n) l j ms did A H=.ok [(A',H')]∧Q A' H'
def N1 (E:Env) (H:Hp) (n:ad) (Q:AV→Hp→Prop):Prop:=∃ k v H',jh E (eval E k) H n=.ok [(v,H')]∧Q v H'
section
variable {E:Env}
theorem C1.mono {f:FuncId} {args:List AV} {H:Hp} {Q Q':AV→Hp→Prop} (h:C1 E f args H Q) (hq:∀ v H',Q v H'→Q' v H'):C1 E f args H Q':=
 let ⟨n,v,H',h1,h2⟩:=h;⟨n,v,H',h1,hq _ _ h2⟩
theorem R1.mono {r:Option Nat} {c:Code} {A:ab} {H:Hp} {Q Q':ax→ab→Hp→Prop} (h:R1 E r c A H Q) (hq:∀ e A' H',Q e A' H'→Q' e A' H'):R1 E r c A H Q':=
 let ⟨n,e,A',H',h1,h2⟩:=h;⟨n,e,A',H',h1,hq _ _ _ h2⟩
theorem O1.mono {l:List OF} {A:ab} {H:Hp} {Q Q':ab→Hp→Prop} (h:O1 E l A H Q) (hq:∀ A' H',Q A' H'→Q' A' H'):O1 E l A H Q':=
 let ⟨n,A',H',h1,h2⟩:=h;⟨n,A',H',h1,hq _ _ h2⟩
def Thn (K:ab→Hp→Prop) (Q:ax→ab→Hp→Prop):ax→ab→Hp→Prop
 | .normal,A,H=>K A H
 | .exit i,A,H=>Q (.exit i) A H
 | .ret,A,H=>Q .ret A H
def InB (id:Nat) (Q:ax→ab→Hp→Prop):ax→ab→Hp→Prop
 | .normal,A,H=>Q .normal A H
 | .exit i,A,H=>if i=id then Q .normal A H else Q (.exit i) A H
 | .ret,A,H=>Q .ret A H
variable {r:Option Nat} {A:ab} {H:Hp} {Q:ax→ab→Hp→Prop}
theorem R1.skip (h:Q .normal A H):R1 E r .skip A H Q:=⟨0,_,_,_,rfl,h⟩
theorem R1.exit {id:Nat} (h:Q (.exit id) A H):R1 E r (.exit id) A H Q:=⟨0,_,_,_,rfl,h⟩
theorem R1.ret (h:Q .ret A H):R1 E r .ret A H Q:=⟨0,_,_,_,rfl,h⟩
theorem R1.scope {c:Code} (h:R1 E r c A H Q):R1 E r (.scope c) A H Q:=h
theorem R1.seq {x y:Code} (h:R1 E r x A H (Thn (fun A H=>R1 E r y A H Q) Q)):R1 E r (.seq x y) A H Q:=by
 obtain ⟨n,e,A1,H1,h1,h2⟩:=h;cases e with
 | normal=>
  obtain ⟨k,e2,A2,H2,h3,h4⟩:=h2;refine ⟨max n k,e2,A2,H2,?_,h4⟩;have a1:=dq (cO E (Nat.le_max_left n k)) x r A H _ h1;have a2:=dq (cO E (Nat.le_max_right n k)) y r A1 H1 _ h3;show ((codeF E x).run (eval E (max n k)) r A H).bind (oU (codeF E y) (eval E (max n k)) r)=_;rw[a1];exact a2
 | exit i=>
  refine ⟨n,_,A1,H1,?_,h2⟩;show ((codeF E x).run (eval E n) r A H).bind (oU (codeF E y) (eval E n) r)=_;rw[h1];rfl
 | ret=>
  refine ⟨n,_,A1,H1,?_,h2⟩;show ((codeF E x).run (eval E n) r A H).bind (oU (codeF E y) (eval E n) r)=_;rw[h1];rfl
theorem R1.rG {x y:Code} (h:∀ K:ab→Hp→Prop,(∀ A H,R1 E r y A H Q→K A H)→R1 E r x A H (Thn K Q)):R1 E r (.seq x y) A H Q:=R1.seq (h _ fun _ _ h=>h)
theorem R1.cond {c:Operand} {x y:Code} {b:Bool} (hc:ev A.tm c=.one (.b b)) (h:R1 E r (if b=true then x else y) A H Q):R1 E r (.cond c x y) A H Q:=by
 obtain ⟨n,e,A1,H1,h1,h2⟩:=h;refine ⟨n,e,A1,H1,?_,h2⟩;show dz (ev A.tm c) (.bad "cond") (fun b=>Eng.ifE b ((codeF E x).run (eval E n) r A H) ((codeF E y).run (eval E n) r A H))=_
 rw[hc];cases b with
 | true=>exact h1
 | false=>exact h1
theorem R1.block {id:Nat} {c:Code} (h:R1 E r c A H (InB id Q)):R1 E r (.block id c) A H Q:=by
 obtain ⟨n,e,A1,H1,h1,h2⟩:=h;have key:∀ e2,mQ id (e,A1,H1)=.ok [(e2,A1,H1)]→Q e2 A1 H1→R1 E r (.block id c) A H Q:=fun e2 a b=>⟨n,e2,A1,H1,by
  show ((codeF E c).run (eval E n) r A H).bind (mQ id)=_;rw[h1];exact a,b⟩
 cases e with
 | normal=>exact key .normal rfl h2
 | ret=>exact key .ret rfl h2
 | exit i=>
  have V8:if i=id then Q .normal A1 H1 else Q (.exit i) A1 H1:=h2;by_cases hi:i=id
  ·rw[zB0 hi] at V8;refine key .normal ?_ V8;show Eng.ifE (Nat.beq i id) (R.ok [((.normal:ax),A1,H1)]) (R.ok [(.exit i,A1,H1)])=_;rw[hi,Nat.beq_refl];rfl
  rw[zB1 hi] at V8;refine key (.exit i) ?_ V8;show Eng.ifE (Nat.beq i id) (R.ok [((.normal:ax),A1,H1)]) (R.ok [(.exit i,A1,H1)])=_;have:Nat.beq i id=false:=by
   cases hb:Nat.beq i id with
   | false=>rfl
   | true=>exact absurd (zA3 hb) hi
  rw[this];rfl
theorem R1.round {c:Code} (h:R1 E r c A H (Thn (fun A H=>R1 E r (.loop c) A H Q) Q)):R1 E r (.loop c) A H Q:=by
 obtain ⟨n,e,A1,H1,h1,h2⟩:=h;cases e with
 | normal=>
  obtain ⟨k,e2,A2,H2,h3,h4⟩:=h2;refine ⟨max n k+1,e2,A2,H2,?_,h4⟩;have a1:=dq (cO E (show n≤max n k+1 by omega)) c r A H _ h1;have a2:(eval E (max n k+1)).code r (.loop c) A1 H1=.ok [(e2,A2,H2)]:=dq (cO E (Nat.le_max_right n k)) (.loop c) r A1 H1 _ h3;show ((codeF E c).run (eval E (max n k+1)) r A H).bind (uD (eval E (max n k+1)) r c)=_;rw[a1];exact a2
 | exit i=>
  refine ⟨n,_,A1,H1,?_,h2⟩;show ((codeF E c).run (eval E n) r A H).bind (uD (eval E n) r c)=_;rw[h1];rfl
 | ret=>
  refine ⟨n,_,A1,H1,?_,h2⟩;show ((codeF E c).run (eval E n) r A H).bind (uD (eval E n) r c)=_;rw[h1];rfl
theorem R1.loop {c:Code} (I:Nat→ab→Hp→Prop) (hI:∀ k A H,I k A H→R1 E r c A H (Thn (fun A' H'=>∃ k',k'<k∧I k' A' H') Q)):∀ (k:Nat) {A:ab} {H:Hp},I k A H→R1 E r (.loop c) A H Q:=by
 intro k;induction k using Nat.strongRecOn with
 | ind k ih=>
  intro A H h;refine R1.round ((hI k A H h).mono fun e A' H' hq=>?_);cases e with
  | normal=>obtain ⟨k',hk,h'⟩:=hq;exact ih k' hk h'
  | exit i=>exact hq
  | ret=>exact hq
theorem R1.region {id:Nat} {ops:Array Oper} (h:O1 E (pA E.P ops) A H fun A H=>Q .normal A H):R1 E r (.region id ops false) A H Q:=by
 obtain ⟨n,A1,H1,h1,h2⟩:=h;refine ⟨n,.normal,A1,H1,?_,h2⟩;show (dR E (eval E n) (pA E.P ops) A H).bind eJ=_;rw[h1];rfl
theorem R1.draw {id:Nat} {ops:Array Oper} (hs:dF ops=true) (h:D1 E (pA E.P ops) 0 (dw [] 0 ops.toList) [] A H fun A H=>Q .normal A H):R1 E r (.region id ops true) A H Q:=by
 obtain ⟨n,A1,H1,h1,h2⟩:=h;refine ⟨n,.normal,A1,H1,?_,h2⟩;show (Eng.ifE (dF ops) (CF.mk fun rec _ a h=>(cJ E rec (pA E.P ops) 0 (dw [] 0 ops.toList) [] a h).bind eJ) (CF.mk fun _ _ _ _=>.bad "draw - slots")).run (eval E n) r A H=_
 rw[hs];show (cJ E (eval E n) (pA E.P ops) 0 (dw [] 0 ops.toList) [] A H).bind eJ=_;rw[h1];rfl
theorem N1.val {H H':Hp} {v:AV} {Q:AV→Hp→Prop} (h:Q v H'):N1 E H (.val v H') Q:=⟨0,v,H',rfl,h⟩
theorem N1.call {H:Hp} {f:FuncId} {args:List AV} {Q:AV→Hp→Prop} (hp:E.fE f args=none) (h:C1 E f args H Q):N1 E H (.enter f args) Q:=by
 obtain ⟨n,v,H',h1,h2⟩:=h;refine ⟨n,v,H',?_,h2⟩;show ay (E.fE f args) ((eval E n).call f args H) (fun v=>.ok [(v,H)])=_;rw[hp];exact h1
theorem N1.fE {H:Hp} {f:FuncId} {args:List AV} {v:AV} {Q:AV→Hp→Prop} (hp:E.fE f args=some v) (h:Q v H):N1 E H (.enter f args) Q:=by
 refine ⟨0,v,H,?_,h⟩;show ay (E.fE f args) ((eval E 0).call f args H) (fun v=>.ok [(v,H)])=_;rw[hp];rfl
def bq (A:ab) (d:Option Tmp) (v:AV):ab:=ay d A fun d=>A.put d v
def aq (d:Option Tmp) (nt:Nat):Bool:=match d with|none=>true|some d=>Nat.blt d nt
theorem iR {a:ab} {d:Option Tmp} {v:AV} {h:Hp} {k:ab→Hp→R (ab×Hp)} (hd:aq d a.nt=true):fC a d v h k=k (bq a d v) h:=by
 cases d with
 | none=>rfl
 | some d=>
  show Eng.ifE (Nat.blt d a.nt) (k (a.put d v) h) (.bad "slot")=_
  have:Nat.blt d a.nt=true:=hd;rw[this];rfl
theorem O1.nil {Q:ab→Hp→Prop} (h:Q A H):O1 E [] A H Q:=⟨0,A,H,rfl,h⟩
theorem O1.cons {g:Option (Option Tmp×Bool)} {d:Option Tmp} {f:SF} {o:Oper} {l:List OF} {Q:ab→Hp→Prop} (hg:∀ y n:R (ab×Hp),bu A.tm g y n=y) (hd:aq d A.nt=true)
  (h:N1 E H (f.run A.tm H) fun v H'=>O1 E l (bq A d v) H' Q):O1 E (⟨g,d,f,o⟩::l) A H Q:=by
 obtain ⟨n,v,H1,h1,k,A2,H2,h2,h3⟩:=h;refine ⟨max n k,A2,H2,?_,h3⟩;have a1:=rZ (E:=E) (cO E (Nat.le_max_left n k)) _ h1;have a2:=nf (E:=E) (cO E (Nat.le_max_right n k)) l (bq A d v) H1 _ h2;show bu A.tm g (mo E (eval E (max n k)) A d H (dR E (eval E (max n k)) l) (f.run A.tm H)) (fC A d aF H (dR E (eval E (max n k)) l))=_;rw[hg];have e:mo E (eval E (max n k)) A d H (dR E (eval E (max n k)) l) (f.run A.tm H)=(jh E (eval E (max n k)) H (f.run A.tm H)).bind fun x=>fC A d x.1 x.2 (dR E (eval E (max n k)) l):=by
  cases f.run A.tm H <;> rfl
 rw[e,a1];show fC A d v H1 (dR E (eval E (max n k)) l)=_;rw[iR hd];exact a2
theorem O1.On {g:Option (Option Tmp×Bool)} {d:Option Tmp} {f:SF} {o:Oper} {l:List OF} {Q:ab→Hp→Prop} (hg:∀ y n:R (ab×Hp),bu A.tm g y n=n) (hd:aq d A.nt=true)
  (h:O1 E l (bq A d aF) H Q):O1 E (⟨g,d,f,o⟩::l) A H Q:=by
 obtain ⟨k,A2,H2,h2,h3⟩:=h;refine ⟨k,A2,H2,?_,h3⟩;show bu A.tm g (mo E (eval E k) A d H (dR E (eval E k) l) (f.run A.tm H)) (fC A d aF H (dR E (eval E k) l))=_;rw[hg,iR hd];exact h2
theorem C1.Wt {f:FuncId} {fn:Func} {c:Code} {args:List AV} {Q:AV→Hp→Prop} (hf:E.P.funcs[f]?=some fn) (hb:fn.body=some c) (hn:args.length≤fn.ntmps) (V5:fn.ntmps≤1048576)
  (h:R1 E none c ⟨setArgs args 0 .leaf,fn.ntmps,[]⟩ H fun e A' H'=>∃ v H2,aC E fn.results.toList (e,A',H')=.ok [(v,H2)]∧Q v H2):C1 E f args H Q:=by
 obtain ⟨n,e,A',H',h1,v,H2,h2,h3⟩:=h;refine ⟨n+1,v,H2,?_,h3⟩;show hH E (eval E n) f args H=_;unfold hH NQ;rw[hf];simp only[hb];show Eng.ifE (both (Nat.ble (oA args) fn.ntmps) (Nat.ble fn.ntmps 1048576)) (oB H (((codeF E c).run (eval E n) none ⟨setArgs args 0 .leaf,fn.ntmps,[]⟩ H).bind (aC E fn.results.toList))) (.bad "too many arguments")=_
 have e1:Nat.ble (oA args) fn.ntmps=true:=zA5 hn;have e2:Nat.ble fn.ntmps 1048576=true:=zA5 V5;rw[e1,e2];show oB H (((codeF E c).run (eval E n) none ⟨setArgs args 0 .leaf,fn.ntmps,[]⟩ H).bind (aC E fn.results.toList))=_;rw[h1];have e3:R.bind (R.ok [(e,A',H')]) (aC E fn.results.toList)=aC E fn.results.toList (e,A',H'):=rfl;rw[e3,h2];rfl
end
def slot (tm:PT AV) (t:Nat):AV:=ay (tm.get t) aF fun v=>v
theorem Kw (tm:PT AV) (f:FuncId):ev tm (.func f)=.one (.o (.clo f [])):=rfl
theorem PX (tm:PT AV) (k:IntKind) (n:Int):ev tm (.const (.int k n))=.one (.i k n):=rfl
theorem Ln (tm:PT AV) (b:Bool):ev tm (.const (.bool b))=.one (.b b):=rfl
theorem Rc (tm:PT AV) (s:ByteArray):ev tm (.const (.string s))=.one (.o (.str s.data.toList)):=rfl
theorem MO (tm:PT AV):ev tm (.const (.slice none 0 0))=.one (.o .nilS):=rfl
theorem aa (A:ab) (d t:Nat) (v:AV):slot (bq A (some d) v).tm t=if t=d then v else slot A.tm t:=by
 show ay ((A.tm.set d v).get t) aF (fun v=>v)=_;rw[PT.cS];by_cases h:t=d
 ·subst h;rw[zB0 rfl,zB0 rfl];rfl
 rw[zB1 h,zB1 h];rfl
theorem Aj (A:ab) (v:AV):bq A none v=A:=rfl
theorem aE (A:ab) (d:Option Tmp) (v:AV):(bq A d v).nt=A.nt:=by cases d <;> rfl
theorem ak (A:ab) (d:Option Tmp) (v:AV):(bq A d v).dfr=A.dfr:=by cases d <;> rfl
theorem tn:∀ (l:List AV) (k:Nat) (tm:PT AV) (t:Nat),k+l.length≤1048576→(setArgs l k tm).get t=if k≤t∧t<k+l.length then l[t - k]? else tm.get t
 | [],k,tm,t,_=>by
  show tm.get t=_;rw[zB1 (by simp only[List.length_nil];omega)]
 | v::l,k,tm,t,h=>by
  simp only[List.length_cons] at h;show (setArgs l (k+1) (tm.set k v)).get t=_;rw[tn l (k+1) (tm.set k v) t (by omega),PT.ov _ _ _ _ (by omega)];simp only[List.length_cons];by_cases h1:t=k
  ·subst h1;rw[zB1 (by omega),zB0 rfl,zB0 (by omega)];simp
  by_cases h2:k+1≤t∧t<k+1+l.length
  ·rw[zB0 h2,zB0 (by omega)];have:t - k=(t - (k+1))+1:=by omega
   rw[this];simp
  rw[zB1 h2,zB1 h1,zB1 (by omega)]
theorem yn (l:List AV) (t:Nat) (h:l.length≤1048576):slot (setArgs l 0 .leaf) t=(l[t]?).getD aF:=by
 unfold slot;rw[tn l 0 .leaf t (by omega)];by_cases h1:t<l.length
 ·rw[zB0 ⟨Nat.zero_le _,by omega⟩,Nat.sub_zero,zB4 h1];rfl
 rw[zB1 (by omega),List.getElem?_eq_none (by omega)];rfl
section
variable {P:Program} {tm:PT AV} {H:Hp} {d:Option Tmp} {ty:TypeId} {pos:String} {af:Array Edge} {g:Option (Nat×Bool)}
theorem CP {α:Type} {o:Option α} {a:α} {s:String} {f:α→SF} (h:o=some a):(ndF o s f).run tm H=(f a).run tm H:=by subst h;rfl
theorem LF (x:Operand):(ao P ⟨d,.move x,ty,pos,af,g⟩).run tm H=.val (ev tm x) H:=by cases x <;> rfl
theorem yV (x:Operand):(ao P ⟨d,.assign x,ty,pos,af,g⟩).run tm H=.val (ev tm x) H:=by cases x <;> rfl
theorem Lh (c x y:Operand):(ao P ⟨d,.pick c x y,ty,pos,af,g⟩).run tm H=dz (ev tm c) (.bad "pick") fun b=>.val (ifE b (ev tm x) (ev tm y)) H:=rfl
theorem Lx (t:TypeId) (x:Operand) {p:Bool×Nat} (h:loadT P t=some p):(ao P ⟨d,.load t x,ty,pos,af,g⟩).run tm H=bR H p.1 p.2 (ev tm x):=CP h
theorem FV (t:TypeId) (x y:Operand) {n:Nat} (h:aS P t=some n):(ao P ⟨d,.store t x y,ty,pos,af,g⟩).run tm H=fQ H n (ev tm y) (ev tm x):=CP h
theorem PB (op:BinOp) (t:TypeId) (x y:Operand) (c:TypeId):(ao P ⟨d,.binOp op t x y c,ty,pos,af,g⟩).run tm H=bp H (aP P t) op (dV op) (ev tm x) (ev tm y) (an P tm H ⟨d,.binOp op t x y c,ty,pos,af,g⟩):=rfl
theorem VZ (f:Operand) (as:Array Operand) (ts:Array TypeId):(ao P ⟨d,.call ⟨.value f,as,ts⟩,ty,pos,af,g⟩).run tm H=lG P (ev tm f) (evs as.toList tm):=rfl
theorem Yh (x:Operand) (t:TypeId) {k:Nat} (h:eu P t=some k):(ao P ⟨d,.call ⟨.builtin .len,#[x],#[t]⟩,ty,pos,af,g⟩).run tm H=cG H k (ev tm x):=CP h
theorem Lk:evs [] tm=[]:=rfl
theorem Ef (x:Operand) (l:List Operand):evs (x::l) tm=ev tm x::evs l tm:=rfl
end
section
variable {H:Hp} {alt:ad}
structure Fr (X:Nat→Prop) (H H':Hp):Prop where
 nx:H.nx≤H'.nx
 get:∀ i,i<H.nx→¬X i→H'.get i=H.get i
 log:∃ l,H'.log=l++H.log∧∀ i∈l,H.nx≤i∨X i
abbrev Gr (H H':Hp):Prop:=Fr (fun _=>False) H H'
theorem Fr.refl {X:Nat→Prop} (H:Hp):Fr X H H:=⟨zA1 _,fun _ _ _=>rfl,[],rfl,fun _ h=>by cases h⟩
theorem Fr.trans {X:Nat→Prop} {H1 H2 H3:Hp} (h:Fr X H1 H2) (k:Fr (fun i=>H1.nx≤i∨X i) H2 H3):Fr X H1 H3 where
 nx:=zA2 h.nx k.nx
 get:=fun i hi hx=>by rw[k.get i (zA0 hi h.nx) (fun h=>h.elim (by omega) hx),h.get i hi hx]
 log:=by
  obtain ⟨l,e,hl⟩:=h.log;obtain ⟨l',e',U6⟩:=k.log;refine ⟨l'++l,by rw[e',e,List.append_assoc],fun i hi=>?_⟩;rcases List.mem_append.1 hi with hi|hi
  ·rcases U6 i hi with h1|h1
   ·exact .inl (zA2 h.nx h1)
   exact h1
  exact hl i hi
theorem Fr.mono {X Y:Nat→Prop} {H H':Hp} (h:Fr X H H') (Z6:∀ i,X i→Y i):Fr Y H H':=⟨h.nx,fun i hi hy=>h.get i hi fun hx=>hy (Z6 i hx),by
 obtain ⟨l,e,hl⟩:=h.log;exact ⟨l,e,fun i hi=>(hl i hi).imp id (Z6 i)⟩⟩
theorem Fr.then {X Y:Nat→Prop} {H1 H2 H3:Hp} (h:Fr X H1 H2) (k:Fr Y H2 H3) (hy:∀ i,Y i→H1.nx≤i∨X i):Fr X H1 H3:=h.trans (k.mono hy)
theorem Fr.gr {X:Nat→Prop} {H1 H2 H3:Hp} (h:Fr X H1 H2) (k:Gr H2 H3):Fr X H1 H3:=h.trans (k.mono fun _ h=>h.elim)
theorem Fr.new {X:Nat→Prop} {H H':Hp} (h:Fr X H H') (o:aK):Fr X H (H'.new o) where
 nx:=zA2 h.nx (Nat.le_succ _)
 get:=fun i hi hx=>by
  show (H'.t.set H'.nx o).get i=_;rw[PT.cS,zB1 (by have:=h.nx;omega)];exact h.get i hi hx
 log:=h.log
theorem Fr.mod {X:Nat→Prop} {H H':Hp} (h:Fr X H H') {i:Nat} (o:aK) (hi:H.nx≤i∨X i):Fr X H (H'.mod i o) where
 nx:=h.nx
 get:=fun j hj hx=>by
  show (H'.t.set i o).get j=_;have Y0:j≠i:=fun e=>by subst e;exact hi.elim (by omega) hx
  rw[PT.cS,zB1 Y0];exact h.get j hj hx
 log:=by
  obtain ⟨l,e,hl⟩:=h.log;refine ⟨i::l,by show i::H'.log=_;rw[e];rfl,fun j hj=>?_⟩;rcases List.mem_cons.1 hj with rfl|hj
  ·exact hi
  exact hl j hj
theorem Fr.none {H H':Hp} (h:Gr H H') {X:Nat→Prop}:Fr X H H':=Fr.mono h fun _ h=>h.elim
theorem LL {β:Type} (b:Bool) (e:β) (f:Bool→β):dz (.one (.b b)) e f=f b:=rfl
end
inductive GW where
 | yes
 | no
 | lost
def gw (g:Option (Option Tmp×Bool)) (tm:PT AV):GW:=
 match g with
 | none=>.yes
 | some (none,_)=>.no
 | some (some t,w)=>match slot tm t with|.one (.b b)=>if b=w then .yes else .no|.tup _=>.no|_=>.lost
def CN (E:Env) (H:Hp) (n:ad) (next:AV→Hp→Prop):Prop:=
 ∀ lg,N1 E ⟨H.t,H.nx,lg⟩ n fun v h'=>∀ lg',(∀ X,Fr X ⟨H.t,H.nx,lg⟩ h'→Fr X H ⟨h'.t,h'.nx,lg'⟩)→next v ⟨h'.t,h'.nx,lg'⟩
theorem CN.n1 {E:Env} {H:Hp} {n:ad} {next:AV→Hp→Prop} (h:CN E H n next):N1 E H n next:=
 let ⟨k,v,H',h1,h2⟩:=h H.log;⟨k,v,H',h1,h2 H'.log fun _ h=>h⟩
def WT (E:Env) (A:ab) (d:Option Tmp) (next:ab→Hp→Prop) (H:Hp) (n:ad):Prop:=
 match n with
 | .val v H'=>next (bq A d v) H'
 | .enter f args=>CN E H (.enter f args) fun v H'=>next (bq A d v) H'
 | .round id args=>CN E H (.round id args) fun v H'=>next (bq A d v) H'
 | _=>False
def WU (E:Env) (o:Oper) (A:ab) (H:Hp) (next:ab→Hp→Prop) (g:GW):Prop:=
 match g with
 | .yes=>WT E A o.dst next H ((ao E.P o).run A.tm H)
 | .no=>next (bq A o.dst aF) H
 | .lost=>False
def WO (E:Env) (ops:List Oper) (Q:ab→Hp→Prop):List Oper→ab→Hp→Prop
 | [],A,H=>Q A H
 | o::l,A,H=>aq o.dst A.nt=true∧WU E o A H (WO E ops Q l) (gw (gOf ops o.guard) A.tm)
theorem WT.n1 {E:Env} {A:ab} {d:Option Tmp} {next:ab→Hp→Prop} {H:Hp} {n:ad} (h:WT E A d next H n):N1 E H n fun v H'=>next (bq A d v) H':=by
 cases n with
 | val v H'=>exact N1.val h
 | enter f args=>exact CN.n1 h
 | ox l=>exact h.elim
 | round id args=>exact CN.n1 h
 | bad s=>exact h.elim
theorem rS (g:Option (Option Tmp×Bool)) (tm:PT AV):(gw g tm=.yes∧∀ a b:R (ab×Hp),bu tm g a b=a)∨(gw g tm=.no∧∀ a b:R (ab×Hp),bu tm g a b=b)∨gw g tm=.lost:=by
 cases g with
 | none=>exact .inl ⟨rfl,fun _ _=>rfl⟩
 | some p=>
  obtain ⟨t,w⟩:=p;cases t with
  | none=>exact .inr (.inl ⟨rfl,fun _ _=>rfl⟩)
  | some t=>
   have e:∀ a b:R (ab×Hp),bu tm (some (some t,w)) a b=ay (tm.get t) b fun v=>AV.rec (motive:=fun _=>R (ab×Hp)) (fun c=>acE c (fun x=>ifE x (ifE w a b) (ifE w b a)) (fun _ _=>b) (fun _=>.bad "guard")) (fun _=>b) (fun _=>b) (.bad "guard") v:=fun _ _=>rfl
   have e2:gw (some (some t,w)) tm=match slot tm t with|.one (.b b)=>if b=w then .yes else .no|.tup _=>.no|_=>.lost:=rfl;unfold slot at e2;cases hv:tm.get t with
   | none=>rw[hv] at e2;exact .inr (.inl ⟨e2,fun a b=>by rw[e,hv];rfl⟩)
   | some v=>
    rw[hv] at e2;cases v with
    | one c=>
     cases c with
     | b x=>
      have e3:gw (some (some t,w)) tm=if x=w then .yes else .no:=e2;cases x <;> cases w <;> first
       | exact .inl ⟨e3,fun a b=>by rw[e,hv];rfl⟩
       | exact .inr (.inl ⟨e3,fun a b=>by rw[e,hv];rfl⟩)
     | i _ _=>exact .inr (.inr e2)
     | o _=>exact .inr (.inr e2)
    | agg _=>exact .inr (.inr e2)
    | tup _=>exact .inr (.inl ⟨e2,fun a b=>by rw[e,hv];rfl⟩)
    | any=>exact .inr (.inr e2)
theorem WO.o1 {E:Env} {ops:List Oper} {Q:ab→Hp→Prop}:∀ {l:List Oper} {A:ab} {H:Hp},WO E ops Q l A H→O1 E (fF E.P ops l) A H Q
 | [],A,H,h=>O1.nil h
 | o::l,A,H,h=>by
  obtain ⟨hd,hg⟩:=h;rcases rS (gOf ops o.guard) A.tm with ⟨h1,h2⟩|⟨h1,h2⟩|h1
  ·rw[h1] at hg;obtain ⟨n,v,H1,h3,h4⟩:=WT.n1 hg;exact O1.cons h2 hd ⟨n,v,H1,h3,WO.o1 h4⟩
  ·rw[h1] at hg;exact O1.On h2 hd (WO.o1 hg)
  rw[h1] at hg;exact hg.elim
theorem R1.reg {E:Env} {r:Option Nat} {A:ab} {H:Hp} {Q:ax→ab→Hp→Prop} {id:Nat} {ops:Array Oper} (h:WO E ops.toList (fun A H=>Q .normal A H) ops.toList A H):R1 E r (.region id ops false) A H Q:=R1.region h.o1
theorem C1.body {E:Env} {H:Hp} {f:FuncId} {fn:Func} {c:Code} {nt:Nat} {res:List ResultVar} {args:List AV} {Q:AV→Hp→Prop} (hf:E.P.funcs[f]?=some fn) (hb:fn.body=some c) (B0:fn.ntmps=nt) (q8:fn.results.toList=res) (hn:Nat.ble args.length nt=true) (V5:Nat.ble nt 1048576=true)
  (h:∀ tm,(∀ i v,args[i]?=some v→slot tm i=v)→R1 E none c ⟨tm,nt,[]⟩ H fun e A' H'=>∃ v H2,aC E res (e,A',H')=.ok [(v,H2)]∧Q v H2):C1 E f args H Q:=by
 subst B0 q8;have h1:args.length≤fn.ntmps:=zA4 hn;have h2:fn.ntmps≤1048576:=zA4 V5;refine C1.Wt hf hb h1 h2 (h _ fun i v hv=>?_);rw[yn _ _ (by omega),hv];rfl
theorem FN {E:Env} {t:Tmp} {A:ab} {H:Hp} {e:ax} {v:AV} {x:Bool×List AC} (he:e=.normal∨e=.ret) (hd:A.dfr=[]) (hv:slot A.tm t=v) (hx:fB v=some x):aC E [.tmp t] (e,A,H)=.ok [(cT [x],H)]:=by
 have key:(ay (closeAll H A.dfr) (R.bad "marks") fun h2=>ay (bh E.P [.tmp t] A.tm h2) (.bad "results") fun l=>.ok [(cT l,h2)])=.ok [(cT [x],H)]:=by
  rw[hd];have hs:(A.tm.get t)=none∨∃ u,A.tm.get t=some u∧u=v:=by
   unfold slot at hv;cases hg:A.tm.get t with
   | none=>exact .inl rfl
   | some u=>rw[hg] at hv;exact .inr ⟨u,rfl,hv⟩
  have hr:bh E.P [.tmp t] A.tm H=some [x]:=by
   show ay (ay (A.tm.get t) none fB) none (fun x=>ay (some []) none fun l=>some (x::l))=some [x];rcases hs with h|⟨u,h,rfl⟩
   ·exfalso;unfold slot at hv;rw[h] at hv;have X2:aF=v:=hv;rw[←X2] at hx;cases hx
   rw[h];show ay (fB u) none (fun x=>some [x])=_;rw[hx];rfl
  show ay (bh E.P [.tmp t] A.tm H) (R.bad "results") (fun l=>R.ok [(cT l,H)])=_
  rw[hr];rfl
 rcases he with rfl|rfl
 ·exact key
 exact key
section
variable {H:Hp} {id g off lim n fo:Nat}
theorem qt (h1:1≤n) (h2:fo+n≤lim):dA H fo n (.one (.o (.ptr id g off lim)))=.val (.one (.o (.ptr id g (off+fo) (lim - fo)))) H:=by
 show aH (both (Nat.ble 1 n) (Nat.ble (Nat.add fo n) lim)) _ _=_;have e1:Nat.ble 1 n=true:=zA5 h1;have e2:Nat.ble (Nat.add fo n) lim=true:=zA5 h2;rw[e1,e2];rfl
theorem Da {len sz i:Nat} (h:i<len):ct H sz (.one (.o (.sl id g off len sz))) (.one (.i .i64 (.ofNat i)))=.val (.one (.o (.ptr id g (off+i*sz) sz))) H:=by
 show aH (both (Nat.beq sz sz) (Nat.blt i len)) _ _=_;have e1:Nat.beq sz sz=true:=Nat.beq_refl _;have e2:Nat.blt i len=true:=zA5 h;rw[e1,e2];rfl
theorem eD {len sz i:Nat} (h:i<len):ct H sz (.one (.o (.sl id g off len sz))) (.one (.i .i64 (i:Int)))=.val (.one (.o (.ptr id g (off+i*sz) sz))) H:=Da h
def rowOf (o:Option aK) (g:Nat):Option (List AC):=
 match o with
 | some (.arr cells _ lo gen)=>if lo≤g∧g≤gen then some cells else none
 | some (.ro cells)=>if g=0 then some cells else none
 | _=>none
theorem cy {cells:List AC} {e:TypeId} {lo gen g:Nat} (h1:lo≤g) (h2:g≤gen):rowOf (some (.arr cells e lo gen)) g=some cells:=zB0 ⟨h1,h2⟩
theorem EC {cells:List AC}:rowOf (some (.ro cells)) 0=some cells:=rfl
theorem Kq (o:Option aK) (g off lim n:Nat):rdO o g off lim n=(rowOf o g).bind fun cells=>if n≤lim∧off+n≤cells.length then some ((cells.drop off).take n) else none:=by
 cases o with
 | none=>rfl
 | some o=>
  cases o with
  | arr cells e lo gen=>
   show ifE (both (Nat.ble lo g) (both (Nat.ble g gen) (both (Nat.ble n lim) (Nat.ble (Nat.add off n) (bw cells))))) (some (cut cells off n)) none=(if lo≤g∧g≤gen then some cells else none).bind _;simp only[bM,ck,bj,lP,Bool.and_eq_true,Nat.ble_eq];by_cases h1:lo≤g∧g≤gen
   ·rw[zB0 h1];by_cases h2:n≤lim∧off+n≤cells.length
    ·rw[zB0 ⟨h1.1,h1.2,h2.1,h2.2⟩];simp only[Option.bind_some,zB0 h2]
    rw[zB1 fun h=>h2 ⟨h.2.2.1,h.2.2.2⟩];simp only[Option.bind_some,zB1 h2]
   rw[zB1 h1,zB1 fun h=>h1 ⟨h.1,h.2.1⟩];rfl
  | oth x=>rfl
  | ro cells=>
   show ifE (both (Nat.beq g 0) (both (Nat.ble n lim) (Nat.ble (Nat.add off n) (bw cells)))) (some (cut cells off n)) none=(if g=0 then some cells else none).bind _;simp only[bM,ck,bj,lP,Bool.and_eq_true,Nat.ble_eq,Nat.beq_eq];by_cases h1:g=0
   ·rw[zB0 h1];by_cases h2:n≤lim∧off+n≤cells.length
    ·rw[zB0 ⟨h1,h2.1,h2.2⟩];simp only[Option.bind_some,zB0 h2]
    rw[zB1 fun h=>h2 ⟨h.2.1,h.2.2⟩];simp only[Option.bind_some,zB1 h2]
   rw[zB1 h1,zB1 fun h=>h1 h.1];rfl
def Rd (H:Hp) (id g off n:Nat) (c:List AC):Prop:=∃ cells,rowOf (H.get id) g=some cells∧off+n≤cells.length∧(cells.drop off).take n=c
theorem Rd.len {c:List AC} (h:Rd H id g off n c):c.length=n:=by
 obtain ⟨cells,h1,h4,rfl⟩:=h;simp
 omega
theorem Rd.part {c:List AC} (h:Rd H id g off n c) (i k:Nat) (hk:i+k≤n):Rd H id g (off+i) k ((c.drop i).take k):=by
 obtain ⟨cells,h1,h4,rfl⟩:=h;refine ⟨cells,h1,by omega,?_⟩;rw[List.drop_take,List.drop_drop,List.take_take];congr 1
 omega
theorem Rd.dp {c:List AC} {H':Hp} (h:Rd H id g off n c) (hg:H'.get id=H.get id):Rd H' id g off n c:=by
 obtain ⟨cells,h1,r⟩:=h;exact ⟨cells,by rw[hg];exact h1,r⟩
theorem Fh (o:aK) (i:Nat):(H.new o).get i=if i=H.nx then some o else H.get i:=PT.cS _ _ _ _
theorem FO (o:aK) (k i:Nat):(H.mod k o).get i=if i=k then some o else H.get i:=PT.cS _ _ _ _
end
section
variable {H:Hp} {kd:Nat} {alt:ad} {a b:List UInt8} {x y:Int}
theorem Sr {f:BF}:bp H kd .lss f (.one (.o (.str a))) (.one (.o (.str b))) alt=.val (.one (.b (aW a b))) H:=rfl
theorem Ti {f:BF}:bp H kd .geq f (.one (.o (.str a))) (.one (.o (.str b))) alt=.val (.one (.b (!aW a b))) H:=rfl
theorem QM {f:BF}:bp H kd .leq f (.one (.o (.str a))) (.one (.o (.str b))) alt=.val (.one (.b (aW a b||lEq a b))) H:=rfl
theorem RH {f:BF}:bp H kd .gtr f (.one (.o (.str a))) (.one (.o (.str b))) alt=.val (.one (.b (!(aW a b||lEq a b)))) H:=rfl
theorem Pf {f:BF}:bp H kd .eql f (.one (.o (.str a))) (.one (.o (.str b))) alt=.val (.one (.b (lEq a b))) H:=rfl
theorem QN {f:BF}:bp H kd .neq f (.one (.o (.str a))) (.one (.o (.str b))) alt=.val (.one (.b (!lEq a b))) H:=rfl
theorem To {k:IntKind}:bp H kd .lss (dV .lss) (.one (.i k x)) (.one (.i k y)) alt=.val (.one (.b (decide (x<y)))) H:=by
 have e:bp H kd .lss (dV .lss) (.one (.i k x)) (.one (.i k y)) alt=.val (.one (.b (!iLe y x))) H:=by cases k <;> rfl
 rw[e,wV];congr 3;rw[Bool.eq_iff_iff];simp
theorem SQ {k:IntKind}:bp H kd .leq (dV .leq) (.one (.i k x)) (.one (.i k y)) alt=.val (.one (.b (decide (x≤y)))) H:=by
 have e:bp H kd .leq (dV .leq) (.one (.i k x)) (.one (.i k y)) alt=.val (.one (.b (iLe x y))) H:=by cases k <;> rfl
 rw[e,wV]
theorem PZ {k:IntKind}:bp H kd .gtr (dV .gtr) (.one (.i k x)) (.one (.i k y)) alt=.val (.one (.b (decide (y<x)))) H:=by
 have e:bp H kd .gtr (dV .gtr) (.one (.i k x)) (.one (.i k y)) alt=.val (.one (.b (!iLe x y))) H:=by cases k <;> rfl
 rw[e,wV];congr 3;rw[Bool.eq_iff_iff];simp
theorem TD {k:IntKind}:bp H kd .geq (dV .geq) (.one (.i k x)) (.one (.i k y)) alt=.val (.one (.b (decide (y≤x)))) H:=by
 have e:bp H kd .geq (dV .geq) (.one (.i k x)) (.one (.i k y)) alt=.val (.one (.b (iLe y x))) H:=by cases k <;> rfl
 rw[e,wV]
theorem Tt {k:IntKind}:bp H kd .eql (dV .eql) (.one (.i k x)) (.one (.i k y)) alt=.val (.one (.b (x==y))) H:=by
 have e:bp H kd .eql (dV .eql) (.one (.i k x)) (.one (.i k y)) alt=.val (.one (.b (iEq x y))) H:=by cases k <;> rfl
 rw[e,sF]
theorem Rs {k:IntKind}:bp H kd .neq (dV .neq) (.one (.i k x)) (.one (.i k y)) alt=.val (.one (.b (!(x==y)))) H:=by
 have e:bp H kd .neq (dV .neq) (.one (.i k x)) (.one (.i k y)) alt=.val (.one (.b (!iEq x y))) H:=by cases k <;> rfl
 rw[e,sF]
theorem SV {k:IntKind}:bp H kd .add (dV .add) (.one (.i k x)) (.one (.i k y)) alt=.val (.one (.i k (k.wrap (x+y)))) H:=by
 have e:bp H kd .add (dV .add) (.one (.i k x)) (.one (.i k y)) alt=.val (.one (.i k (pR k (Int.add x y)))) H:=by cases k <;> rfl
 rw[e,qy];rfl
theorem TE {k:IntKind}:bp H kd .sub (dV .sub) (.one (.i k x)) (.one (.i k y)) alt=.val (.one (.i k (k.wrap (x - y)))) H:=by
 have e:bp H kd .sub (dV .sub) (.one (.i k x)) (.one (.i k y)) alt=.val (.one (.i k (pR k (Int.sub x y)))) H:=by cases k <;> rfl
 rw[e,qy];rfl
theorem TO {k:IntKind}:bp H kd .mul (dV .mul) (.one (.i k x)) (.one (.i k y)) alt=.val (.one (.i k (k.wrap (x*y)))) H:=by
 have e:bp H kd .mul (dV .mul) (.one (.i k x)) (.one (.i k y)) alt=.val (.one (.i k (pR k (Int.mul x y)))) H:=by cases k <;> rfl
 rw[e,qy];rfl
end
theorem ai {E:Env} {t:Tmp} {A:ab} {H:Hp} {e:ax} (c:AC) (he:e=.normal∨e=.ret) (hd:A.dfr=[]) (hv:slot A.tm t=.one c):aC E [.tmp t] (e,A,H)=.ok [(.one c,H)]:=FN he hd hv rfl
theorem ez:∀ us:List Did,dZ us []=true
 | []=>rfl
 | u::us=>by
  show both (vT u.V2 []) (dZ us [])=true;rw[ez us];rfl
section
variable {E:Env} {A:ab} {H:Hp} {Q:ab→Hp→Prop} {g:Option (Option Tmp×Bool)} {d:Option Tmp} {f:SF} {o:Oper} {l:List OF} {j m:Nat} {ms:List Nat} {did:List Did}
theorem D1.nil {j:Nat} {ms:List Nat} (h:Q A H):D1 E [] j ms did A H Q:=⟨0,A,H,rfl,h⟩
theorem D1.cons (hg:∀ y n:R (ab×Hp),bu A.tm g y n=y) (hd:aq d A.nt=true) {sub:PT aK} (U0:aJ H.t H.nx A.tm o (aD m did)=sub)
  (h:N1 E ⟨sub,H.nx,[]⟩ (f.run A.tm ⟨sub,H.nx,[]⟩) fun v H'=>dZ (aD m did) (cL sub H.nx H'.log)=true ∧
   D1 E l (j+1) ms (note (bc o) j sub H H' did (cL sub H.nx H'.log)) (bq A d v) ⟨cA (bc o) H H' (aD m did) (cL sub H.nx H'.log),H'.nx,cL sub H.nx H'.log++H.log⟩ Q):
  D1 E (⟨g,d,f,o⟩::l) j (m::ms) did A H Q:=by
 subst U0;obtain ⟨n,v,H1,h1,hf,k,A2,H2,h2,h3⟩:=h;refine ⟨max n k,A2,H2,?_,h3⟩;have a1:=rZ (E:=E) (cO E (Nat.le_max_left n k)) _ h1;have a2:=oe (E:=E) (cO E (Nat.le_max_right n k)) l (j+1) ms _ (bq A d v) _ _ h2;show bu A.tm g (xe (bc o) j A d H (aJ H.t H.nx A.tm o (aD m did)) (aD m did) did (cJ E (eval E (max n k)) l (Nat.add j 1) ms) (jh E (eval E (max n k)) ⟨aJ H.t H.nx A.tm o (aD m did),H.nx,[]⟩ (f.run A.tm ⟨aJ H.t H.nx A.tm o (aD m did),H.nx,[]⟩)))
  (fC A d aF H (cJ E (eval E (max n k)) l (Nat.add j 1) ms did))=_
 rw[hg,a1];show Eng.ifE (dZ (aD m did) (cL (aJ H.t H.nx A.tm o (aD m did)) H.nx H1.log)) (fC A d v _ (cJ E (eval E (max n k)) l (Nat.add j 1) ms _)) _=_;rw[hf];show fC A d v _ (cJ E (eval E (max n k)) l (Nat.add j 1) ms _)=_;rw[iR hd];exact a2
theorem D1.skip (hg:∀ y n:R (ab×Hp),bu A.tm g y n=n) (hd:aq d A.nt=true) (h:D1 E l (j+1) ms did (bq A d aF) H Q):D1 E (⟨g,d,f,o⟩::l) j (m::ms) did A H Q:=by
 obtain ⟨k,A2,H2,h2,h3⟩:=h;refine ⟨k,A2,H2,?_,h3⟩;show bu A.tm g _ (fC A d aF H (cJ E (eval E k) l (Nat.add j 1) ms did))=_;rw[hg,iR hd];exact h2
theorem D1.pure (hg:∀ y n:R (ab×Hp),bu A.tm g y n=y) (hd:aq d A.nt=true) (hk:bc o=0) {v:AV} (hv:f.run A.tm ⟨.leaf,H.nx,[]⟩=.val v ⟨.leaf,H.nx,[]⟩)
  (h:D1 E l (j+1) ms did (bq A d v) H Q):D1 E (⟨g,d,f,o⟩::l) j (m::ms) did A H Q:=by
 have hs:aJ H.t H.nx A.tm o (aD m did)=.leaf:=by unfold aJ;rw[hk];rfl
 refine D1.cons hg hd hs ?_;rw[hv];refine N1.val ⟨ez _,?_⟩;rw[hk];have e1:note 0 j .leaf H ⟨.leaf,H.nx,[]⟩ did (cL .leaf H.nx [])=did:=by
  show Eng.ifE (both true (Nat.beq H.nx H.nx)) did _=did;rw[Nat.beq_refl];rfl
 have e2:cA 0 H ⟨.leaf,H.nx,[]⟩ (aD m did) (cL .leaf H.nx [])=H.t:=by
  show bU H.t .leaf (cr H.nx (H.nx - H.nx))=H.t;rw[Nat.sub_self];rfl
 rw[e1,e2];exact h
def made (j nx:Nat):Did:=⟨j,.leaf,nx,nx+1,[]⟩
theorem D1.make (hg:∀ y n:R (ab×Hp),bu A.tm g y n=y) (hd:aq d A.nt=true) (hk:bc o=0) {v:AV} {x:aK} (hv:f.run A.tm ⟨.leaf,H.nx,[]⟩=.val v (Hp.new ⟨.leaf,H.nx,[]⟩ x))
  (h:D1 E l (j+1) ms (made j H.nx::did) (bq A d v) (H.new x) Q):D1 E (⟨g,d,f,o⟩::l) j (m::ms) did A H Q:=by
 have hs:aJ H.t H.nx A.tm o (aD m did)=.leaf:=by unfold aJ;rw[hk];rfl
 refine D1.cons hg hd hs ?_;rw[hv];refine N1.val ⟨ez _,?_⟩;rw[hk];have Y0:Nat.beq H.nx (H.nx+1)=false:=by
  cases hb:Nat.beq H.nx (H.nx+1) with
  | false=>rfl
  | true=>have:=zA3 hb;omega
 have e1:note 0 j .leaf H (Hp.new ⟨.leaf,H.nx,[]⟩ x) did (cL .leaf H.nx [])=made j H.nx::did:=by
  show Eng.ifE (both true (Nat.beq H.nx (H.nx+1))) did _=_;rw[Y0];rfl
 have e2:cA 0 H (Hp.new ⟨.leaf,H.nx,[]⟩ x) (aD m did) (cL .leaf H.nx [])=H.t.set H.nx x:=by
  show bU H.t ((PT.leaf:PT aK).set H.nx x) (cr H.nx (H.nx+1 - H.nx))=_;have:H.nx+1 - H.nx=1:=by omega
  rw[this];show PT.put (((PT.leaf:PT aK).set H.nx x).get H.nx) H.t H.nx=_;rw[PT.cS,zB0 rfl];rfl
 have e3:cL .leaf H.nx (Hp.new ⟨.leaf,H.nx,[]⟩ x).log=[]:=rfl;rw[e3];have e4:note 0 j .leaf H (Hp.new ⟨.leaf,H.nx,[]⟩ x) did []=made j H.nx::did:=e1;have e5:cA 0 H (Hp.new ⟨.leaf,H.nx,[]⟩ x) (aD m did) []=H.t.set H.nx x:=e2;rw[e4,e5];exact h
def looked (j nx:Nat) (sub:PT aK):Did:=⟨j,sub,nx,nx,[]⟩
theorem D1.look (hg:∀ y n:R (ab×Hp),bu A.tm g y n=y) (hd:aq d A.nt=true) (hk:bc o=1) {v:AV}
  (hv:f.run A.tm ⟨aJ H.t H.nx A.tm o (aD m did),H.nx,[]⟩=.val v ⟨aJ H.t H.nx A.tm o (aD m did),H.nx,[]⟩)
  (h:∀ sub,aJ H.t H.nx A.tm o (aD m did)=sub→D1 E l (j+1) ms (looked j H.nx sub::did) (bq A d v) H Q):D1 E (⟨g,d,f,o⟩::l) j (m::ms) did A H Q:=by
 refine D1.cons hg hd rfl ?_;rw[hv];refine N1.val ⟨ez _,?_⟩;rw[hk];have e2:cA 1 H ⟨aJ H.t H.nx A.tm o (aD m did),H.nx,[]⟩ (aD m did) (cL (aJ H.t H.nx A.tm o (aD m did)) H.nx [])=H.t:=by
  show bU H.t _ ([]++cr H.nx (H.nx - H.nx))=H.t;rw[Nat.sub_self];rfl
 rw[e2];exact h _ rfl
end
theorem tS {t:PT aK} {i:Nat}:∀ {l:List Nat},i∈l→i∈ea t l
 | [],h=>by cases h
 | x::l,h=>by
  unfold ea;rcases List.mem_cons.1 h with rfl|h
  ·split <;> exact List.mem_cons_self ..
  have ih:=tS (t:=t) h;split
  ·exact List.mem_cons_of_mem _ (List.mem_cons_of_mem _ ih)
  exact List.mem_cons_of_mem _ ih
theorem jG {src:PT aK} {id:Nat}:∀ {l:List Nat} {t:PT aK},(bU t src l).get id=if id∈l then src.get id else t.get id
 | [],t=>by simp[bU]
 | i::l,t=>by
  unfold bU;rw[jG];by_cases hl:id∈l
  ·rw[zB0 hl,zB0 (List.mem_cons_of_mem _ hl)]
  rw[zB1 hl,PT.qs];by_cases hi:id=i
  ·subst hi;rw[zB0 rfl,zB0 (List.mem_cons_self ..)]
  rw[zB1 hi,zB1 fun hh=>(List.mem_cons.1 hh).elim hi hl]
theorem tk {id:Nat}:∀ {l:List Nat} {t:PT aK},(jX t l).get id=if id∈l then none else t.get id
 | [],t=>by simp[jX]
 | i::l,t=>by
  unfold jX;rw[tk];by_cases hl:id∈l
  ·rw[zB0 hl,zB0 (List.mem_cons_of_mem _ hl)]
  rw[zB1 hl];show (PT.put none t i).get id=_;rw[PT.qs];by_cases hi:id=i
  ·subst hi;rw[zB0 rfl,zB0 (List.mem_cons_self ..)]
  rw[zB1 hi,zB1 fun hh=>(List.mem_cons.1 hh).elim hi hl]
structure DSy where
 idx:Nat
 at?:Option Nat
 c0:Nat
 c1:Nat
 wr:List Nat
def DSy.of (s:DSy) (u:Did):Prop:=u.idx=s.idx∧u.c0=s.c0∧u.c1=s.c1∧u.wr=s.wr∧∀ k,s.at?=some k→∀ i,i≠k→u.V2.get i=none
inductive DSs:List DSy→List Did→Prop
 | nil:DSs [] []
 | cons {s u l l'}:s.of u→DSs l l'→DSs (s::l) (u::l')
def aR (m:Nat):List DSy→List DSy
 | []=>[]
 | s::l=>if Nat.testBit m s.idx=true then aR m l else s::aR m l
theorem gp {m:Nat}:∀ {l:List DSy} {l':List Did},DSs l l'→DSs (aR m l) (aD m l')
 | _,_,.nil=>.nil
 | _,_,.cons (s:=s) (u:=u) (l:=l) (l':=l') h h2=>by
  have e:aD m (u::l')=ifE (Nat.testBit m u.idx) (aD m l') (u::aD m l'):=rfl;rw[e,h.1];unfold aR;cases hb:Nat.testBit m s.idx with
  | true=>rw[zB0 rfl];exact gp h2
  | false=>rw[zB1 (by decide)];exact .cons h (gp h2)
def bJ (id:Nat):List DSy→Prop
 | []=>True
 | s::l=>(id∉s.wr∧(id<s.c0∨s.c1≤id))∧bJ id l
def bQ (id:Nat):List DSy→Prop
 | []=>True
 | s::l=>(∃ k,s.at?=some k∧id≠k)∧bQ id l
theorem bJ.of {id:Nat}:∀ {l:List DSy} {l':List Did},DSs l l'→bJ id l→∀ u∈l',bO u id=false
 | _,_,.nil,_,u,hu=>by cases hu
 | _,_,.cons (s:=s) (u:=u) h h2,⟨h3,h4⟩,v,hv=>by
  rcases List.mem_cons.1 hv with rfl|hv
  ·obtain ⟨_,a,b,c,_⟩:=h;unfold bO;rw[a,b,c];have e1:Ik s.wr id=false:=by
    cases hm:Ik s.wr id with
    | false=>rfl
    | true=>exact absurd (lj.1 hm) h3.1
   rw[e1];rcases h3.2 with h|h
   ·have:Nat.ble s.c0 id=false:=by
     cases hb:Nat.ble s.c0 id with
     | false=>rfl
     | true=>have:=zA4 hb;omega
    rw[this];rfl
   have:Nat.blt id s.c1=false:=by
    cases hb:Nat.blt id s.c1 with
    | false=>rfl
    | true=>have:id<s.c1:=zA4 hb;omega
   rw[this];simp
  exact bJ.of h2 h4 v hv
theorem bQ.of {id:Nat}:∀ {l:List DSy} {l':List Did},DSs l l'→bQ id l→dZ l' [id]=true
 | _,_,.nil,_=>rfl
 | _,_,.cons (s:=s) (u:=u) (l':=l') h h2,⟨⟨k,h3,h5⟩,h4⟩=>by
  show both (vT u.V2 [id]) (dZ l' [id])=true;rw[bQ.of h2 h4];have e:u.V2.get id=none:=h.2.2.2.2 k h3 id h5;have e2:vT u.V2 [id]=true:=by
   show ay (u.V2.get id) true (fun _=>false)=true;rw[e];rfl
  rw[e2];rfl
def sH (v:AV) (P:Nat→Prop):Prop:=
 match v with
 | .one (.o (.ptr id _ _ _))=>P id
 | _=>False
def cI (P:AV→Hp→Prop) (n:ad):Prop:=
 match n with
 | .val v H=>P v H
 | _=>False
def GZ (k:Option Nat) (v:AV) (P:Option Nat→AV→Prop):Prop:=
 match k,v with
 | some 0,.one (.o (.str s))=>P (some 0) (Cm (IT s))
 | some 1,.one (.o (.sl _ _ _ n _))=>P none (Cm n)
 | some 1,.one (.o .nilS)=>P none (Cm 0)
 | _,_=>False
theorem Hb {id g off lim:Nat} {P:Nat→Prop}:sH (.one (.o (.ptr id g off lim))) P=P id:=rfl
theorem Ii {P:AV→Hp→Prop} {v:AV} {H:Hp}:cI P (.val v H)=P v H:=rfl
def DP (j:Nat) (did:List DSy) (A:ab) (d:Option Tmp) (H:Hp) (next:List DSy→ab→Hp→Prop) (n:ad):Prop:=
 (∃ v,n=.val v ⟨.leaf,H.nx,[]⟩∧next did (bq A d v) H)∨(∃ v x,n=.val v (Hp.new ⟨.leaf,H.nx,[]⟩ x)∧next (⟨j,some 0,H.nx,H.nx+1,[]⟩::did) (bq A d v) (H.new x))
theorem Ui {j:Nat} {did:List DSy} {A:ab} {d:Option Tmp} {H:Hp} {next:List DSy→ab→Hp→Prop} {v:AV}:DP j did A d H next (.val v ⟨.leaf,H.nx,[]⟩)=next did (bq A d v) H:=by
 apply propext
 constructor
 ·rintro (⟨w,h,k⟩|⟨w,x,h,k⟩)
  ·cases h;exact k
  injection h with h1 h2
  have:H.nx=H.nx+1:=congrArg Hp.nx h2;omega
 exact fun h=>.inl ⟨v,rfl,h⟩
theorem RV {j:Nat} {did:List DSy} {A:ab} {d:Option Tmp} {H:Hp} {next:List DSy→ab→Hp→Prop} {v:AV} {x:aK}:DP j did A d H next (.val v (Hp.new ⟨.leaf,H.nx,[]⟩ x))=next (⟨j,some 0,H.nx,H.nx+1,[]⟩::did) (bq A d v) (H.new x):=by
 apply propext
 constructor
 ·rintro (⟨w,h,k⟩|⟨w,y,h,k⟩)
  ·injection h with h1 h2
   have:H.nx+1=H.nx:=congrArg Hp.nx h2;omega
  injection h with h1 h2
  subst h1;have h3:(PT.leaf:PT aK).set H.nx x=(PT.leaf:PT aK).set H.nx y:=congrArg Hp.t h2;have h4:=congrArg (fun t=>PT.get t H.nx) h3;have h5:(some x:Option aK)=some y:=by
   have e1:=PT.cS (PT.leaf:PT aK) H.nx H.nx x;have e2:=PT.cS (PT.leaf:PT aK) H.nx H.nx y;rw[zB0 rfl] at e1 e2;exact e1.symm.trans (h4.trans e2)
  cases h5;exact k
 exact fun h=>.inr ⟨v,x,rfl,h⟩
def DC (E:Env) (j m:Nat) (did:List DSy) (A:ab) (d:Option Tmp) (H:Hp) (next:List DSy→ab→Hp→Prop) (n:ad):Prop:=
 match n with
 | .enter f args=>∀ h:Hp,h.nx=H.nx→(∀ i,i<H.nx→bJ i (aR m did)→h.get i=H.get i)→((∀ i,H.nx≤i→H.get i=none)→∀ i,H.nx≤i→h.get i=none) →
   N1 E h (.enter f args) fun v h'=>Gr h h'∧∀ H':Hp,H'.nx=h'.nx→H'.log=H.log→(∀ i,i<H.nx→H'.get i=H.get i)→(∀ i,H.nx≤i→H'.get i=h'.get i) →
    next (⟨j,none,H.nx,h'.nx,[]⟩::did) (bq A d v) H'
 | _=>False
def AP (j m:Nat) (did:List DSy) (A:ab) (d:Option Tmp) (H:Hp) (next:List DSy→ab→Hp→Prop) (ids:List Nat) (r:Hp→ad):Prop:=
 (∀ id∈ids,id<H.nx∧bJ id (aR m did)) ∧
  ((∃ v c,(∀ h:Hp,h.nx=H.nx→(∀ id∈ids,h.get id=H.get id)→r h=.val v (h.new c))∧next (⟨j,none,H.nx,H.nx+1,[]⟩::did) (bq A d v) (H.new c)) ∨
    (∃ v,(∀ h:Hp,h.nx=H.nx→(∀ id∈ids,h.get id=H.get id)→r h=.val v h)∧next (⟨j,none,H.nx,H.nx,[]⟩::did) (bq A d v) H))
def DK (E:Env) (o:Oper) (j m:Nat) (did:List DSy) (A:ab) (H:Hp) (next:List DSy→ab→Hp→Prop):Prop:=
 match o.op with
 | .load _ x=>sH (ev A.tm x) fun id=>id<H.nx∧bJ id (aR m did)∧cI (fun v H'=>next (⟨j,some id,H.nx,H.nx,[]⟩::did) (bq A o.dst v) H') ((ao E.P o).run A.tm H)
 | .store _ a _=>sH (ev A.tm a) fun id=>id<H.nx∧bJ id (aR m did)∧bQ id (aR m did)∧cI (fun v H'=>next (⟨j,none,H.nx,H.nx,[id]⟩::did) (bq A o.dst v) H') ((ao E.P o).run A.tm H)
 | .call ⟨.value _,_,_⟩=>DC E j m did A o.dst H next ((ao E.P o).run A.tm H)
 | .call ⟨.builtin .len,⟨[x]⟩,⟨[t]⟩⟩=>GZ (eu E.P t) (ev A.tm x) fun at? v=>next (⟨j,at?,H.nx,H.nx,[]⟩::did) (bq A o.dst v) H
 | .call ⟨.builtin .append,⟨[s,x]⟩,⟨[_,_]⟩⟩=>AP j m did A o.dst H next ((ev A.tm s).ids++(ev A.tm x).ids) fun h=>(ao E.P o).run A.tm h
 | _=>bc o=0∧DP j did A o.dst H next ((ao E.P o).run A.tm ⟨.leaf,H.nx,[]⟩)
def DU (E:Env) (o:Oper) (j m:Nat) (did:List DSy) (A:ab) (H:Hp) (next:List DSy→ab→Hp→Prop) (g:GW):Prop:=
 match g with
 | .yes=>DK E o j m did A H next
 | .no=>next did (bq A o.dst aF) H
 | .lost=>False
def DO (E:Env) (ops:List Oper) (Q:ab→Hp→Prop):List Oper→Nat→List Nat→List DSy→ab→Hp→Prop
 | [],_,_,_,A,H=>Q A H
 | _::_,_,[],_,_,_=>False
 | o::l,j,m::ms,did,A,H=>aq o.dst A.nt=true∧DU E o j m did A H (fun did A H=>DO E ops Q l (j+1) ms did A H) (gw (gOf ops o.guard) A.tm)
theorem GS {P:Program} {d:Option Tmp} {t:TypeId} {x:Operand} {ty:TypeId} {pos:String} {af:Array Edge} {g:Option (Nat×Bool)} {tm:PT AV} {H H':Hp} {id gn off lim:Nat} {v:AV}
  (hx:ev tm x=.one (.o (.ptr id gn off lim))) (h:(ao P ⟨d,.load t x,ty,pos,af,g⟩).run tm H=.val v H'):
  H'=H∧(∀ o,H.get id≠some (.oth o))∧∀ h:Hp,h.get id=H.get id→(ao P ⟨d,.load t x,ty,pos,af,g⟩).run tm h=.val v h:=by
 cases ht:loadT P t with
 | none=>
  have e:∀ h,(ao P ⟨d,.load t x,ty,pos,af,g⟩).run tm h=.bad "load" ∨ ∃ w,(ao P ⟨d,.load t x,ty,pos,af,g⟩).run tm h=.bad w:=fun h=>.inr (by
   show ∃ w,(ndF (loadT P t) _ _).run tm h=_;rw[ht];exact ⟨_,rfl⟩)
  rcases e H with e|⟨w,e⟩ <;> (rw[e] at h;cases h)
 | some p=>
  have e:∀ h:Hp,(ao P ⟨d,.load t x,ty,pos,af,g⟩).run tm h=nd (eT h id gn off lim p.2) "load - cells" fun c=>ifE p.1 (.val (.agg c) h) (List.rec (motive:=fun _=>ad) (.bad "load - no cell") (fun x _ _=>.val (.one x) h) c):=fun h=>by
   rw[Lx t x ht,hx];rfl
  rw[e H] at h;cases hr:eT H id gn off lim p.2 with
  | none=>rw[hr] at h;cases h
  | some c=>
   rw[hr] at h;have h':ifE p.1 (ad.val (.agg c) H) (List.rec (motive:=fun _=>ad) (.bad "load - no cell") (fun x _ _=>.val (.one x) H) c)=.val v H':=h
   have key:H'=H∧∀ k:Hp,ifE p.1 (ad.val (.agg c) k) (List.rec (motive:=fun _=>ad) (.bad "load - no cell") (fun x _ _=>.val (.one x) k) c)=.val v k:=by
    cases hb:p.1 with
    | true=>
     rw[hb] at h';injection h' with h1 h2
     exact ⟨h2.symm,fun k=>by rw[←h1];rfl⟩
    | false=>
     rw[hb] at h';cases c with
     | nil=>cases h'
     | cons y c=>
      injection h' with h1 h2
      exact ⟨h2.symm,fun k=>by rw[←h1];rfl⟩
   refine ⟨key.1,?_,fun k hk=>?_⟩
   ·intro o ho;have h3:rdO (H.get id) gn off lim p.2=some c:=hr;rw[ho] at h3;cases h3
   rw[e k];have:eT k id gn off lim p.2=some c:=by
    rw[←hr];unfold eT;rw[hk]
   rw[this];exact key.2 k
theorem Av {P:Program} {d:Option Tmp} {t:TypeId} {a x:Operand} {ty:TypeId} {pos:String} {af:Array Edge} {g:Option (Nat×Bool)} {tm:PT AV} {H H':Hp} {id gn off lim:Nat} {v:AV}
  (hx:ev tm a=.one (.o (.ptr id gn off lim))) (h:(ao P ⟨d,.store t a x,ty,pos,af,g⟩).run tm H=.val v H'):
  ∃ o,H'=H.mod id o∧(∃ k,H.get id=some k)∧∀ h:Hp,h.get id=H.get id→(ao P ⟨d,.store t a x,ty,pos,af,g⟩).run tm h=.val v (h.mod id o):=by
 cases ht:aS P t with
 | none=>
  have e:∃ w,(ao P ⟨d,.store t a x,ty,pos,af,g⟩).run tm H=.bad w:=by
   show ∃ w,(ndF (aS P t) _ _).run tm H=_;rw[ht];exact ⟨_,rfl⟩
  obtain ⟨w,e⟩:=e;rw[e] at h;cases h
 | some n=>
  have e:∀ h:Hp,(ao P ⟨d,.store t a x,ty,pos,af,g⟩).run tm h=mE (h.get id) (.bad "store - no row") fun cells e lo gen=>
   aH (both (Nat.beq gn gen) (both (Nat.beq (bw (ev tm x).cells) n) (both (Nat.ble n lim) (both (Nat.ble (Nat.add off n) (bw cells)) (both (Nat.ble lo gen) (ev tm x).bz))))) "store - stale or of another size"
    (.val aF (h.mod id (.arr (eQ cells off (ev tm x).cells) e gen gen))):=fun h=>by rw[FV t a x ht,hx];rfl
  rw[e H] at h;cases hg:H.get id with
  | none=>rw[hg] at h;cases h
  | some o=>
   cases o with
   | oth o=>rw[hg] at h;cases h
   | ro o=>rw[hg] at h;cases h
   | arr cells el lo gen=>
    rw[hg] at h;have h':aH (both (Nat.beq gn gen) (both (Nat.beq (bw (ev tm x).cells) n) (both (Nat.ble n lim) (both (Nat.ble (Nat.add off n) (bw cells)) (both (Nat.ble lo gen) (ev tm x).bz))))) "store - stale or of another size"
     (.val aF (H.mod id (.arr (eQ cells off (ev tm x).cells) el gen gen)))=.val v H':=h
    cases hb:both (Nat.beq gn gen) (both (Nat.beq (bw (ev tm x).cells) n) (both (Nat.ble n lim) (both (Nat.ble (Nat.add off n) (bw cells)) (both (Nat.ble lo gen) (ev tm x).bz)))) with
    | false=>rw[hb] at h';cases h'
    | true=>
     rw[hb] at h';injection h' with h1 h2
     refine ⟨_,h2.symm,⟨_,rfl⟩,fun k hk=>?_⟩;rw[e k,hk];show aH _ _ (ad.val aF (k.mod id (.arr (eQ cells off (ev tm x).cells) el gen gen)))=_;rw[hb,←h1];rfl
theorem pP {H:Hp} {tm:PT AV} {o:Oper} {us:List Did} {id:Nat} {x:Operand} (hk:bc o=1) (hx:x∈o.op.operands.toList) (hid:id∈(ev tm x).ids) (D0:id<H.nx) (hu:∀ u∈us,bO u id=false):
  (aJ H.t H.nx tm o us).get id=H.get id:=by
 have e:aJ H.t H.nx tm o us=bU .leaf H.t ((ea H.t (o.op.operands.toList.flatMap fun x=>(ev tm x).ids)).filter fun i=>Nat.blt i H.nx&&!us.any (bO · i)):=by
  unfold aJ;rw[hk];rfl
 rw[e,jG,zB0]
 ·rfl
 rw[List.mem_filter];refine ⟨tS (List.mem_flatMap.2 ⟨x,hx,hid⟩),?_⟩;have h1:Nat.blt id H.nx=true:=zA5 D0;have h2:us.any (bO · id)=false:=by
  rw[List.any_eq_false];intro u hm;rw[hu u hm];simp
 rw[h1,h2];rfl
theorem GA {H:Hp} {tm:PT AV} {o:Oper} {us:List Did} (hk:bc o=1) {i:Nat} (hi:i∉ea H.t (o.op.operands.toList.flatMap fun x=>(ev tm x).ids)):(aJ H.t H.nx tm o us).get i=none:=by
 have e:aJ H.t H.nx tm o us=bU .leaf H.t ((ea H.t (o.op.operands.toList.flatMap fun x=>(ev tm x).ids)).filter fun i=>Nat.blt i H.nx&&!us.any (bO · i)):=by
  unfold aJ;rw[hk];rfl
 rw[e,jG,zB1]
 ·rfl
 rw[List.mem_filter];exact fun h=>hi h.1
theorem EO {t:PT aK} {id:Nat} (h:∀ o,t.get id≠some (.oth o)):ea t [id]=[id]:=by
 unfold ea;split
 ·rename_i m a b c hq;exact absurd hq (h _)
 rfl
def LtS (nx:Nat) (l:List DSy):Prop:=∀ s∈l,s.c1≤nx∧∀ w∈s.wr,w<nx
theorem LtS.mono {n n':Nat} {l:List DSy} (h:LtS n l) (hn:n≤n'):LtS n' l:=fun s hs=>⟨zA2 (h s hs).1 hn,fun w hw=>zA0 ((h s hs).2 w hw) hn⟩
theorem LtS.cons {n:Nat} {l:List DSy} {s:DSy} (h:LtS n l) (h1:s.c1≤n) (h2:∀ w∈s.wr,w<n):LtS n (s::l):=fun t ht=>by
 rcases List.mem_cons.1 ht with rfl|ht
 ·exact ⟨h1,h2⟩
 exact h t ht
theorem LtS.did {n:Nat}:∀ {l:List DSy} {l':List Did},DSs l l'→LtS n l→∀ u∈l',∀ i,bO u i=true→i<n
 | _,_,.nil,_,u,hu=>by cases hu
 | _,_,.cons (s:=s) (u:=u) h h2,hl,v,hv=>by
  intro i ht;rcases List.mem_cons.1 hv with rfl|hv
  ·obtain ⟨_,a,b,c,_⟩:=h;obtain ⟨h3,h4⟩:=hl _ (List.mem_cons_self ..);unfold bO at ht;rw[a,b,c,Bool.or_eq_true,lj,Bool.and_eq_true] at ht;rcases ht with ht|ht
   ·exact h4 i ht
   have:i<s.c1:=zA4 ht.2;omega
  exact LtS.did h2 (fun t ht=>hl t (List.mem_cons_of_mem _ ht)) v hv i ht
section
variable {E:Env} {A:ab} {H:Hp} {Q:ab→Hp→Prop} {g:Option (Option Tmp×Bool)} {d:Option Tmp} {l:List OF} {j m:Nat} {ms:List Nat} {did:List Did} {did':List DSy}
variable {ty:TypeId} {pos:String} {af:Array Edge} {gd:Option (Nat×Bool)}
theorem DK.load (hg:∀ y n:R (ab×Hp),bu A.tm g y n=y) (hd:aq d A.nt=true) (M3:DSs did' did) (D0:LtS H.nx did') {t:TypeId} {x:Operand}
  (h:sH (ev A.tm x) fun id=>id<H.nx∧bJ id (aR m did')∧cI (fun v H'=>LtS H'.nx (⟨j,some id,H.nx,H.nx,[]⟩::did')→∀ dd,DSs (⟨j,some id,H.nx,H.nx,[]⟩::did') dd→D1 E l (j+1) ms dd (bq A d v) H' Q) ((ao E.P ⟨d,.load t x,ty,pos,af,gd⟩).run A.tm H)):
  D1 E (⟨g,d,ao E.P ⟨d,.load t x,ty,pos,af,gd⟩,⟨d,.load t x,ty,pos,af,gd⟩⟩::l) j (m::ms) did A H Q:=by
 unfold sH at h;split at h
 ·rename_i id gn off lim hx
  obtain ⟨hid,hu,hv⟩:=h;unfold cI at hv;split at hv
  ·rename_i v H' hn
   obtain ⟨e1,E7,h3⟩:=GS hx hn;subst e1;have o9:=bJ.of (gp (m:=m) M3) hu;have S0:=pP (H:=H') (tm:=A.tm) (o:=⟨d,.load t x,ty,pos,af,gd⟩) (us:=aD m did) (id:=id) (x:=x) rfl (by simp[Op.operands]) (by rw[hx];exact List.mem_singleton.2 rfl) hid o9;refine D1.look hg hd rfl (h3 ⟨_,H'.nx,[]⟩ S0) fun sub hs=>?_;refine hv (D0.cons (zA1 _) (fun w hw=>by cases hw)) _ (.cons ⟨rfl,rfl,rfl,rfl,fun k hk i hi=>?_⟩ M3);cases hk
   show sub.get i=none;rw[←hs];refine GA rfl ?_;have e2:((Op.load t x).operands.toList.flatMap fun x=>(ev A.tm x).ids)=[id]:=by
    simp[Op.operands,hx,AV.ids,AC.ids,AO.ids]
   show i∉ea H'.t ((Op.load t x).operands.toList.flatMap fun x=>(ev A.tm x).ids);rw[e2,EO fun o ho=>E7 o ho];simpa using hi
  exact hv.elim
 exact h.elim
theorem DK.store (hg:∀ y n:R (ab×Hp),bu A.tm g y n=y) (hd:aq d A.nt=true) (M3:DSs did' did) (D0:LtS H.nx did') {t:TypeId} {a x:Operand}
  (h:sH (ev A.tm a) fun id=>id<H.nx∧bJ id (aR m did')∧bQ id (aR m did')∧cI (fun v H'=>LtS H'.nx (⟨j,none,H.nx,H.nx,[id]⟩::did')→∀ dd,DSs (⟨j,none,H.nx,H.nx,[id]⟩::did') dd→D1 E l (j+1) ms dd (bq A d v) H' Q) ((ao E.P ⟨d,.store t a x,ty,pos,af,gd⟩).run A.tm H)):
  D1 E (⟨g,d,ao E.P ⟨d,.store t a x,ty,pos,af,gd⟩,⟨d,.store t a x,ty,pos,af,gd⟩⟩::l) j (m::ms) did A H Q:=by
 unfold sH at h;split at h
 ·rename_i id gn off lim hx
  obtain ⟨hid,hu,hsn,hv⟩:=h;unfold cI at hv;split at hv
  ·rename_i v H' hn
   obtain ⟨ob,e1,⟨ko,hko⟩,h3⟩:=Av hx hn;subst e1;have o9:=bJ.of (gp (m:=m) M3) hu;have j_:=bQ.of (gp (m:=m) M3) hsn;have S0:=pP (H:=H) (tm:=A.tm) (o:=⟨d,.store t a x,ty,pos,af,gd⟩) (us:=aD m did) (id:=id) (x:=a) rfl (by simp[Op.operands]) (by rw[hx];exact List.mem_singleton.2 rfl) hid o9;generalize hs:aJ H.t H.nx A.tm ⟨d,.store t a x,ty,pos,af,gd⟩ (aD m did)=sub at S0;refine D1.cons hg hd hs ?_;rw[h3 ⟨sub,H.nx,[]⟩ S0];have A_:cL sub H.nx [id]=[id]:=by
    show Eng.ifE (Nat.blt id H.nx) (ay (sub.get id) (cL sub H.nx []) fun _=>id::cL sub H.nx []) (cL sub H.nx [])=_;have e1:Nat.blt id H.nx=true:=zA5 hid;have e2:sub.get id=some ko:=S0.trans hko;rw[e1,e2];rfl
   refine N1.val ?_;show dZ (aD m did) (cL sub H.nx [id])=true∧D1 E l (j+1) ms (note 1 j sub H _ did (cL sub H.nx [id])) (bq A d v) ⟨cA 1 H _ (aD m did) (cL sub H.nx [id]),H.nx,cL sub H.nx [id]++H.log⟩ Q;rw[A_];refine ⟨j_,?_⟩;have hm:cA 1 H (Hp.mod ⟨sub,H.nx,[]⟩ id ob) (aD m did) [id]=H.t.set id ob:=by
    show bU H.t (sub.set id _) ([id]++cr H.nx (H.nx - H.nx))=_;rw[Nat.sub_self];show PT.put ((sub.set id _).get id) H.t id=_;rw[PT.cS,zB0 rfl];rfl
   rw[hm];exact hv (D0.cons (zA1 _) (fun w hw=>by rw[List.mem_singleton.1 hw];exact hid)) _ (.cons ⟨rfl,rfl,rfl,rfl,fun k hk=>by cases hk⟩ M3)
  exact hv.elim
 exact h.elim
theorem DK.pure {o:Oper} (hg:∀ y n:R (ab×Hp),bu A.tm g y n=y) (hd:aq o.dst A.nt=true) (M3:DSs did' did) (D0:LtS H.nx did')
  (h:bc o=0∧DP j did' A o.dst H (fun d' A H=>LtS H.nx d'→∀ dd,DSs d' dd→D1 E l (j+1) ms dd A H Q) ((ao E.P o).run A.tm ⟨.leaf,H.nx,[]⟩)):
  D1 E (⟨g,o.dst,ao E.P o,o⟩::l) j (m::ms) did A H Q:=by
 obtain ⟨hk,⟨v,h1,h2⟩|⟨v,x,h1,h2⟩⟩:=h
 ·exact D1.pure hg hd hk h1 (h2 D0 _ M3)
 exact D1.make hg hd hk h1 (h2 ((D0.mono (Nat.le_succ _)).cons (zA1 _) fun w hw=>by cases hw) _ (.cons ⟨rfl,rfl,rfl,rfl,fun k hk i hi=>rfl⟩ M3))
theorem DK.len (hg:∀ y n:R (ab×Hp),bu A.tm g y n=y) (hd:aq d A.nt=true) (M3:DSs did' did) (D0:LtS H.nx did') {x:Operand} {t:TypeId}
  (h:GZ (eu E.P t) (ev A.tm x) fun at? v=>LtS H.nx (⟨j,at?,H.nx,H.nx,[]⟩::did')→∀ dd,DSs (⟨j,at?,H.nx,H.nx,[]⟩::did') dd→D1 E l (j+1) ms dd (bq A d v) H Q):
  D1 E (⟨g,d,ao E.P ⟨d,.call ⟨.builtin .len,#[x],#[t]⟩,ty,pos,af,gd⟩,⟨d,.call ⟨.builtin .len,#[x],#[t]⟩,ty,pos,af,gd⟩⟩::l) j (m::ms) did A H Q:=by
 have hops:(Op.call ⟨.builtin .len,#[x],#[t]⟩).operands.toList.flatMap (fun x=>(ev A.tm x).ids)=(ev A.tm x).ids:=by
  simp[Op.operands,Call.operands]
 have key:∀ (k:Nat) (at?:Option Nat) (v:AV),eu E.P t=some k→(∀ h:Hp,cG h k (ev A.tm x)=.val v h)→(∀ q,at?=some q→∀ i,i≠q→∀ sub,aJ H.t H.nx A.tm ⟨d,.call ⟨.builtin .len,#[x],#[t]⟩,ty,pos,af,gd⟩ (aD m did)=sub→sub.get i=none) →
   (LtS H.nx (⟨j,at?,H.nx,H.nx,[]⟩::did')→∀ dd,DSs (⟨j,at?,H.nx,H.nx,[]⟩::did') dd→D1 E l (j+1) ms dd (bq A d v) H Q) →
   D1 E (⟨g,d,ao E.P ⟨d,.call ⟨.builtin .len,#[x],#[t]⟩,ty,pos,af,gd⟩,⟨d,.call ⟨.builtin .len,#[x],#[t]⟩,ty,pos,af,gd⟩⟩::l) j (m::ms) did A H Q:=by
  intro k at? v hk hv hs h;refine D1.look hg hd rfl (v:=v) ?_ fun sub a7=>?_
  ·rw[Yh x t hk];exact hv _
  exact h (D0.cons (zA1 _) fun w hw=>by cases hw) _ (.cons ⟨rfl,rfl,rfl,rfl,fun k hk i hi=>hs k hk i hi _ a7⟩ M3)
 unfold GZ at h;split at h
 ·rename_i s hk hx
  refine key 0 (some 0) _ hk (fun h=>by rw[hx];rfl) (fun q _ i _ sub hs=>?_) h;rw[←hs];refine GA rfl ?_;show i∉ea H.t ((Op.call ⟨.builtin .len,#[x],#[t]⟩).operands.toList.flatMap (fun x=>(ev A.tm x).ids));rw[hops,hx];show i∉ea H.t [];unfold ea;simp
 ·rename_i id gn off n sz hk hx
  exact key 1 none _ hk (fun h=>by rw[hx];rfl) (fun q hq=>by cases hq) h
 ·rename_i hk hx
  exact key 1 none _ hk (fun h=>by rw[hx];rfl) (fun q hq=>by cases hq) h
 exact h.elim
theorem mL {u:Did} {i:Nat}:i∈de u↔bO u i=true:=by
 unfold de bO;have hr:∀ (n a:Nat),i∈cr a n↔a≤i∧i<a+n:=by
  intro n;induction n with
  | zero=>intro a;show i∈[]↔_;simp
  | succ n ih=>
   intro a;show i∈a::cr (a+1) n↔_;rw[List.mem_cons,ih];omega
 have e:Nat.sub u.c1 u.c0=u.c1 - u.c0:=rfl;rw[List.mem_append,e,hr,Bool.or_eq_true,lj,Bool.and_eq_true,Nat.ble_eq];have e2:Nat.blt i u.c1=true↔i<u.c1:=⟨fun h=>zA4 h,fun h=>zA5 h⟩;rw[e2];constructor
 ·rintro (h|h)
  ·exact .inl h
  exact .inr ⟨h.1,by omega⟩
 rintro (h|h)
 ·exact .inl h
 exact .inr ⟨h.1,by omega⟩
theorem DK.call (hg:∀ y n:R (ab×Hp),bu A.tm g y n=y) (hd:aq d A.nt=true) (M3:DSs did' did) (D0:LtS H.nx did') {f:Operand} {as:Array Operand} {ts:Array TypeId}
  (h:DC E j m did' A d H (fun d' A H=>LtS H.nx d'→∀ dd,DSs d' dd→D1 E l (j+1) ms dd A H Q) ((ao E.P ⟨d,.call ⟨.value f,as,ts⟩,ty,pos,af,gd⟩).run A.tm H)):
  D1 E (⟨g,d,ao E.P ⟨d,.call ⟨.value f,as,ts⟩,ty,pos,af,gd⟩,⟨d,.call ⟨.value f,as,ts⟩,ty,pos,af,gd⟩⟩::l) j (m::ms) did A H Q:=by
 have hk:bc ⟨d,.call ⟨.value f,as,ts⟩,ty,pos,af,gd⟩=2:=rfl;have U0:∀ i,(aJ H.t H.nx A.tm ⟨d,.call ⟨.value f,as,ts⟩,ty,pos,af,gd⟩ (aD m did)).get i=if i∈(aD m did).flatMap de then none else H.t.get i:=fun i=>by
  unfold aJ;rw[hk];exact tk
 generalize hs:aJ H.t H.nx A.tm ⟨d,.call ⟨.value f,as,ts⟩,ty,pos,af,gd⟩ (aD m did)=sub at U0;have V2:∀ i,i∈(aD m did).flatMap de↔∃ u∈aD m did,bO u i=true:=fun i=>by
  rw[List.mem_flatMap];exact ⟨fun ⟨u,a,b⟩=>⟨u,a,mL.1 b⟩,fun ⟨u,a,b⟩=>⟨u,a,mL.2 b⟩⟩
 unfold DC at h;split at h
 ·rename_i fn args hn
  have I5:∀ h:Hp,(ao E.P ⟨d,.call ⟨.value f,as,ts⟩,ty,pos,af,gd⟩).run A.tm h=.enter fn args:=fun h=>by
   rw[VZ] at hn ⊢;exact hn
  have hnot:∀ i,bJ i (aR m did')→i∉(aD m did).flatMap de:=fun i hi hm=>by
   obtain ⟨u,hu,ht⟩:=(V2 i).1 hm;rw[bJ.of (gp (m:=m) M3) hi u hu] at ht;cases ht
  obtain ⟨k,v,h',h1,T0,h2⟩:=h ⟨sub,H.nx,[]⟩ rfl (fun i hi hu=>by
    show sub.get i=_;rw[U0,zB1 (hnot i hu)];rfl) (fun hw i hi=>by
    show sub.get i=_;rw[U0];by_cases hm:i∈(aD m did).flatMap de
    ·rw[zB0 hm]
    rw[zB1 hm];exact hw i hi)
  refine D1.cons hg hd hs ?_;rw[I5];refine ⟨k,v,h',h1,?_⟩;have A_:cL sub H.nx h'.log=[]:=by
   obtain ⟨lg,e,hl⟩:=T0.log;rw[List.eq_nil_iff_forall_not_mem];intro i hi;obtain ⟨a1,a2,_⟩:=iS.1 hi;rw[e] at a1;rcases List.mem_append.1 a1 with a1|a1
   ·rcases hl i a1 with a3|a3
    ·have a4:H.nx≤i:=a3;omega
    exact a3
   cases a1
  show dZ (aD m did) (cL sub H.nx h'.log)=true∧D1 E l (j+1) ms (note 2 j sub H h' did (cL sub H.nx h'.log)) (bq A d v) ⟨cA 2 H h' (aD m did) (cL sub H.nx h'.log),h'.nx,cL sub H.nx h'.log++H.log⟩ Q;rw[A_];refine ⟨ez _,?_⟩;have hm:∀ i,(cA 2 H h' (aD m did) []).get i=if i∈(aD m did).flatMap de then H.t.get i else h'.t.get i:=fun i=>by
   show (bU h'.t H.t ((aD m did).flatMap de)).get i=_;exact jG
  refine h2 ⟨cA 2 H h' (aD m did) [],h'.nx,[]++H.log⟩ rfl rfl (fun i hi=>?_) (fun i hi=>?_) ((D0.mono T0.nx).cons (zA1 _) fun w hw=>by cases hw) _ (.cons ⟨rfl,rfl,rfl,rfl,fun k hk=>by cases hk⟩ M3)
  ·show (cA 2 H h' (aD m did) []).get i=H.t.get i;rw[hm];by_cases hm:i∈(aD m did).flatMap de
   ·rw[zB0 hm]
   rw[zB1 hm];have e1:=T0.get i hi id;have e2:Hp.get ⟨sub,H.nx,[]⟩ i=H.t.get i:=by
    show sub.get i=_;rw[U0,zB1 hm]
   exact e1.trans e2
  show (cA 2 H h' (aD m did) []).get i=h'.t.get i;rw[hm,zB1];intro hm;obtain ⟨u,hu,ht⟩:=(V2 i).1 hm;have:=LtS.did M3 D0 u (cx.1 hu).1 i ht;omega
 exact h.elim
end
theorem sH.mono {v:AV} {P P':Nat→Prop} (h:sH v P) (hp:∀ id,P id→P' id):sH v P':=by
 unfold sH at h ⊢;split at h
 ·exact hp _ h
 exact h.elim
theorem cI.mono {n:ad} {P P':AV→Hp→Prop} (h:cI P n) (hp:∀ v H,P v H→P' v H):cI P' n:=by
 unfold cI at h ⊢;split at h
 ·exact hp _ _ h
 exact h.elim
theorem GZ.mono {k:Option Nat} {v:AV} {P P':Option Nat→AV→Prop} (h:GZ k v P) (hp:∀ a v,P a v→P' a v):GZ k v P':=by
 unfold GZ at h ⊢;split at h
 ·exact hp _ _ h
 ·exact hp _ _ h
 ·exact hp _ _ h
 exact h.elim
theorem N1.mono {E:Env} {H:Hp} {n:ad} {Q Q':AV→Hp→Prop} (h:N1 E H n Q) (hq:∀ v H',Q v H'→Q' v H'):N1 E H n Q':=
 let ⟨k,v,H',h1,h2⟩:=h;⟨k,v,H',h1,hq _ _ h2⟩
theorem DP.mono {j:Nat} {did:List DSy} {A:ab} {d:Option Tmp} {H:Hp} {next next':List DSy→ab→Hp→Prop} {n:ad} (h:DP j did A d H next n) (hn:∀ d A H,next d A H→next' d A H):DP j did A d H next' n:=by
 rcases h with ⟨v,h1,h2⟩|⟨v,x,h1,h2⟩
 ·exact .inl ⟨v,h1,hn _ _ _ h2⟩
 exact .inr ⟨v,x,h1,hn _ _ _ h2⟩
theorem DC.mono {E:Env} {j m:Nat} {did:List DSy} {A:ab} {d:Option Tmp} {H:Hp} {next next':List DSy→ab→Hp→Prop} {n:ad} (h:DC E j m did A d H next n) (hn:∀ d A H,next d A H→next' d A H):DC E j m did A d H next' n:=by
 unfold DC at h ⊢;split at h
 ·exact fun k a b c=>(h k a b c).mono fun v h' ⟨x,y⟩=>⟨x,fun H' p q r s=>hn _ _ _ (y H' p q r s)⟩
 exact h.elim
theorem AP.mono {j m:Nat} {did:List DSy} {A:ab} {d:Option Tmp} {H:Hp} {next next':List DSy→ab→Hp→Prop} {ids:List Nat} {r:Hp→ad} (h:AP j m did A d H next ids r) (hn:∀ d A H,next d A H→next' d A H):AP j m did A d H next' ids r:=
 ⟨h.1,h.2.imp (fun ⟨v,c,h1,h2⟩=>⟨v,c,h1,hn _ _ _ h2⟩) fun ⟨v,h1,h2⟩=>⟨v,h1,hn _ _ _ h2⟩⟩
theorem DK.app {E:Env} {A:ab} {H:Hp} {Q:ab→Hp→Prop} {g:Option (Option Tmp×Bool)} {d:Option Tmp} {l:List OF} {j m:Nat} {ms:List Nat} {did:List Did} {did':List DSy} {ty:TypeId} {pos:String} {af:Array Edge} {gd:Option (Nat×Bool)}
  (hg:∀ y n:R (ab×Hp),bu A.tm g y n=y) (hd:aq d A.nt=true) (M3:DSs did' did) (D0:LtS H.nx did') {s x:Operand} {t t2:TypeId}
  (h:AP j m did' A d H (fun d' A H=>LtS H.nx d'→∀ dd,DSs d' dd→D1 E l (j+1) ms dd A H Q) ((ev A.tm s).ids++(ev A.tm x).ids) fun h=>(ao E.P ⟨d,.call ⟨.builtin .append,⟨[s,x]⟩,⟨[t,t2]⟩⟩,ty,pos,af,gd⟩).run A.tm h):
  D1 E (⟨g,d,ao E.P ⟨d,.call ⟨.builtin .append,⟨[s,x]⟩,⟨[t,t2]⟩⟩,ty,pos,af,gd⟩,⟨d,.call ⟨.builtin .append,⟨[s,x]⟩,⟨[t,t2]⟩⟩,ty,pos,af,gd⟩⟩::l) j (m::ms) did A H Q:=by
 obtain ⟨hid,hv⟩:=h;have hops:∀ id∈(ev A.tm s).ids++(ev A.tm x).ids,∃ y∈(Op.call ⟨.builtin .append,⟨[s,x]⟩,⟨[t,t2]⟩⟩).operands.toList,id∈(ev A.tm y).ids:=fun id h=>by
  rcases List.mem_append.1 h with h|h
  ·exact ⟨s,by simp[Op.operands,Call.operands],h⟩
  exact ⟨x,by simp[Op.operands,Call.operands],h⟩
 have S0:∀ id∈(ev A.tm s).ids++(ev A.tm x).ids,(aJ H.t H.nx A.tm ⟨d,.call ⟨.builtin .append,⟨[s,x]⟩,⟨[t,t2]⟩⟩,ty,pos,af,gd⟩ (aD m did)).get id=H.get id:=fun id h=>by
  obtain ⟨y,hy,hyi⟩:=hops id h;exact pP (o:=⟨d,.call ⟨.builtin .append,⟨[s,x]⟩,⟨[t,t2]⟩⟩,ty,pos,af,gd⟩) rfl hy hyi (hid id h).1 (bJ.of (gp (m:=m) M3) (hid id h).2)
 rcases hv with ⟨v,c,h1,h2⟩|⟨v,h1,h2⟩
 ·refine D1.cons hg hd rfl ?_;have e0:(ao E.P ⟨d,.call ⟨.builtin .append,⟨[s,x]⟩,⟨[t,t2]⟩⟩,ty,pos,af,gd⟩).run A.tm ⟨aJ H.t H.nx A.tm ⟨d,.call ⟨.builtin .append,⟨[s,x]⟩,⟨[t,t2]⟩⟩,ty,pos,af,gd⟩ (aD m did),H.nx,[]⟩=.val v (Hp.new ⟨aJ H.t H.nx A.tm ⟨d,.call ⟨.builtin .append,⟨[s,x]⟩,⟨[t,t2]⟩⟩,ty,pos,af,gd⟩ (aD m did),H.nx,[]⟩ c):=h1 _ rfl S0;rw[e0];refine N1.val ⟨ez _,?_⟩;have e3:∀ sub:PT aK,cA 1 H (Hp.new ⟨sub,H.nx,[]⟩ c) (aD m did) []=H.t.set H.nx c:=fun sub=>by
   show bU H.t (sub.set H.nx c) (cr H.nx (H.nx+1 - H.nx))=_;have:H.nx+1 - H.nx=1:=by omega
   rw[this];show PT.put ((sub.set H.nx c).get H.nx) H.t H.nx=_;rw[PT.cS,zB0 rfl];rfl
  show D1 E l (j+1) ms _ (bq A d v) ⟨cA 1 H (Hp.new ⟨_,H.nx,[]⟩ c) (aD m did) [],H.nx+1,[]++H.log⟩ Q;rw[e3];exact h2 ((D0.mono (Nat.le_succ _)).cons (zA1 _) fun w hw=>by cases hw) _ (.cons ⟨rfl,rfl,rfl,rfl,fun k hk=>by cases hk⟩ M3)
 exact D1.look hg hd rfl (h1 ⟨_,H.nx,[]⟩ rfl S0) fun sub _=>h2 (D0.cons (zA1 _) fun w hw=>by cases hw) _ (.cons ⟨rfl,rfl,rfl,rfl,fun k hk=>by cases hk⟩ M3)
theorem DK.mono {E:Env} {o:Oper} {j m:Nat} {did:List DSy} {A:ab} {H:Hp} {next next':List DSy→ab→Hp→Prop} (h:DK E o j m did A H next) (hn:∀ d A H,next d A H→next' d A H):DK E o j m did A H next':=by
 unfold DK at h ⊢;split at h
 ·exact h.mono fun id ⟨a,b,c⟩=>⟨a,b,c.mono fun v H h=>hn _ _ _ h⟩
 ·exact h.mono fun id ⟨a,b,b',c⟩=>⟨a,b,b',c.mono fun v H h=>hn _ _ _ h⟩
 ·exact h.mono hn
 ·exact h.mono fun a v h=>hn _ _ _ h
 ·exact h.mono hn
 exact ⟨h.1,h.2.mono hn⟩
theorem DK.d1 {E:Env} {o:Oper} {j m:Nat} {ms:List Nat} {did':List DSy} {did:List Did} {l:List OF} {g:Option (Option Tmp×Bool)} {A:ab} {H:Hp} {Q:ab→Hp→Prop} (hg:∀ y n:R (ab×Hp),bu A.tm g y n=y) (hd:aq o.dst A.nt=true) (M3:DSs did' did) (D0:LtS H.nx did')
  (h:DK E o j m did' A H fun d' A H=>LtS H.nx d'→∀ dd,DSs d' dd→D1 E l (j+1) ms dd A H Q):D1 E (⟨g,o.dst,ao E.P o,o⟩::l) j (m::ms) did A H Q:=by
 obtain ⟨d,op,ty,pos,af,gd⟩:=o;unfold DK at h;split at h
 ·rename_i t x e7
  cases e7
  exact DK.load hg hd M3 D0 h
 ·rename_i t a x e7
  cases e7
  exact DK.store hg hd M3 D0 h
 ·rename_i f as ts e7
  cases e7
  exact DK.call hg hd M3 D0 h
 ·rename_i x t e7
  cases e7
  exact DK.len hg hd M3 D0 h
 ·rename_i s x t t2 e7
  cases e7
  exact DK.app hg hd M3 D0 h
 exact DK.pure hg hd M3 D0 h
theorem DO.d1 {E:Env} {ops:List Oper} {Q:ab→Hp→Prop}:∀ {l:List Oper} {j:Nat} {ms:List Nat} {did':List DSy} {did:List Did} {A:ab} {H:Hp},DSs did' did→LtS H.nx did'→DO E ops Q l j ms did' A H→D1 E (fF E.P ops l) j ms did A H Q
 | [],j,ms,_,_,A,H,_,_,h=>D1.nil (show Q A H by cases ms <;> exact h)
 | o::l,j,[],_,_,A,H,_,_,h=>by unfold DO at h;exact h.elim
 | o::l,j,m::ms,did',did,A,H,M3,D0,h=>by
  unfold DO at h;obtain ⟨hd,hg⟩:=h;rcases rS (gOf ops o.guard) A.tm with ⟨h1,h2⟩|⟨h1,h2⟩|h1
  ·rw[h1] at hg;have key:∀ {d':List DSy} {A':ab} {H':Hp},DO E ops Q l (j+1) ms d' A' H'→LtS H'.nx d'→∀ dd,DSs d' dd→D1 E (fF E.P ops l) (j+1) ms dd A' H' Q:=fun h hl dd hd=>DO.d1 hd hl h;exact DK.d1 h2 hd M3 D0 (hg.mono fun _ _ _ h=>key h)
  ·rw[h1] at hg;exact D1.skip h2 hd (DO.d1 M3 D0 hg)
  rw[h1] at hg;exact hg.elim
theorem R1.drw {E:Env} {r:Option Nat} {A:ab} {H:Hp} {Q:ax→ab→Hp→Prop} {id:Nat} {ops:Array Oper} {ms:List Nat} (hs:dF ops=true) (hm:dw [] 0 ops.toList=ms) (h:DO E ops.toList (fun A H=>Q .normal A H) ops.toList 0 ms [] A H):R1 E r (.region id ops true) A H Q:=by
 subst hm;exact R1.draw hs (DO.d1 .nil (fun s hs=>by cases hs) h)
section
variable {E:Env} {ops:List Oper} {Q:ab→Hp→Prop} {l:List Oper} {o:Oper} {j m:Nat} {ms:List Nat} {did:List DSy} {A:ab} {H:Hp} {next:List DSy→ab→Hp→Prop}
theorem PO:DO E ops Q [] j ms did A H=Q A H:=by cases ms <;> rfl
theorem Mx:DO E ops Q (o::l) j (m::ms) did A H=(aq o.dst A.nt=true∧DU E o j m did A H (fun did A H=>DO E ops Q l (j+1) ms did A H) (gw (gOf ops o.guard) A.tm)):=by rw[DO]
theorem Qp:DU E o j m did A H next .yes=DK E o j m did A H next:=rfl
theorem WC:DU E o j m did A H next .no=next did (bq A o.dst aF) H:=rfl
variable {d:Option Tmp} {ty:TypeId} {pos:String} {af:Array Edge} {g:Option (Nat×Bool)}
theorem Lo {t:TypeId} {x:Operand}:DK E ⟨d,.load t x,ty,pos,af,g⟩ j m did A H next=sH (ev A.tm x) fun id=>id<H.nx∧bJ id (aR m did)∧cI (fun v H'=>next (⟨j,some id,H.nx,H.nx,[]⟩::did) (bq A d v) H') ((ao E.P ⟨d,.load t x,ty,pos,af,g⟩).run A.tm H):=rfl
theorem FY {t:TypeId} {a x:Operand}:DK E ⟨d,.store t a x,ty,pos,af,g⟩ j m did A H next=sH (ev A.tm a) fun id=>id<H.nx∧bJ id (aR m did)∧bQ id (aR m did)∧cI (fun v H'=>next (⟨j,none,H.nx,H.nx,[id]⟩::did) (bq A d v) H') ((ao E.P ⟨d,.store t a x,ty,pos,af,g⟩).run A.tm H):=rfl
theorem KR {f:Operand} {as:Array Operand} {ts:Array TypeId}:DK E ⟨d,.call ⟨.value f,as,ts⟩,ty,pos,af,g⟩ j m did A H next=DC E j m did A d H next (lG E.P (ev A.tm f) (evs as.toList A.tm)):=rfl
theorem PG {x:Operand} {t:TypeId}:DK E ⟨d,.call ⟨.builtin .len,#[x],#[t]⟩,ty,pos,af,g⟩ j m did A H next=GZ (eu E.P t) (ev A.tm x) fun at? v=>next (⟨j,at?,H.nx,H.nx,[]⟩::did) (bq A d v) H:=rfl
theorem jm (p:Prop):((0:Nat)=0∧p)=p:=propext ⟨fun h=>h.2,fun h=>⟨rfl,h⟩⟩
theorem yJ {s x:Operand} {t:TypeId}:DK E ⟨d,.call ⟨.builtin .append,#[s,x],#[t,t]⟩,ty,pos,af,g⟩ j m did A H next=AP j m did A d H next ((ev A.tm s).ids++(ev A.tm x).ids) fun h=>aV E.P h t (ev A.tm s) (ev A.tm x):=by
 show AP j m did A d H next ((ev A.tm s).ids++(ev A.tm x).ids) (fun h=>(Eng.ifE (Nat.beq t t) (.mk fun tm h=>aV E.P h t (ev tm s) (ev tm x)) (kW "append - types"):SF).run A.tm h)=_
 rw[Nat.beq_refl];rfl
theorem Mr {x:Operand}:DK E ⟨d,.move x,ty,pos,af,g⟩ j m did A H next=DP j did A d H next ((ao E.P ⟨d,.move x,ty,pos,af,g⟩).run A.tm ⟨.leaf,H.nx,[]⟩):=jm _
theorem zh {x:Operand}:DK E ⟨d,.assign x,ty,pos,af,g⟩ j m did A H next=DP j did A d H next ((ao E.P ⟨d,.assign x,ty,pos,af,g⟩).run A.tm ⟨.leaf,H.nx,[]⟩):=jm _
theorem Nf {c x y:Operand}:DK E ⟨d,.pick c x y,ty,pos,af,g⟩ j m did A H next=DP j did A d H next ((ao E.P ⟨d,.pick c x y,ty,pos,af,g⟩).run A.tm ⟨.leaf,H.nx,[]⟩):=jm _
theorem Ds {e:TypeId}:DK E ⟨d,.alloc e,ty,pos,af,g⟩ j m did A H next=DP j did A d H next ((ao E.P ⟨d,.alloc e,ty,pos,af,g⟩).run A.tm ⟨.leaf,H.nx,[]⟩):=jm _
theorem SN {e:TypeId} {x:Operand}:DK E ⟨d,.box e x,ty,pos,af,g⟩ j m did A H next=DP j did A d H next ((ao E.P ⟨d,.box e x,ty,pos,af,g⟩).run A.tm ⟨.leaf,H.nx,[]⟩):=jm _
theorem GJ {t:TypeId} {ps:Array (Nat×Operand)}:DK E ⟨d,.build t ps,ty,pos,af,g⟩ j m did A H next=DP j did A d H next ((ao E.P ⟨d,.build t ps,ty,pos,af,g⟩).run A.tm ⟨.leaf,H.nx,[]⟩):=jm _
theorem oL {t:TypeId} {n:Nat} {ps:Array (Nat×Operand)}:DK E ⟨d,.buildSlice t n ps,ty,pos,af,g⟩ j m did A H next=DP j did A d H next ((ao E.P ⟨d,.buildSlice t n ps,ty,pos,af,g⟩).run A.tm ⟨.leaf,H.nx,[]⟩):=jm _
theorem FH {op:BinOp} {t:TypeId} {x y:Operand} {u:TypeId}:DK E ⟨d,.binOp op t x y u,ty,pos,af,g⟩ j m did A H next=DP j did A d H next ((ao E.P ⟨d,.binOp op t x y u,ty,pos,af,g⟩).run A.tm ⟨.leaf,H.nx,[]⟩):=jm _
theorem KK {op:UnOp} {t:TypeId} {x:Operand}:DK E ⟨d,.unOp op t x,ty,pos,af,g⟩ j m did A H next=DP j did A d H next ((ao E.P ⟨d,.unOp op t x,ty,pos,af,g⟩).run A.tm ⟨.leaf,H.nx,[]⟩):=jm _
theorem tw {f:Fn} {x y:Array Operand}:DK E ⟨d,.makeFunc f x y,ty,pos,af,g⟩ j m did A H next=DP j did A d H next ((ao E.P ⟨d,.makeFunc f x y,ty,pos,af,g⟩).run A.tm ⟨.leaf,H.nx,[]⟩):=jm _
theorem HE {t:TypeId} {x:Operand} {a b c:Option Operand}:DK E ⟨d,.slice t x a b c,ty,pos,af,g⟩ j m did A H next=DP j did A d H next ((ao E.P ⟨d,.slice t x a b c,ty,pos,af,g⟩).run A.tm ⟨.leaf,H.nx,[]⟩):=jm _
theorem pY {t:TypeId} {x:Operand} {f:Nat}:DK E ⟨d,.fieldAddr t x f,ty,pos,af,g⟩ j m did A H next=DP j did A d H next ((ao E.P ⟨d,.fieldAddr t x f,ty,pos,af,g⟩).run A.tm ⟨.leaf,H.nx,[]⟩):=jm _
theorem Gl {t:TypeId} {x:Operand} {f:Nat}:DK E ⟨d,.field t x f,ty,pos,af,g⟩ j m did A H next=DP j did A d H next ((ao E.P ⟨d,.field t x f,ty,pos,af,g⟩).run A.tm ⟨.leaf,H.nx,[]⟩):=jm _
theorem rQ {t:TypeId} {x y:Operand}:DK E ⟨d,.indexAddr t x y,ty,pos,af,g⟩ j m did A H next=DP j did A d H next ((ao E.P ⟨d,.indexAddr t x y,ty,pos,af,g⟩).run A.tm ⟨.leaf,H.nx,[]⟩):=jm _
theorem vz {x:Operand} {n:Nat}:DK E ⟨d,.extract x n,ty,pos,af,g⟩ j m did A H next=DP j did A d H next ((ao E.P ⟨d,.extract x n,ty,pos,af,g⟩).run A.tm ⟨.leaf,H.nx,[]⟩):=jm _
end
def ldO (b:Bool) (n off lim:Nat) (H:Hp) (o:Option (List AC)):ad:=
 nd (o.bind fun cells=>if n≤lim∧off+n≤cells.length then some ((cells.drop off).take n) else none) "load - cells" fun c=>ifE b (.val (.agg c) H) (List.rec (motive:=fun _=>ad) (.bad "load - no cell") (fun x _ _=>.val (.one x) H) c)
def stO (n id g off lim:Nat) (x:AV) (H:Hp) (o:Option aK):ad:=
 mE o (.bad "store - no row") fun cells e lo gen=>
  aH (both (Nat.beq g gen) (both (Nat.beq (bw x.cells) n) (both (Nat.ble n lim) (both (Nat.ble (Nat.add off n) (bw cells)) (both (Nat.ble lo gen) x.bz))))) "store - stale or of another size"
   (.val aF (H.mod id (.arr (eQ cells off x.cells) e gen gen)))
section
variable {H:Hp} {b:Bool} {n id g off lim lo gen:Nat} {cells:List AC} {e:TypeId} {x:AV}
theorem fi:bR H b n (.one (.o (.ptr id g off lim)))=ldO b n off lim H (rowOf (H.get id) g):=by
 show nd (rdO (H.get id) g off lim n) _ _=_;rw[Kq];rfl
theorem td:fQ H n x (.one (.o (.ptr id g off lim)))=stO n id g off lim x H (H.get id):=rfl
theorem pJ (h3:n≤lim) (h4:off+n≤cells.length):ldO true n off lim H (some cells)=.val (.agg ((cells.drop off).take n)) H:=by
 unfold ldO;simp only[Option.bind_some,zB0 (zB3 h3 h4)];rfl
theorem uj (h3:1≤lim) (h4:off+1≤cells.length):ldO false 1 off lim H (some cells)=.val (.one ((cells.drop off).headD (.b false))) H:=by
 unfold ldO;simp only[Option.bind_some,zB0 (zB3 h3 h4)];cases hc:cells.drop off with
 | nil=>have:=congrArg List.length hc;simp at this;omega
 | cons y c=>rfl
theorem Mh (h1:g=gen) (h2:x.cells.length=n) (h3:n≤lim) (h4:off+n≤cells.length) (h5:lo≤gen) (h6:x.bz=true):
  stO n id g off lim x H (some (.arr cells e lo gen))=.val aF (H.mod id (.arr (cells.take off++(x.cells++cells.drop (off+n))) e gen gen)):=by
 subst h1 h2;show aH (both (Nat.beq g g) (both (Nat.beq (bw x.cells) x.cells.length) (both (Nat.ble x.cells.length lim) (both (Nat.ble (Nat.add off x.cells.length) (bw cells)) (both (Nat.ble lo g) x.bz))))) _ _=_;have e4:Nat.ble (Nat.add off x.cells.length) (bw cells)=true:=by rw[bj];exact zA5 h4
 rw[Nat.beq_refl,bj,Nat.beq_refl,zA5 h3,e4,zA5 h5,h6,fz];rfl
def SlC (H:Hp) (v:AC) (sz n:Nat) (cells:List AC):Prop:=cells.length=n*sz∧((v=.o .nilS∧n=0)∨∃ id g off,v=.o (.sl id g off n sz)∧id<H.nx∧Rd H id g off (n*sz) cells)
theorem SlC.dp {v:AC} {sz n:Nat} {c:List AC} {H':Hp} (h:SlC H v sz n c) (hn:H.nx≤H'.nx) (hg:∀ i,i<H.nx→H'.get i=H.get i):SlC H' v sz n c:=by
 refine ⟨h.1,h.2.imp id ?_⟩;rintro ⟨id,g,off,h1,h2,h3⟩;exact ⟨id,g,off,h1,zA0 h2 hn,h3.dp (hg _ h2)⟩
theorem SlC.gr {v:AC} {sz n:Nat} {c:List AC} {H':Hp} (h:SlC H v sz n c) (hg:Gr H H'):SlC H' v sz n c:=h.dp hg.nx fun i hi=>hg.get i hi fun h=>h
theorem SlC.len {v:AC} {sz n:Nat} {c:List AC} (h:SlC H v sz n c):cG H 1 (.one v)=.val (.one (.i .i64 (n:Int))) H:=by
 rcases h.2 with ⟨rfl,rfl⟩|⟨id,g,off,rfl,_⟩ <;> rfl
theorem SlC.pos {v:AC} {sz n:Nat} {c:List AC} (h:SlC H v sz n c) (hn:0<n):∃ id g off,v=.o (.sl id g off n sz)∧id<H.nx∧Rd H id g off (n*sz) c:=by
 rcases h.2 with ⟨_,rfl⟩|h
 ·omega
 exact h
theorem ji {α:Type} {c:α→List AC} {sz:Nat} (hc:∀ x,(c x).length=sz):∀ l:List α,(l.flatMap c).length=l.length*sz
 | []=>by simp
 | x::l=>by rw[List.flatMap_cons,List.length_append,hc,ji hc l,List.length_cons];rw[Nat.succ_mul];omega
theorem Bt {α:Type} {c:α→List AC} {sz:Nat} (hc:∀ x,(c x).length=sz):∀ (l:List α) (i:Nat) (x:α),l[i]?=some x→((l.flatMap c).drop (i*sz)).take sz=c x
 | [],i,x,h=>by simp at h
 | y::l,0,x,h=>by
  simp only[List.getElem?_cons_zero,Option.some.injEq] at h;subst h;rw[Nat.zero_mul,List.drop_zero,List.flatMap_cons,List.take_append_of_le_length (by rw[hc];exact zA1 _),List.take_of_length_le (by rw[hc];exact zA1 _)]
 | y::l,i+1,x,h=>by
  rw[List.getElem?_cons_succ] at h;rw[List.flatMap_cons,Nat.succ_mul,List.drop_append,hc,List.drop_of_length_le (by rw[hc];omega),List.nil_append];have:i*sz+sz - sz=i*sz:=by omega
  rw[this];exact Bt hc l i x h
theorem Rd.at {α:Type} {c:α→List AC} {sz:Nat} (hc:∀ x,(c x).length=sz) {l:List α} (h:Rd H id g off (l.length*sz) (l.flatMap c)) {i:Nat} {x:α} (hi:l[i]?=some x):Rd H id g (off+i*sz) sz (c x):=by
 have D0:i<l.length:=by
  rcases Nat.lt_or_ge i l.length with h|h
  ·exact h
  rw[List.getElem?_eq_none h] at hi;cases hi
 have:=h.part (i*sz) sz (by
  have:(i+1)*sz≤l.length*sz:=Nat.mul_le_mul_right _ D0;rw[Nat.succ_mul] at this;exact this)
 rwa [Bt hc l i x hi] at this
end
def gwv (v:AV) (w:Bool):GW:=match v with|.one (.b b)=>if b=w then .yes else .no|.tup _=>.no|_=>.lost
theorem WV (w:Bool):gwv aF w=.no:=rfl
theorem Ww (b w:Bool):gwv (.one (.b b)) w=if b=w then .yes else .no:=rfl
theorem Rb (t:Tmp) (w:Bool) (tm:PT AV):gw (some (some t,w)) tm=gwv (slot tm t) w:=rfl
theorem FL (ops:List Oper) (j:Nat) (w:Bool):gOf ops (some (j,w))=(ops[j]?).elim (some (none,w)) fun o=>some (o.dst,w):=by
 show (match ops[j]? with|none=>some (none,w)|some o=>some (o.dst,w))=_;cases ops[j]? <;> rfl
theorem ye {α β:Type} (g:α→R β):∀ (l l':List α) (o o':List β),cj g l=.ok o→cj g l'=.ok o'→cj g (l++l')=.ok (o++o')
 | [],_,_,_,h,_=>by cases h
 | [a],l',o,o',h,h'=>by
  cases l' with
  | nil=>cases h'
  | cons b l'=>
   have e:g a=.ok o:=h;show wy (g a) (cj g (b::l'))=_;rw[e,h'];rfl
 | a::b::l,l',o,o',h,h'=>by
  have h1:wy (g a) (cj g (b::l))=.ok o:=h;cases ha:g a with
  | bad s=>rw[ha] at h1;cases h1
  | ok oa=>
   cases hb:cj g (b::l) with
   | bad s=>rw[ha,hb] at h1;cases h1
   | ok ob=>
    rw[ha,hb] at h1;have e:oa++ob=o:=by injection h1
    subst e;show wy (g a) (cj g (b::l++l'))=_;rw[ha,ye g (b::l) l' ob o' hb h'];show R.ok (oa++(ob++o'))=_;rw[List.append_assoc]
theorem AD {α β γ:Type} {f:α→R β} {g:β→R γ}:∀ (l:List α) (o:List γ),cj (fun a=>(f a).bind g) l=.ok o→(cj f l).bind g=.ok o
 | [],_,h=>by cases h
 | [a],_,h=>h
 | a::b::l,o,h=>by
  have h1:wy ((f a).bind g) (cj (fun a=>(f a).bind g) (b::l))=.ok o:=h;cases ha:(f a).bind g with
  | bad s=>rw[ha] at h1;cases h1
  | ok oa=>
   cases hb:cj (fun a=>(f a).bind g) (b::l) with
   | bad s=>rw[ha,hb] at h1;cases h1
   | ok ob=>
    rw[ha,hb] at h1;have e:oa++ob=o:=by injection h1
    subst e;have ih:=AD (b::l) ob hb;show (wy (f a) (cj f (b::l))).bind g=_;cases hf:f a with
    | bad s=>rw[hf] at ha;cases ha
    | ok la=>
     rw[hf] at ha;cases hl:cj f (b::l) with
     | bad s=>rw[hl] at ih;cases ih
     | ok lb=>
      rw[hl] at ih;exact ye g la lb oa ob ha ih
theorem PE {α β γ:Type} {x:R α} {f:α→R β} {g:β→R γ} {o:List γ} (h:x.bind (fun a=>(f a).bind g)=.ok o):(x.bind f).bind g=.ok o:=by
 cases x with
 | bad s=>cases h
 | ok l=>exact AD l o h
section
variable {E:Env} {r:Option Nat} {A:ab} {H:Hp} {Q:ax→ab→Hp→Prop} {x y z:Code}
theorem R1.aA (h:R1 E r (.seq x (.seq y z)) A H Q):R1 E r (.seq (.seq x y) z) A H Q:=by
 obtain ⟨n,e,A1,H1,h1,h2⟩:=h;refine ⟨n,e,A1,H1,?_,h2⟩;show (((codeF E x).run (eval E n) r A H).bind (oU (codeF E y) (eval E n) r)).bind (oU (codeF E z) (eval E n) r)=_;have he:(fun a=>(oU (codeF E y) (eval E n) r a).bind (oU (codeF E z) (eval E n) r))=oU (codeF E (.seq y z)) (eval E n) r:=by
  funext a
  obtain ⟨e,A2,H2⟩:=a;cases e <;> rfl
 refine PE ?_;rw[he];exact h1
theorem R1.Ss {c:Operand} {b:Bool} (hc:ev A.tm c=.one (.b b)) (h1:b=true→R1 E r (.seq x z) A H Q) (h2:b=false→R1 E r (.seq y z) A H Q):R1 E r (.seq (.cond c x y) z) A H Q:=by
 cases b with
 | true=>
  obtain ⟨n,e,A1,H1,h3,h4⟩:=h1 rfl;refine ⟨n,e,A1,H1,?_,h4⟩;show (dz (ev A.tm c) (.bad "cond") (fun b=>Eng.ifE b ((codeF E x).run (eval E n) r A H) ((codeF E y).run (eval E n) r A H))).bind _=_
  rw[hc];exact h3
 | false=>
  obtain ⟨n,e,A1,H1,h3,h4⟩:=h2 rfl;refine ⟨n,e,A1,H1,?_,h4⟩;show (dz (ev A.tm c) (.bad "cond") (fun b=>Eng.ifE b ((codeF E x).run (eval E n) r A H) ((codeF E y).run (eval E n) r A H))).bind _=_
  rw[hc];exact h3
theorem R1.bg (h:R1 E r z A H Q):R1 E r (.seq .skip z) A H Q:=R1.seq (R1.skip h)
theorem R1.mJ (h:Q .ret A H):R1 E r (.seq .ret z) A H Q:=R1.seq (R1.ret h)
theorem R1.iU {id:Nat} (h:Q (.exit id) A H):R1 E r (.seq (.exit id) z) A H Q:=R1.seq (R1.exit h)
theorem R1.fD (h:R1 E r (.seq x z) A H Q):R1 E r (.seq (.scope x) z) A H Q:=h
theorem R1.mq {id:Nat} {ops:Array Oper} {ms:List Nat} (hs:dF ops=true) (hm:dw [] 0 ops.toList=ms) (h:∀ K:ab→Hp→Prop,(∀ A H,R1 E r z A H Q→K A H)→DO E ops.toList K ops.toList 0 ms [] A H):R1 E r (.seq (.region id ops true) z) A H Q:=R1.seq (R1.drw hs hm (h _ fun _ _ h=>h))
theorem R1.aU {id:Nat} (h:∀ K:ax→ab→Hp→Prop,(∀ A H,R1 E r z A H Q→K .normal A H)→(∀ A H,R1 E r z A H Q→K (.exit id) A H)→(∀ i A H,i≠id→Q (.exit i) A H→K (.exit i) A H)→(∀ A H,Q .ret A H→K .ret A H)→R1 E r x A H K):R1 E r (.seq (.block id x) z) A H Q:=by
 refine R1.seq (R1.block (h _ (fun A H h=>h) (fun A H h=>?_) (fun i A H hi h=>?_) fun A H h=>h))
 ·show if id=id then _ else _;rw[zB0 rfl];exact h
 show if i=id then _ else _;rw[zB1 hi];exact h
end
end Go.Eng
end
