/- A part of the proof: EngApp, EngAll, EngMap2, EngDrH, EngJn. No conditions. -/
import Derived.Test.YtnhbkodnmkojpaaGreatQAi
set_option maxRecDepth 100000
set_option maxHeartbeats 64000000
set_option linter.unusedVariables false
set_option linter.unusedSimpArgs false
namespace Go.Eng
open Go
theorem LN {H:Hp} {v:AC} {sz n:Nat} {cells:List AC} (hv:SlC H v sz n cells):jH H sz (.one v)=some (n,cells):=by
 rcases hv with ⟨hc,⟨rfl,rfl⟩|⟨id,g,off,rfl,hid,row,hg,hle,W4⟩⟩
 ·rw[Nat.zero_mul] at hc;have hc:=List.eq_nil_of_length_eq_zero hc;subst hc;rfl
 rw[qL hg hle,W4]
theorem xE {P:Program} {H:Hp} {t e:TypeId} {sz by_ n id:Nat} {z:Value} {v:AC} {cells:List AC} (he:bd P t=some (e,sz)) (hb:cG P e=some by_) (hz:aA P e=some z) (M1:(ofValue z).cells.length=sz) (G1:sz≠0)
  (hg:H.get id=some (.arr [] e 0 0)) (hid:id<H.nx) (hv:SlC H v sz n cells) (h2:n≤140737488355328∧n*by_≤140737488355328):∃ v' H',ba P H t (.one (.o (.sl id 0 0 0 sz))) (.one v)=.val (.one v') H'∧eo H' v' e sz n cells (some id)∧Fr (fun i=>i=id) H H':=by
 have ho:eo H (.o (.sl id 0 0 0 sz)) e sz 0 [] (some id):=.inr ⟨id,0,0,rfl,rfl,hg,zA1 _,by rw[Nat.zero_mul];rfl,hid⟩;have hs:=LN hv;rcases Nat.eq_zero_or_pos n with h0|h0
 ·subst h0;have hc:cells=[]:=by
   have:=hv.1;rw[Nat.zero_mul] at this;exact List.eq_nil_of_length_eq_zero this
  subst hc;refine ⟨.o (.sl id 0 0 0 sz),H,?_,ho,Fr.refl _⟩;have e1:Nat.beq sz 0=false:=by
   cases h:Nat.beq sz 0 with
   | false=>rfl
   | true=>exact absurd (zA3 h) G1
  have e3:both (!Nat.beq sz 0) (Nat.beq (bB (ofValue z).cells) sz)=true:=by rw[e1,bh,M1,Nat.beq_refl];rfl
  have step:ba P H t (.one (.o (.sl id 0 0 0 sz))) (.one v)=dH H e sz by_ 0 [] (.one (.o (.sl id 0 0 0 sz))):=by
   unfold ba;simp only[he,hb,hz,nd,e3,aI,hs]
  rw[step];show nh (H.get id) _ _=_;rw[hg];show aI (both (Nat.beq sz sz) (both (Nat.beq e e) (both (Nat.ble 0 0) (both (Nat.ble 0 0) (both (Nat.ble (Nat.add 0 (Nat.mul 0 sz)) (bB ([]:List AC))) (both (Nat.ble (Nat.add 0 0) 140737488355328) (Nat.ble (Nat.mul (Nat.add 0 0) by_) 140737488355328))))))) _
   (Eng.ifE (Nat.beq 0 0) _ (Eng.ifE (both (Nat.beq 0 0) (both (Nat.beq 0 0) (Nat.beq (Nat.mul 0 sz) (bB ([]:List AC))))) _ _))=_
  have z1:Nat.mul 0 sz=0:=Nat.zero_mul sz;have z2:Nat.mul (Nat.add 0 0) by_=0:=Nat.zero_mul by_;rw[Nat.beq_refl,Nat.beq_refl,z1,z2];rfl
 obtain ⟨v',H',r',h1,h3,h4,h5⟩:=tD (n:=0) he hb hz M1 G1 ho hs (by omega) hv.1 (by omega) (by rw[Nat.zero_add];exact h2.2);rw[Nat.zero_add,List.nil_append] at h3;rcases h5 with h5|⟨h5,_⟩
 ·cases h5
  exact ⟨v',H',h1,h3,h4.mono fun i h=>by cases h;rfl⟩
 cases h5
theorem GF {H:Hp} {id g off n sz:Nat} {alt:ad} {f:BF}:bF H 1 .eql f (.one (.o (.sl id g off n sz))) (.one (.o .nilS)) alt=.val (.one (.b false)) H:=rfl
theorem Nq {H:Hp} {alt:ad} {f:BF}:bF H 1 .eql f (.one (.o .nilS)) (.one (.o .nilS)) alt=alt:=rfl
def EO (r:Bool) (H:Hp) (alt:ad) (x y:AV):ad:=
 match x,y with
 | .one (.o .nilS),.one (.o .nilS)=>.val (.one (.b r)) H
 | _,_=>alt
theorem Sd {r:Bool} {H:Hp} {alt:ad}:EO r H alt (.one (.o .nilS)) (.one (.o .nilS))=.val (.one (.b r)) H:=rfl
theorem Ii {P:Program} {tm:PT AV} {H:Hp} {d:Option Tmp} {t c:TypeId} {et:TypeId} {x y:Operand} {ty:TypeId} {pos:String} {af:Array Edge} {g:Option (Nat×Bool)} (h:P.underlying t=some (.slice et)):
  ax P tm H ⟨d,.binOp .eql t x y c,ty,pos,af,g⟩=EO true H (cS P tm H ⟨d,.binOp .eql t x y c,ty,pos,af,g⟩) (ev tm x) (ev tm y):=by
 unfold EO;split
 ·rename_i hx hy
  have vx:(ev tm x).val?=some (.slice none 0 0):=by rw[hx];rfl
  have vy:(ev tm y).val?=some (.slice none 0 0):=by rw[hy];rfl
  have dx:bj (ev tm x)=.slice none 0 0:=by unfold bj;rw[vx]
  have dy:bj (ev tm y)=.slice none 0 0:=by unfold bj;rw[vy]
  unfold ax;have e1:((⟨d,.binOp .eql t x y c,ty,pos,af,g⟩:Oper).op.operands.toList.all fun x=>(ev tm x).val?.isSome)=true:=by
   show ([x,y].all fun x=>(ev tm x).val?.isSome)=true;simp only[List.all_cons,List.all_nil,vx,vy];rfl
  rw[e1];have e2:aB P (execOp (fun x=>bj (ev tm x)) ⟨d,.binOp .eql t x y c,ty,pos,af,g⟩)=some (.value (.bool true)):=by
   show aB P (Sem.bind (Sem.bind (eqGuard .eql t x y (bj (ev tm x)) (bj (ev tm y))) fun _=>binOp .eql t (bj (ev tm x)) (bj (ev tm y))) fun v=>Sem.pure (Next.value v))=_;rw[dx,dy,aQ,aQ];have hg:eqGuard .eql t x y (.slice none 0 0) (.slice none 0 0)=pure ():=rfl;rw[hg];show ((aB P (Sem.bind (Op.equalIn 10000 t (.slice none 0 0) (.slice none 0 0)) fun r=>Sem.pure (Value.bool r)))).bind _=_;have he:aB P (Op.equalIn 10000 t (.slice none 0 0) (.slice none 0 0))=some true:=by
    unfold Op.equalIn;rw[bm,cr h];rfl
   rw[aQ,he];rfl
  rw[e2];rfl
 rfl
theorem JF {P:Program} {t e:TypeId} (h1:aU P t=1) (h:P.underlying t=some (.slice e)):aU P t=1∧(∀ (H:Hp) (alt:ad) (f:BF),bF H 1 .eql f (.one (.o .nilS)) (.one (.o .nilS)) alt=alt) ∧
  (∀ (H:Hp) (id g off n sz:Nat) (alt:ad) (f:BF),bF H 1 .eql f (.one (.o (.sl id g off n sz))) (.one (.o .nilS)) alt=.val (.one (.b false)) H) ∧
  (∀ (tm:PT AV) (H:Hp) (d:Option Tmp) (x y:Operand) (c ty:TypeId) (pos:String) (af:Array Edge) (g:Option (Nat×Bool)),ax P tm H ⟨d,.binOp .eql t x y c,ty,pos,af,g⟩=EO true H (cS P tm H ⟨d,.binOp .eql t x y c,ty,pos,af,g⟩) (ev tm x) (ev tm y)) ∧
  (∀ (H:Hp) (alt:ad),EO true H alt (.one (.o .nilS)) (.one (.o .nilS))=.val (.one (.b true)) H):=
 ⟨h1,fun _ _ _=>Nq,fun _ _ _ _ _ _ _ _=>GF,fun _ _ _ _ _ _ _ _ _ _=>Ii h,fun _ _=>Sd⟩
theorem R1.Vs {E:Env} {r:Option Nat} {x z:Code} {A:ab} {H:Hp} {Q:aD→ab→Hp→Prop} (I:ab→Hp→Prop)
  (h:∀ K:aD→ab→Hp→Prop,Hd (∀ B H,I B H→K .normal B H)→Hd (∀ i B H,Q (.exit i) B H→K (.exit i) B H)→Hd (∀ B H,Q .ret B H→K .ret B H)→R1 E r x A H K)
  (h2:∀ B H,I B H→R1 E r z B H Q):R1 E r (.seq x z) A H Q:=
 R1.seq ((h (Thn I Q) (fun _ _ h=>h) (fun _ _ _ h=>h) (fun _ _ h=>h)).mono fun e B H' hq=>by
  cases e with
  | normal=>exact h2 _ _ hq
  | exit i=>exact hq
  | ret=>exact hq)
def RA (E:Env) (r:Option Nat) (c:Code) (A:ab) (H:Hp) (Q:aD→ab→Hp→Prop):Prop:=∃ n l,(codeF E c).run (eval E n) r A H=.ok l∧l≠[]∧∀ x∈l,Q x.1 x.2.1 x.2.2
def OA (E:Env) (l:List OF) (A:ab) (H:Hp) (Q:ab→Hp→Prop):Prop:=∃ n o,eZ E (eval E n) l A H=.ok o∧o≠[]∧∀ x∈o,Q x.1 x.2
structure Us {K:Type} [DecidableEq K] (P:Program) (kt:TypeId) (kv:K→AV):Prop where
 eq:∀ a b,iS P kt (kv a) (kv b)=some (decide (a=b))
 ok:∀ e a,gO P e kt (kv a)=some ()
 same:∀ a,sameKey P kt (kv a) (kv a)=true
 nt:∀ a,(kv a).bw=true
theorem Uj {P:Program} {kt:TypeId} (h:bC P kt=2) (he:eqK P kt=some [.s,.i]) (B1:∀ e (s:List UInt8) (n:Int),gO P e kt (.agg [.o (.str s),.i .i64 n])=some ()):Us P kt fun x:List UInt8×Int=>.agg [.o (.str x.1),.i .i64 x.2] where
 eq:=fun a b=>by
  unfold iS;rw[h];have ha:dm [.s,.i] [.o (.str a.1),.i .i64 a.2] [.o (.str b.1),.i .i64 b.2]=some (a.1==b.1&&(a.2==b.2&&true)):=rfl;have:=wG he ha (vs:=[.string ⟨a.1.toArray⟩,.int .i64 a.2]) (vs':=[.string ⟨b.1.toArray⟩,.int .i64 b.2]) rfl rfl;show aB P (Op.equal kt (.agg #[.string ⟨a.1.toArray⟩,.int .i64 a.2]) (.agg #[.string ⟨b.1.toArray⟩,.int .i64 b.2]))=_;rw[this.1];obtain ⟨a1,a2⟩:=a;obtain ⟨b1,b2⟩:=b;by_cases h1:a1=b1 <;> by_cases h2:a2=b2 <;> simp[h1,h2]
 ok:=fun e a=>B1 e a.1 a.2
 same:=fun a=>by
  unfold sameKey;rw[h];show Instr.sameBits (9999+1) (.agg #[.string ⟨a.1.toArray⟩,.int .i64 a.2]) (.agg #[.string ⟨a.1.toArray⟩,.int .i64 a.2])=true;simp[Instr.sameBits,vG]
 nt:=fun _=>rfl
section
variable {K:Type}
def iP (kv:K→AV):Nat→List (K×AC)→List bI
 | _,[]=>[]
 | n,(k,v)::l=>⟨kv k,.one v,n⟩::iP kv (n+1) l
def qQ (kv:K→AV) (l:List (K×AC)):aJ:=.oth (.map (iP kv 0 l) l.length)
theorem Fu (kv:K→AV):∀ (n:Nat) (l:List (K×AC)) (k:K) (v:AC),iP kv n (l++[(k,v)])=iP kv n l++[⟨kv k,.one v,n+l.length⟩]
 | n,[],_,_=>rfl
 | n,(t,w)::l,k,v=>by
  show _::iP kv (n+1) (l++[(k,v)])=_::(iP kv (n+1) l++_);rw[Fu kv (n+1) l k v];have:n+1+l.length=n+(l.length+1):=by omega
  rw[this];rfl
variable [DecidableEq K]
def atG (l:List (K×AC)) (k:K):Option AC:=
 match l with
 | []=>none
 | (t,v)::l=>if t=k then some v else atG l k
def iG (l:List (K×AC)) (k:K) (v:AC):List (K×AC):=
 match l with
 | []=>[(k,v)]
 | (t,w)::l=>if t=k then (k,v)::l else (t,w)::iG l k v
variable {P:Program} {kt:TypeId} {kv:K→AV} (hk:Us P kt kv)
include hk
theorem uJ (k:K):∀ (n:Nat) (l:List (K×AC)),∃ e,iQ P kt (kv k) (iP kv n l)=some e∧e.map bI.val=(atG l k).map AV.one
 | _,[]=>⟨none,rfl,rfl⟩
 | n,(t,v)::l=>by
  obtain ⟨e,h1,h2⟩:=uJ k (n+1) l;have e0:iQ P kt (kv k) (iP kv n ((t,v)::l))=aw (iS P kt (kv k) (kv t)) none fun b=>Eng.ifE b (some (some ⟨kv t,.one v,n⟩)) (iQ P kt (kv k) (iP kv (n+1) l)):=rfl;rw[e0,hk.eq];by_cases I1:k=t
  ·subst I1;refine ⟨some ⟨kv k,.one v,n⟩,?_,?_⟩
   ·show Eng.ifE (decide (k=k)) _ _=_;rw[decide_eq_true rfl];rfl
   show _=(if k=k then some v else atG l k).map AV.one;rw[zB0 rfl];rfl
  refine ⟨e,?_,?_⟩
  ·show Eng.ifE (decide (k=t)) _ _=_;rw[decide_eq_false I1];exact h1
  show _=(if t=k then some v else atG l k).map AV.one;rw[zB1 (fun h=>I1 h.symm)];exact h2
theorem Np {H:Hp} {z:AV} {id:Nat} {k:K} {l:List (K×AC)} {ok:Bool} (hg:H.get id=some (qQ kv l)):
  bg P H kt z (.one (.o (.mp id))) (kv k) ok=(match atG l k with|some v=>bJ H ok (.one v) true|none=>bJ H ok z false):=by
 obtain ⟨e,h1,h2⟩:=uJ hk k 0 l;unfold bg;have P2:H.get id=some (.oth (.map (iP kv 0 l) l.length)):=hg;simp only[P2,hk.ok];show (match iQ P kt (kv k) (iP kv 0 l) with|some (some e)=>bJ H ok e.val true|some none=>bJ H ok z false|none=>.bad "lookup - keys")=_
 rw[h1];cases e with
 | none=>
  cases ha:atG l k with
  | none=>rfl
  | some v=>rw[ha] at h2;cases h2
 | some e=>
  cases ha:atG l k with
  | none=>rw[ha] at h2;cases h2
  | some v=>
   rw[ha] at h2;have:e.val=.one v:=Option.some.inj h2;show bJ H ok e.val true=bJ H ok (.one v) true;rw[this]
theorem yb (k:K) (x:AC):∀ (n:Nat) (l:List (K×AC)),mb P kt (kv k) (.one x) (iP kv n l)=some ((atG l k).isSome,if (atG l k).isSome=true then iP kv n (iG l k x) else iP kv n l)
 | n,[]=>rfl
 | n,(t,v)::l=>by
  have ih:=yb k x (n+1) l;have e0:mb P kt (kv k) (.one x) (iP kv n ((t,v)::l))=aw (iS P kt (kv k) (kv t)) none fun b=>Eng.ifE b (Eng.ifE (sameKey P kt (kv t) (kv k)) (some (true,⟨kv k,.one x,n⟩::iP kv (n+1) l)) none) (aw (mb P kt (kv k) (.one x) (iP kv (n+1) l)) none fun r=>some (r.1,⟨kv t,.one v,n⟩::r.2)):=rfl;rw[e0,hk.eq];by_cases I1:k=t
  ·subst I1;show Eng.ifE (decide (k=k)) _ _=_;rw[decide_eq_true rfl];show Eng.ifE (sameKey P kt (kv k) (kv k)) _ _=_;rw[hk.same];have e1:atG ((k,v)::l) k=some v:=zB0 rfl;have e2:iG ((k,v)::l) k x=(k,x)::l:=zB0 rfl;rw[e1,e2];rfl
  show Eng.ifE (decide (k=t)) _ _=_;rw[decide_eq_false I1];show aw (mb P kt (kv k) (.one x) (iP kv (n+1) l)) none _=_;rw[ih];have e1:atG ((t,v)::l) k=atG l k:=zB1 fun h=>I1 h.symm;have e2:iG ((t,v)::l) k x=(t,v)::iG l k x:=zB1 fun h=>I1 h.symm;rw[e1,e2];cases hs:(atG l k).isSome <;> rfl
omit hk in
theorem OZ {l:List (K×AC)} {k:K} {x:AC} (h:atG l k=none):iG l k x=l++[(k,x)]:=by
 induction l with
 | nil=>rfl
 | cons p l ih=>
  obtain ⟨t,w⟩:=p;have Y0:¬t=k:=fun e=>by
   have:atG ((t,w)::l) k=some w:=zB0 e;rw[this] at h;cases h
  have h1:atG l k=none:=by
   have:atG ((t,w)::l) k=atG l k:=zB1 Y0;rw[this] at h;exact h
  have e2:iG ((t,w)::l) k x=(t,w)::iG l k x:=zB1 Y0;rw[e2,ih h1];rfl
omit hk in
theorem Fz {k:K} {x:AC}:∀ {l:List (K×AC)},(iG l k x).length=if (atG l k).isSome=true then l.length else l.length+1
 | []=>rfl
 | (t,w)::l=>by
  by_cases ht:t=k
  ·have e1:atG ((t,w)::l) k=some w:=zB0 ht;have e2:iG ((t,w)::l) k x=(k,x)::l:=zB0 ht;rw[e1,e2];rfl
  have e1:atG ((t,w)::l) k=atG l k:=zB1 ht;have e2:iG ((t,w)::l) k x=(t,w)::iG l k x:=zB1 ht;rw[e1,e2,List.length_cons,Fz];split <;> rfl
omit hk in
theorem Jf {k k':K} {x:AC}:∀ {l:List (K×AC)},atG (iG l k x) k'=if k=k' then some x else atG l k'
 | []=>rfl
 | (t,w)::l=>by
  by_cases ht:t=k
  ·have e2:iG ((t,w)::l) k x=(k,x)::l:=zB0 ht;rw[e2];subst ht;show (if t=k' then some x else atG l k')=if t=k' then some x else (if t=k' then some w else atG l k');by_cases h:t=k' <;> simp[h]
  have e2:iG ((t,w)::l) k x=(t,w)::iG l k x:=zB1 ht;rw[e2];show (if t=k' then some w else atG (iG l k x) k')=if k=k' then some x else (if t=k' then some w else atG l k');rw[Jf];by_cases h:k=k'
  ·subst h;rw[zB1 ht,zB0 rfl,zB0 rfl]
  rw[zB1 h,zB1 h]
theorem Rp {H:Hp} {id:Nat} {k:K} {l:List (K×AC)} {x:AC} (hg:H.get id=some (qQ kv l)):
  aW P H kt (.one (.o (.mp id))) (kv k) (.one x)=.val aF (H.mod id (qQ kv (iG l k x))):=by
 unfold aW;have P2:H.get id=some (.oth (.map (iP kv 0 l) l.length)):=hg;simp only[P2,hk.ok];show aI (both (kv k).bw true) _ (nd (mb P kt (kv k) (.one x) (iP kv 0 l)) _ _)=_;rw[hk.nt,yb hk k x 0 l];cases hs:atG l k with
 | some v=>
  show ad.val aF (H.mod id (.oth (.map (iP kv 0 (iG l k x)) l.length)))=_;unfold qQ;rw[Fz,hs];rfl
 | none=>
  show ad.val aF (H.mod id (.oth (.map (iP kv 0 l++[⟨kv k,.one x,l.length⟩]) (l.length+1))))=_;unfold qQ;rw[OZ hs,Fu,List.length_append,Nat.zero_add];rfl
end
theorem gX {E:Env} {j m:Nat} {did:List DSy} {A:ab} {d:Option Tmp} {H:Hp} {next:List DSy→ab→Hp→Prop} {f:FuncId} {args:List AV} (Q:AV→Hp→Prop) (hQ:∀ v h1 h2,Gr h1 h2→Q v h1→Q v h2)
  (hu:∀ i,i<H.nx→bK i (aS m did)) (h:∀ h:Hp,Gr H h→h.nx=H.nx→Con E f args h (fun _=>False) Q)
  (hn:∀ v c1 H',Q v H'→H.nx≤c1→H'.nx=c1→Gr H H'→next (⟨j,none,H.nx,c1,[]⟩::did) (bA A d v) H'):DC E j m did A d H next (.enter f args):=by
 show ∀ h:Hp,_→_→_→_;intro h' W0 T0 _;have hg:Gr H ⟨h'.t,h'.nx,H.log⟩:=⟨Nat.le_of_eq W0.symm,fun i hi _=>T0 i hi (hu i hi),[],rfl,fun _ h=>by cases h⟩;refine (h _ hg W0 h'.log).mono fun v h2 ⟨R0,hv⟩=>⟨R0,fun H' e1 e2 e3 e4=>?_⟩;have hle:H.nx≤h2.nx:=by rw[←W0];exact R0.nx
 refine hn v h2.nx H' (hQ _ _ _ ?_ (hv H'.log)) hle e1 ⟨by rw[e1];exact hle,fun i hi _=>e3 i hi,[],by rw[e2];rfl,fun i hi=>by cases hi⟩;refine ⟨Nat.le_of_eq e1.symm,fun i hi _=>?_,[],rfl,fun _ h=>by cases h⟩;rcases Nat.lt_or_ge i H.nx with hh|hh
 ·rw[e3 i hh];exact ((R0.get i (by show i<h'.nx;omega) zB2).trans (T0 i hh (hu i hh))).symm
 exact e4 i hh
theorem zX {p a b:Prop} (f:p) (hb:b) (e:p→Hd b→a:=by
  intro f hW;repeat refine R1.au ?_
  (first|refine R1.Tm fun Kx Ky hx hy=>?_|refine R1.RJ fun Kx Ky hx hy=>?_)
  simp only[qB,ay,Nat.reduceLT,Nat.reduceEqDiff,Nat.reduceLeDiff,reduceIte,Nat.reduceAdd,Nat.reduceSub,Nat.reduceMul,Int.reduceLT,Int.reduceLE,Int.reduceBEq, *]
  (first|refine hx.out ?_|refine hy.out ?_)
  exact hW.out):a:=e f hb
theorem zR {p a b:Prop} (f:p) (hb:b) (e:p→Hd b→a:=by
  intro f hW;repeat refine R1.au ?_
  (first|refine R1.s_h (by kernel_rfl) fun K hK=>?_|refine R1.e_h (by kernel_rfl) fun K hK=>?_)
  simp only[qB,ay,Nat.reduceLT,Nat.reduceEqDiff,Nat.reduceLeDiff,reduceIte,Nat.reduceAdd,Nat.reduceSub,Nat.reduceMul,Int.reduceLT,Int.reduceLE,Int.reduceBEq, *];refine hK.out _ _ ?_;exact hW.out):a:=e f hb
theorem zE {p a b:Prop} (f:p) (hb:b) (e:p→Hd b→a:=by
  intro f hW;try simp only[qB,ay,Nat.reduceLT,Nat.reduceEqDiff,Nat.reduceLeDiff,reduceIte,Nat.reduceAdd,Nat.reduceSub,Nat.reduceMul,Int.reduceLT,Int.reduceLE,Int.reduceBEq, *]
  refine Hd.ap (Z:=?_) ?_ ?_;rotate_left
  ·assumption
  exact hW.out):a:=e f hb
def EndQ (E:Env) (res:List ResultVar) (Q:AV→Hp→Prop):aD→ab→Hp→Prop:=fun e A H=>∃ w H4,aC E res (e,A,H)=.ok [(w,H4)]∧Q w H4
end Go.Eng
