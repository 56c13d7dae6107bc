/- A part of the proof: EngSound7, EngDraw1, EngSound8, EngDraw2, EngDraw3, EngDraw4. No conditions. -/
import Derived.Test.YtnhbkodnmkojpaaGreatSAc
set_option maxRecDepth 100000
set_option maxHeartbeats 64000000
set_option linter.unusedVariables false
set_option linter.unusedSimpArgs false
noncomputable section
namespace Go.Eng
open Go
section
variable {P:Program} {m:Nat} {β:Pl} {H:Hp} {w:World}
theorem Kg {v:AV} {u:Value} (hv:AR β v u) {x:Bool×List AC} (h:fB v=some x):TR β x u:=by
 cases v with
 | one c=>cases h;exact hv
 | agg l=>cases h;exact hv
 | tup l=>cases h
 | any=>cases h
theorem Se {x:AV} {f:Nat→Nat→Nat→Nat→ad} {s:String} {y:AV} {H':Hp} (h:su x (.bad s) f=.val y H'):∃ a b c d,x=.one (.o (.ptr a b c d))∧f a b c d=.val y H':=by
 cases x with
 | one c=>
  cases c with
  | o q=>cases q <;> first|exact ⟨_,_,_,_,rfl,h⟩|cases h
  | b _=>cases h
  | i _ _=>cases h
 | agg _=>cases h
 | tup _=>cases h
 | any=>cases h
theorem Ps (hR:Rel m β H w) {t:TypeId} {a:Bool} {n:Nat} (ht:loadT P t=some (a,n)) {x:AV} {v:Value} (hx:AR β x v) {y:AV} {H':Hp} (h:bR H a n x=.val y H'):
  ∃ u,(do loadVar t (←asAddr v):Sem Value).run P w=.ok u w∧AR β y u:=by
 obtain ⟨ha,hn⟩:=Eg ht;obtain ⟨id,g,off,lim,rfl,h1⟩:=Se h;obtain ⟨p,hp,C4,rfl⟩:=hx;cases hc:eT H id g off lim n with
 | none=>rw[hc] at h1;cases h1
 | some c=>
  rw[hc] at h1;obtain ⟨cells,hD,e3,e4,rfl⟩:=nZ hc;have hr:=hD hR hp;obtain ⟨vs,E6,N4,J2⟩:=nH hr off n (by omega);cases a with
  | true=>
   cases h1
   refine ⟨.agg vs.toArray,?_,vs,N4,rfl⟩;have hl:=run_loadCells_list (P:=P) w ⟨p.b,p.o+off,none⟩ vs J2;rw[E6] at hl;simp[asAddr,loadVar,eN ha,cm hn,hl]
  | false=>
   cases W2:(cells.drop off).take n with
   | nil=>rw[W2] at h1;cases h1
   | cons z l=>
    rw[W2] at N4 h1;cases vs with
    | nil=>exact N4.elim
    | cons u us=>
     cases h1
     refine ⟨u,?_,N4.1⟩;have h0:=J2 0 u rfl;have:(⟨p.b,p.o+off,none⟩:Addr).add 0=⟨p.b,p.o+off,none⟩:=rfl;rw[this] at h0;simp[asAddr,loadVar,eN ha,run_load,h0]
def Dc (tmps:Array Value):ResultVar→Sem Value
 | .tmp t=>pure (tmps.getD t undef)
 | .cell a t=>do loadVar t (←asAddr (tmps.getD a undef))
theorem VM (hR:Rel m β H w) {tm:PT AV} {tmps:Array Value} (Q0:∀ t,AR β (ay (tm.get t) aF fun v=>v) (tmps.getD t undef)) {x:ResultVar} {y:Bool×List AC} (h:jy P x tm H=some y):
  ∃ u,(Dc tmps x).run P w=.ok u w∧TR β y u:=by
 cases x with
 | tmp t=>
  have h':ay (tm.get t) none fB=some y:=h;obtain ⟨v,hv,hy⟩:=cZ h';have:=Q0 t;rw[hv] at this;exact ⟨_,rfl,Kg this hy⟩
 | cell a t=>
  cases hp:loadT P t with
  | none=>
   have:jy P (.cell a t)=fun _ _=>none:=by simp[jy,hp]
   rw[this] at h;cases h
  | some p=>
   have:jy P (.cell a t)=fun tm h=>ay (tm.get a) none fun v=>ad.rec (motive:=fun _=>Option (Bool×List AC)) (fun v _=>fB v) (fun _=>none) (fun _ _=>none) (fun _ _=>none) (fun _=>none) (bR h p.1 p.2 v):=by simp[jy,hp]
   rw[this] at h;obtain ⟨v,hv,hy⟩:=cZ h;have hav:=Q0 a;rw[hv] at hav;cases hd:bR H p.1 p.2 v with
   | val y' H'=>
    rw[hd] at hy;obtain ⟨u,hu,hr⟩:=Ps (P:=P) hR (a:=p.1) (n:=p.2) hp hav hd;exact ⟨u,hu,Kg hr hy⟩
   | ox l=>rw[hd] at hy;cases hy
   | enter f l=>rw[hd] at hy;cases hy
   | round i l=>rw[hd] at hy;cases hy
   | bad s=>rw[hd] at hy;cases hy
theorem yS (hR:Rel m β H w) {tm:PT AV} {tmps:Array Value} (Q0:∀ t,AR β (ay (tm.get t) aF fun v=>v) (tmps.getD t undef)):∀ {l:List ResultVar} {ys:List (Bool×List AC)},bh P l tm H=some ys →
  ∃ us:List Value,(l.mapM (Dc tmps)).run P w=.ok us w∧TRs β ys us
 | [],ys,h=>by cases h;exact ⟨[],rfl,trivial⟩
 | x::l,ys,h=>by
  have h':ay (jy P x tm H) none (fun x=>ay (bh P l tm H) none fun l=>some (x::l))=some ys:=h;obtain ⟨y,hy,h1⟩:=cZ h';obtain ⟨ys',Z7,h2⟩:=cZ h1;cases h2
  obtain ⟨u,hu,hr⟩:=VM hR Q0 hy;obtain ⟨us,o9,hrs⟩:=yS hR Q0 Z7;refine ⟨u::us,?_,hr,hrs⟩;simp[List.mapM_cons,hu,o9]
theorem TRs.length:∀ {l:List (Bool×List AC)} {vs:List Value},TRs β l vs→vs.length=l.length
 | [],[],_=>rfl
 | _::_,_::_,h=>by simp[TRs.length h.2]
 | [],_::_,h=>h.elim
 | _::_,[],h=>h.elim
theorem Sv {ys:List (Bool×List AC)} {us:List Value} (h:TRs β ys us):AR β (cT ys) (if h:us.toArray.size=1 then us.toArray[0] else .tuple us.toArray):=by
 match ys,us,h with
 | [],[],h=>exact ⟨[],trivial,rfl⟩
 | [(true,l)],[u],h=>exact h.1
 | [(false,[c])],[u],h=>exact h.1
 | a::b::l,u::v::us,h=>
  have:¬(u::v::us).toArray.size=1:=by simp
  rw[dif_neg this];have e:cT (a::b::l)=.tup (a::b::l):=by
   unfold cT;split <;> first|rfl|(rename_i h;cases h)
  rw[e];exact ⟨_,h,rfl⟩
 | [(false,[])],[u],h=>exact h.1.elim
 | [(false,_::_::_)],[u],h=>exact h.1.elim
end
theorem iS {sub:PT aK} {n:Nat} {i:Nat}:∀ {l:List Nat},i∈cL sub n l↔i∈l∧i<n∧∃ o,sub.get i=some o
 | []=>⟨fun h=>(by cases h),fun h=>(by cases h.1)⟩
 | x::l=>by
  show i∈ifE (Nat.blt x n) (ay (sub.get x) (cL sub n l) fun _=>x::cL sub n l) (cL sub n l)↔_;have ih:=iS (sub:=sub) (n:=n) (i:=i) (l:=l);rw[bM];split
  ·rename_i hb
   have hx:x<n:=zA4 hb;cases hg:sub.get x with
   | none=>
    rw[Nx,ih];refine ⟨fun h=>⟨List.mem_cons_of_mem _ h.1,h.2⟩,fun h=>⟨?_,h.2⟩⟩;rcases List.mem_cons.1 h.1 with rfl|h1
    ·obtain ⟨o,ho⟩:=h.2.2;rw[hg] at ho;cases ho
    exact h1
   | some o=>
    rw[xO,List.mem_cons,ih];refine ⟨fun h=>?_,fun h=>?_⟩
    ·rcases h with rfl|h
     ·exact ⟨List.mem_cons_self ..,hx,o,hg⟩
     exact ⟨List.mem_cons_of_mem _ h.1,h.2⟩
    rcases List.mem_cons.1 h.1 with h1|h1
    ·exact .inl h1
    exact .inr ⟨h1,h.2⟩
  rename_i hb
  rw[ih];refine ⟨fun h=>⟨List.mem_cons_of_mem _ h.1,h.2⟩,fun h=>⟨?_,h.2⟩⟩;rcases List.mem_cons.1 h.1 with rfl|h1
  ·exact absurd (zA5 h.2.1:Nat.blt i n=true) hb
  exact h1
theorem lR {i:Nat}:∀ {n a:Nat},i∈cr a n↔a≤i∧i<a+n
 | 0,a=>⟨fun h=>(by cases h),fun h=>(by omega)⟩
 | n+1,a=>by
  show i∈a::cr (Nat.add a 1) n↔_;rw[List.mem_cons,lR];have:Nat.add a 1=a+1:=rfl;rw[this];omega
theorem lj {i:Nat}:∀ {l:List Nat},Ik l i=true↔i∈l
 | []=>⟨fun h=>(by cases h),fun h=>(by cases h)⟩
 | x::l=>by
  unfold Ik;cases h:Nat.beq x i with
  | true=>
   have:=zA3 h;subst this;simp
  | false=>
   have Y0:x≠i:=fun e=>by subst e;rw[Nat.beq_refl] at h;cases h
   rw[List.mem_cons];simp only[cond_false,lj];exact ⟨.inr,fun h=>h.resolve_left fun e=>Y0 e.symm⟩
theorem ja {src:PT aK} {id:Nat}:∀ {l:List Nat} {t:PT aK},(∀ i∈l,i<i+1)→(bU t src l).get id=if id∈l then src.get id else t.get id
 | [],t,_=>by simp[bU]
 | i::l,t,h=>by
  unfold bU;rw[ja fun j hj=>h j (List.mem_cons_of_mem _ hj)];by_cases hl:id∈l
  ·rw[zB0 hl,zB0 (List.mem_cons_of_mem _ hl)]
  rw[zB1 hl,PT.uh _ _ _ _ (h i (List.mem_cons_self ..))];by_cases hi:id=i
  ·subst hi;rw[zB0 rfl,zB0 (List.mem_cons_self ..)]
  rw[zB1 hi,zB1 fun hh=>(List.mem_cons.1 hh).elim hi hl]
theorem pc {id:Nat}:∀ {l:List Nat} {t:PT aK},(∀ i∈l,i<i+1)→(jX t l).get id=if id∈l then none else t.get id
 | [],t,_=>by simp[jX]
 | i::l,t,h=>by
  unfold jX;rw[pc fun j hj=>h j (List.mem_cons_of_mem _ hj)];by_cases hl:id∈l
  ·rw[zB0 hl,zB0 (List.mem_cons_of_mem _ hl)]
  rw[zB1 hl];show (PT.put none t i).get id=_;rw[PT.uh _ _ _ _ (h i (List.mem_cons_self ..))];by_cases hi:id=i
  ·subst hi;rw[zB0 rfl,zB0 (List.mem_cons_self ..)]
  rw[zB1 hi,zB1 fun hh=>(List.mem_cons.1 hh).elim hi hl]
theorem cx {m:Nat} {u:Did}:∀ {l:List Did},u∈aD m l↔u∈l∧Nat.testBit m u.idx=false
 | []=>⟨fun h=>(by cases h),fun h=>(by cases h.1)⟩
 | x::l=>by
  show u∈ifE (Nat.testBit m x.idx) (aD m l) (x::aD m l)↔_;rw[bM];split
  ·rename_i hb
   rw[cx];refine ⟨fun h=>⟨List.mem_cons_of_mem _ h.1,h.2⟩,fun h=>⟨?_,h.2⟩⟩;rcases List.mem_cons.1 h.1 with rfl|h1
   ·rw[hb] at h;cases h.2
   exact h1
  rename_i hb
  rw[List.mem_cons,cx,List.mem_cons];refine ⟨fun h=>?_,fun h=>?_⟩
  ·rcases h with rfl|h
   ·exact ⟨.inl rfl,by simpa using hb⟩
   exact ⟨.inr h.1,h.2⟩
  rcases h.1 with rfl|h1
  ·exact .inl rfl
  exact .inr ⟨h1,h.2⟩
theorem vv {V2:PT aK}:∀ {wr:List Nat},vT V2 wr=true→∀ i∈wr,V2.get i=none
 | [],_,i,hi=>by cases hi
 | x::wr,h,i,hi=>by
  have h':ay (V2.get x) (vT V2 wr) (fun _=>false)=true:=h;cases hg:V2.get x with
  | some o=>rw[hg] at h';cases h'
  | none=>
   rw[hg] at h';rcases List.mem_cons.1 hi with rfl|hi
   ·exact hg
   exact vv (wr:=wr) h' i hi
theorem qc {wr:List Nat}:∀ {us:List Did},dZ us wr=true→∀ u∈us,∀ i∈wr,u.V2.get i=none
 | [],_,u,hu=>by cases hu
 | x::us,h,u,hu=>by
  have h':both (vT x.V2 wr) (dZ us wr)=true:=h;rw[ck,Bool.and_eq_true] at h';rcases List.mem_cons.1 hu with rfl|hu
  ·exact vv h'.1
  exact qc h'.2 u hu
theorem uS {u:Did} {i:Nat}:bO u i=true↔i∈u.wr∨(u.c0≤i∧i<u.c1):=by
 unfold bO;rw[Bool.or_eq_true,lj,Bool.and_eq_true];refine or_congr Iff.rfl (and_congr ?_ ?_)
 ·exact ⟨zA4,zA5⟩
 exact ⟨fun h=>zA4 h,fun h=>zA5 h⟩
theorem pn {u:Did} {i:Nat} (h:u.c0≤u.c1):i∈de u↔bO u i=true:=by
 rw[uS];show i∈u.wr++cr u.c0 (u.c1 - u.c0)↔_;rw[List.mem_append,lR];have:u.c0+(u.c1 - u.c0)=u.c1:=by omega
 rw[this]
theorem mD {acc:List Nat} {j i:Nat}:∀ {es:List Edge},Nat.testBit (jx acc j es) i=true→∃ e∈es,fg e=true∧e.on<j∧(i=e.on∨Nat.testBit (acc.getD e.on 0) i=true)
 | [],h=>by simp[jx] at h
 | e::es,h=>by
  unfold jx at h;cases hc:fg e&&Nat.blt e.on j with
  | false=>
   rw[hc] at h;obtain ⟨e',Z9,r⟩:=mD (es:=es) h;exact ⟨e',List.mem_cons_of_mem _ Z9,r⟩
  | true=>
   rw[hc] at h;rw[Bool.and_eq_true] at hc;have D0:e.on<j:=zA4 hc.2;have h':Nat.testBit ((1 <<< e.on ||| acc.getD e.on 0) ||| jx acc j es) i=true:=h;rw[Nat.testBit_or,Nat.testBit_or,Bool.or_eq_true,Bool.or_eq_true] at h';rcases h' with (h'|h')|h'
   ·rw[Nat.one_shiftLeft,Nat.testBit_two_pow] at h';exact ⟨e,List.mem_cons_self ..,hc.1,D0,.inl (by simpa using h'.symm:e.on=i).symm⟩
   ·exact ⟨e,List.mem_cons_self ..,hc.1,D0,.inr h'⟩
   obtain ⟨e',Z9,r⟩:=mD (es:=es) h';exact ⟨e',List.mem_cons_of_mem _ Z9,r⟩
theorem zn:∀ (l:List Oper) (acc:List Nat) (j k:Nat),k<acc.length→(dw acc j l).getD k 0=acc.getD k 0
 | [],_,_,_,_=>rfl
 | o::l,acc,j,k,h=>by
  unfold dw;rw[zn l _ _ k (by simp;omega)];simp only[List.getD_eq_getElem?_getD];rw[List.getElem?_append_left h]
theorem ph:∀ (l:List Oper) (acc:List Nat) (j:Nat),acc.length=j→∀ k o,l[k]?=some o→∀ i,Nat.testBit ((dw acc j l).getD (j+k) 0) i=true →
  ∃ e∈o.after.toList,fg e=true∧e.on<j+k∧(i=e.on∨Nat.testBit ((dw acc j l).getD e.on 0) i=true)
 | [],_,_,_,k,o,h,_,_=>by simp at h
 | x::l,acc,j,hj,0,o,h,i,hi=>by
  simp at h
  subst h;unfold dw at hi ⊢;have Q3:=fun k hk=>zn l (acc++[jx acc j x.after.toList]) (Nat.add j 1) k hk;rw[Q3 (j+0) (by simp;omega)] at hi;have he:(acc++[jx acc j x.after.toList]).getD (j+0) 0=jx acc j x.after.toList:=by
   simp[←hj]
  rw[he] at hi;obtain ⟨e,he,h1,h2,h3⟩:=mD hi;refine ⟨e,he,h1,h2,h3.imp id fun h3=>?_⟩;rw[Q3 e.on (by simp;omega)];simp only[List.getD_eq_getElem?_getD] at h3 ⊢;rw[List.getElem?_append_left (by omega)];exact h3
 | x::l,acc,j,hj,k+1,o,h,i,hi=>by
  unfold dw at hi ⊢;have ih:=ph l (acc++[jx acc j x.after.toList]) (Nat.add j 1) (by simp[hj]) k o (by simpa using h) i;have e1:Nat.add j 1+k=j+(k+1):=by show j+1+k=_;omega
  rw[e1] at ih;exact ih hi
theorem oN {ops:Array Oper} {m:Nat} {y:Oper}:∀ {l:List Oper} {i0:Nat},nh ops m y i0 l=true→∀ k x,l[k]?=some x→Nat.testBit m (i0+k)=true∨yf ops x y=false
 | [],_,_,k,x,h=>by simp at h
 | z::l,i0,h,0,x,hx=>by
  simp at hx
  subst hx;unfold nh at h;rw[Bool.and_eq_true,Bool.or_eq_true] at h;exact h.1.imp id fun h=>by simpa using h
 | z::l,i0,h,k+1,x,hx=>by
  unfold nh at h;rw[Bool.and_eq_true] at h;have:=oN (l:=l) (i0:=Nat.add i0 1) h.2 k x (by simpa using hx);have e1:Nat.add i0 1+k=i0+(k+1):=by show i0+1+k=_;omega
  rw[e1] at this;exact this
theorem qR {ops:Array Oper}:∀ {l pre:List Oper} {ms:List Nat},nQ ops pre l ms=true→∀ k o,l[k]?=some o→∀ i x,i<pre.length+k→(pre++l)[i]?=some x→Nat.testBit (ms.getD k 0) i=true∨yf ops x o=false
 | [],_,_,_,k,o,h,_,_,_,_=>by simp at h
 | o::l,pre,[],h,_,_,_,_,_,_,_=>by unfold nQ at h;cases h
 | o::l,pre,m::ms,h,0,o',ho,i,x,hi,hx=>by
  simp at ho
  subst ho;unfold nQ at h;rw[Bool.and_eq_true] at h;have V4:pre[i]?=some x:=by rw[List.getElem?_append_left (by simpa using hi)] at hx;exact hx
  have:=oN h.1 i x V4;simpa using this
 | o::l,pre,m::ms,h,k+1,o',ho,i,x,hi,hx=>by
  unfold nQ at h;rw[Bool.and_eq_true] at h;have:=qR h.2 k o' (by simpa using ho) i x (by simp;omega) (by simpa using hx);simpa using this
theorem jo:∀ {l:List Oper} {j:Nat},kJ j l=true→∀ k o,l[k]?=some o→∀ e∈o.after.toList,fg e=true→e.on<j+k
 | [],_,_,k,o,h,_,_,_=>by simp at h
 | x::l,j,h,0,o,ho,e,he,hu=>by
  simp at ho
  subst ho;unfold kJ at h;rw[Bool.and_eq_true,List.all_eq_true] at h;have:=h.1 e he;rw[hu] at this;simp at this
  exact this
 | x::l,j,h,k+1,o,ho,e,he,hu=>by
  unfold kJ at h;rw[Bool.and_eq_true] at h;have:=jo h.2 k o (by simpa using ho) e he hu;have e1:Nat.add j 1+k=j+(k+1):=by show j+1+k=_;omega
  rw[e1] at this;exact this
theorem oS {ops:Array Oper} {x y:Oper} (h:yf ops x y=false):(∀ d,x.dst=some d→d∉slotsOf ops y∧y.dst≠some d)∧∀ d,y.dst=some d→d∉slotsOf ops x:=by
 unfold yf at h;rw[Bool.or_eq_false_iff] at h;refine ⟨fun d hd=>?_,fun d hd hm=>?_⟩
 ·have h1:=h.1;rw[hd] at h1;simp only[Bool.or_eq_false_iff] at h1;refine ⟨fun hm=>?_,fun hy=>?_⟩
  ·rw[lj.2 hm] at h1;cases h1.1
  rw[hy] at h1;have:=h1.2;simp only[Nat.beq_refl] at this;cases this
 have h2:=h.2;rw[hd] at h2;simp only at h2
 rw[lj.2 hm] at h2;cases h2
theorem sK {H H':Hp} {l:List Nat} (h:H'.log=l++H.log):wx H H'=l:=by
 unfold wx;rw[h,List.length_append,Nat.add_sub_cancel,List.take_left'];rfl
theorem uT {src:PT aK} {n id:Nat}:∀ {l:List Nat} {t:PT aK},(∀ i∈l,i<i+1)→(sY n t src l).get id=if id∈l then iC n id (src.get id) else t.get id
 | [],t,_=>by simp[sY]
 | i::l,t,h=>by
  unfold sY;rw[uT fun j hj=>h j (List.mem_cons_of_mem _ hj)];by_cases hl:id∈l
  ·rw[zB0 hl,zB0 (List.mem_cons_of_mem _ hl)]
  rw[zB1 hl,PT.uh _ _ _ _ (h i (List.mem_cons_self ..))];by_cases hi:id=i
  ·subst hi;rw[zB0 rfl,zB0 (List.mem_cons_self ..)]
  rw[zB1 hi,zB1 fun hh=>(List.mem_cons.1 hh).elim hi hl]
open Classical in
theorem kR {H:Hp} {l:List (AV×Hp)} {t:PT aK} {id:Nat}:(yd H l t).get id=if id<kL l∧∀ x∈l,iC H.nx id (x.2.t.get id)=iC H.nx id (t.get id) then iC H.nx id (t.get id) else none:=by
 show (sY H.nx .leaf t ((cr 0 (kL l)).filter (rr H.nx l t))).get id=_;rw[uT fun i _=>zA6 i];have e:id∈(cr 0 (kL l)).filter (rr H.nx l t)↔id<kL l∧∀ x∈l,iC H.nx id (x.2.t.get id)=iC H.nx id (t.get id):=by
  rw[List.mem_filter,lR];unfold rr;rw[decide_eq_true_iff];exact ⟨fun h=>⟨by omega,h.2⟩,fun h=>⟨by omega,h.2⟩⟩
 by_cases hc:id<kL l∧∀ x∈l,iC H.nx id (x.2.t.get id)=iC H.nx id (t.get id)
 ·rw[zB0 hc,zB0 (e.2 hc)]
 rw[zB1 hc,zB1 fun h=>hc (e.1 h)];rfl
def Wk (o o':aK):Prop:=o=o'∨o=Zb o'
theorem Wk.ro {o o':aK} (h:Wk o o'):o.mu=o'.mu:=by
 rcases h with rfl|rfl
 ·rfl
 cases o' <;> rfl
theorem Wk.gen {o o':aK} {β:Pl} {w:World} {id g:Nat} (h:Wk o o') (hr:fS β w id o') (hg:dB o g):dB o' g:=by
 rcases h with rfl|rfl
 ·exact hg
 cases o' with
 | arr c e lo gen=>exact ⟨zA2 hr.1 hg.1,hg.2⟩
 | oth x=>exact hg
 | ro c=>exact hg
theorem Wk.obj {o o':aK} {β:Pl} {w:World} {id:Nat} (h:Wk o o') (hr:fS β w id o'):fS β w id o:=by
 rcases h with rfl|rfl
 ·exact hr
 cases o' with
 | arr c e lo gen=>
  obtain ⟨h1,h2,h3,h4⟩:=hr;exact ⟨zA1 _,fun g a b=>h2 g (zA2 h1 a) b,fun g g' p p' a b c=>h3 g g' p p' (zA2 h1 a) b c,h4⟩
 | oth x=>exact hr
 | ro c=>exact hr
theorem Tr {n id:Nat} {x:Option aK} {o:aK} (h:iC n id x=some o):∃ o',x=some o'∧Wk o o':=by
 unfold iC at h;split at h
 ·exact ⟨o,h,.inl rfl⟩
 cases x with
 | none=>cases h
 | some o'=>exact ⟨o',rfl,.inr (Option.some.inj h).symm⟩
theorem GC {P:Program} {fn:Func} {tmps:Array Value} {w:World} {us:List Value} (h:(fn.results.toList.mapM (Dc tmps)).run P w=.ok us w):
  (results fn tmps).run P w=.ok (if h:us.toArray.size=1 then us.toArray[0] else .tuple us.toArray) w:=by
 have e:results fn tmps=(do let vs ←fn.results.mapM (Dc tmps);pure (if h:vs.size=1 then vs[0] else .tuple vs)):=by
  unfold results;congr 1
 rw[e,Array.mapM_eq_mapM_toList];simp[h]
section
variable {E:Env} {m:Nat}
theorem Ee (hm:m≤m) {fn:Func} {tmps:Array Value} {R:Ending→World→Prop}:∀ {ids:List Nat} {ds:List Deferred} {β:Pl} {H H2:Hp} {w:World},Rel m β H w→H.nx≤m→nr β ids ds→closeAll H ids=some H2 →
  (∀ w2,Rel m β H2 w2→Ext β H w β H2 w2→LeavesInM Fence.wide 0 E.P fn tmps R [] .returning w2)→LeavesInM Fence.wide 0 E.P fn tmps R ds .returning w
 | [],[],β,H,H2,w,hR,W0,_,h,hk=>by cases h;exact hk w hR (Ext.refl _ _ _)
 | i::ids,d::ds,β,H,H2,w,hR,W0,hM,h,hk=>by
  unfold closeAll at h;split at h
  ·rename_i hg
   obtain ⟨p,hp,rfl⟩:=hM.1;obtain ⟨q,hq,hw⟩:=hR.obj i _ hg;rw[hp] at hq;cases hq;have U1:w.heap[p.b]?=some (.deferred (some [])):=hw;have T1:=lF hR hm W0 hg (.dfr false) hp w rfl rfl rfl rfl (.deferred none) (fun w' U1=>U1);refine ⟨by simp,.inl ⟨p.b,{ w with heap:=w.heap.setIfInBounds p.b (.deferred none) },rfl,?_,?_⟩⟩
   ·simp[Instr.takeDeferred,getObj,setObj,Sem.run,U1]
   exact Ee hm T1.1 W0 hM.2 h fun w2 h2 h3=>hk w2 h2 (T1.2.trans h3)
  cases h
 | [],_::_,_,_,_,_,_,_,hM,_,_=>hM.elim
 | _::_,[],_,_,_,_,_,_,hM,_,_=>hM.elim
end
theorem wI {β:Pl} {nt:Nat} (h20:nt≤1048576):∀ (args:List AV) (vs:List Value) (k:Nat) (tm:PT AV) (tmps:Array Value),ARs β args vs→TmR β tm nt tmps→k+vs.length≤nt →
  TmR β (setArgs args k tm) nt ((tmps.toList.take k++vs++tmps.toList.drop (k+vs.length)).toArray)
 | [],[],k,tm,tmps,_,h,_=>by
  show TmR β tm nt _;simpa using h
 | x::args,v::vs,k,tm,tmps,ha,h,hk=>by
  have S2:k<nt:=by simp at hk;omega
  have ih:=wI h20 args vs (k+1) (tm.set k x) (tmps.setIfInBounds k v) ha.2 (h.put S2 ha.1) (by simp at hk;omega);have G1:=h.1;have e:=list_seg_step tmps.toList k v vs (by simp at hk ⊢;omega);rw[Array.toList_setIfInBounds] at ih;rw[e] at ih;have hl:k+1+vs.length=k+(v::vs).length:=by simp;omega
  exact ih
 | [],_::_,_,_,_,ha,_,_=>ha.elim
 | _::_,[],_,_,_,ha,_,_=>ha.elim
theorem LB {β:Pl} {nt:Nat} (h20:nt≤1048576) {args:List AV} {vs:List Value} (ha:ARs β args vs) (hl:args.length≤nt):TmR β (setArgs args 0 .leaf) nt (vs.toArray++Array.replicate (nt - vs.toArray.size) undef):=by
 have h0:TmR β (.leaf:PT AV) nt (Array.replicate nt undef):=by
  refine ⟨by simp,h20,fun t=>?_⟩;have:(Array.replicate nt undef).getD t undef=undef:=by
   simp only[Array.getD_eq_getD_getElem?,Array.getElem?_replicate];split <;> rfl
  rw[this];exact rF β
 have E6:=ha.length;have:=wI h20 args vs 0 .leaf (Array.replicate nt undef) ha h0 (by omega);have e:((Array.replicate nt undef).toList.take 0++vs++(Array.replicate nt undef).toList.drop (0+vs.length)).toArray=vs.toArray++Array.replicate (nt - vs.toArray.size) undef:=by
  apply Array.ext'
  simp
 rw[e] at this;exact this
section
variable {E:Env} (hE:vY E) (hD:RT E)
include hE hD
omit hE hD in
theorem wv {m:Nat} {β β1:Pl} {H:Hp} {w w1:World} (hm:m≤m) {fn:Func} {x:ax×ab×Hp} {a1:Act} {e:Exit} (hx:XR x.1 e) (hA:gO β1 x.2.1 a1) (hR:Rel m β1 x.2.2 w1) (P0:Ext β H w β1 x.2.2 w1) (W0:nE x≤m)
  {o outs:List (AV×Hp)} (ho:aC E fn.results.toList x=.ok o) (hs:∀ y∈o,y∈outs) {R:Ending→World→Prop} (hQ:∀ e w',mB m β H w outs e w'→R e w'):bodyPostM Fence.wide 0 E.P fn R e a1 w1:=by
 have key:∀ {o:List (AV×Hp)},(ay (closeAll x.2.2 x.2.1.dfr) (.bad "marks") fun h2=>ay (bh E.P fn.results.toList x.2.1.tm h2) (.bad "results") fun l=>.ok [(cT l,h2)])=Eng.R.ok o→(∀ y∈o,y∈outs) →
   LeavesInM Fence.wide 0 E.P fn a1.tmps R a1.defers .returning w1:=by
  intro o ho hs;cases hc:closeAll x.2.2 x.2.1.dfr with
  | none=>rw[hc] at ho;cases ho
  | some h2=>
   rw[hc] at ho;have Z1:ay (bh E.P fn.results.toList x.2.1.tm h2) (.bad "results") (fun l=>Eng.R.ok [(cT l,h2)])=Eng.R.ok o:=ho
   refine Ee hm hR W0 hA.df hc fun w2 m8 b9=>?_;cases hr:bh E.P fn.results.toList x.2.1.tm h2 with
   | none=>rw[hr] at Z1;cases Z1
   | some l=>
    rw[hr] at Z1;cases Z1
    obtain ⟨us,o9,htr⟩:=yS (P:=E.P) m8 hA.tm.2.2 hr;exact ⟨_,GC o9,hQ _ _ ⟨_,rfl,_,hs _ (List.mem_singleton.2 rfl),β1,Sv htr,m8,P0.trans b9⟩⟩
 unfold aC at ho;cases V0:x.1 with
 | normal=>rw[V0] at ho;rw[hx.normal V0];exact key ho hs
 | exit i=>rw[V0] at ho;cases ho
 | ret=>rw[V0] at ho;rw[hx.ret V0];exact key ho hs
omit hE hD in
theorem mB.join {m:Nat} {β:Pl} {H:Hp} {w:World} (hR:Rel m β H w) {l:List (AV×Hp)} {e:Ending} {w':World} (h:mB m β H w l e w'):mB m β H w (mr H l) e w':=by
 rcases mU H l with ej|⟨x,hx,hc,ej⟩
 ·rw[ej];exact h
 rw[ej];obtain ⟨v,rfl,y,hy,β',hv,D9,V4⟩:=h;obtain ⟨C2,hy2⟩:=hc y hy;have hmx:=jb hy;have hle:=V4.nx;have U0:∀ id o,(yd H l x.2.t).get id=some o→∃ o',y.2.get id=some o'∧Wk o o':=fun id o ho=>by
  rw[kR] at ho;by_cases hh:id<kL l∧∀ z∈l,iC H.nx id (z.2.t.get id)=iC H.nx id (x.2.t.get id)
  ·rw[zB0 hh] at ho;exact Tr ((hh.2 y hy).trans ho)
  rw[zB1 hh] at ho;cases ho
 have hold:∀ id,id<H.nx→(yd H l x.2.t).get id=y.2.get id:=fun id hid=>by
  rw[kR,zB0 ⟨by omega,fun z hz=>congrArg _ ((hc z hz).2 id hid)⟩];show (if id<H.nx then x.2.t.get id else _)=_;rw[zB0 hid];exact (hy2 id hid).symm
 refine ⟨v,rfl,_,List.mem_singleton.2 rfl,β',by rw[←C2];exact hv,⟨fun id o ho=>(let ⟨o',h1,h2⟩:=U0 id o ho;h2.obj (D9.obj id o' h1)),fun id id' o o' g g' p p' h1 h2 h3 h4 h5 h6 h7=>(by
  obtain ⟨o1,a1,a2⟩:=U0 id o h1;obtain ⟨o2,b1,b2⟩:=U0 id' o' h2;rw[a2.ro,b2.ro];exact D9.sep id id' o1 o2 g g' p p' a1 b1 (a2.gen (D9.obj id o1 a1) h3) (b2.gen (D9.obj id' o2 b1) h4) h5 h6 h7),fun id hid=>?_,fun id g h1 h2=>D9.free id g (zA2 hmx h1) h2⟩,?_⟩
 ·rw[kR,zB1 fun hh=>absurd hh.1 (Nat.not_lt.2 hid)]
 refine { sub:=V4.sub,loc:=fun id g p hp=>?_,size:=V4.size,os:=V4.os,tape:=V4.tape,output:=V4.output,frame:=V4.frame,prov:=fun id o g p h1 h2 h3=>(by
       obtain ⟨o1,a1,a2⟩:=U0 id o h1;rw[a2.ro];exact V4.prov id o1 g p a1 (a2.gen (D9.obj id o1 a1) h2) h3),nx:=zA2 hle hmx,
          log:=⟨_,rfl,fun id hid hn=>?_⟩,dom:=fun id o ho=>?_,old:=fun id o ho=>?_,far:=fun l' U6 b hb hn=>?_ }
 ·rcases V4.loc id g p hp with h1|h1|h1
  ·exact .inl h1
  ·exact .inr (.inl ⟨h1.1,zA0 h1.2 hmx⟩)
  exact .inr (.inr h1)
 ·rw[hold id hid];obtain ⟨l2,e2,f2⟩:=V4.log;refine f2 id hid fun hm=>hn ?_;exact List.mem_flatMap.2 ⟨y,hy,by rw[sK e2];exact hm⟩
 ·have hid:id<H.nx:=by
   rcases Nat.lt_or_ge id H.nx with hh|hh
   ·exact hh
   rw[hR.wf id hh] at ho;cases ho
  obtain ⟨o',Z1⟩:=V4.dom id o ho;exact ⟨o',by rw[hold id hid];exact Z1⟩
 ·obtain ⟨o1,a1,a2⟩:=U0 id o ho;rcases V4.old id o1 a1 with h1|h1
  ·exact .inl h1
  exact .inr ⟨h1.1,zA0 h1.2 hmx⟩
 obtain ⟨l2,e2,f2⟩:=V4.log;have e3:l'=l.flatMap fun z=>wx H z.2:=by
  have:l.flatMap (fun z=>wx H z.2)++H.log=l'++H.log:=U6;exact (List.append_cancel_right this).symm
 subst e3;exact V4.far l2 e2 b hb fun id o g p hid=>hn id o g p (List.mem_flatMap.2 ⟨y,hy,by rw[sK e2];exact hid⟩)
theorem NP {N:Nat} {rec:Rec} (K0:BJ E.P N rec) (G0:RecM rec) {m:Nat} {β:Pl} {H:Hp} {w:World} {f:FuncId} {args:List AV} {vs:List Value} {outs:List (AV×Hp)} (hm:m≤m) (hR:Rel m β H w) (ha:ARs β args vs)
  (h:hH E rec f args H=.ok outs) (hb:∀ x∈outs,nV x≤m):CallsIn Fence.wide 0 E.P f vs.toArray w (mB m β H w outs):=by
 unfold hH NQ at h;cases hf:E.P.funcs[f]? with
 | none=>rw[hf] at h;cases h
 | some fn=>
  cases i':fn.body with
  | none=>rw[hf] at h;simp only[i'] at h;cases h
  | some c=>
   rw[hf] at h;simp only[i'] at h;have h':ifE (both (Nat.ble (oA args) fn.ntmps) (Nat.ble fn.ntmps 1048576)) (oB H (((codeF E c).run rec none ⟨setArgs args 0 .leaf,fn.ntmps,[]⟩ H).bind (aC E fn.results.toList))) (.bad "too many arguments")=R.ok outs:=h
   rw[bM] at h';split at h'
   ·rename_i hc
    obtain ⟨l0,U7,rfl⟩:=HP h';replace hb:=Tw hb;obtain ⟨l,hl,hk⟩:=R.dJ U7;have N3:∀ x∈l,nE x≤m:=fun x hx=>by
     obtain ⟨o,ho,hs⟩:=hk x hx;exact RG.nJ (pb (zA1 _)) ho hs hb
    have Q0:=LB (zA4 (ag hc).2) ha (zA4 (ag hc).1);have hA:gO β ⟨setArgs args 0 .leaf,fn.ntmps,[]⟩ { tmps:=vs.toArray++Array.replicate (fn.ntmps - vs.toArray.size) undef,defers:=[] }:=⟨Q0,trivial⟩;refine callsIn_of_wp_marks hf i' trivial ?_;refine Go.wpIn_mono (qh hE hD K0 G0 c (r:=none) (rB:=none) hm hR hA rfl hl N3).1 fun e a1 w1 hp=>?_;obtain ⟨x,hx,o6,β1,E5,G4,P0⟩:=hp;obtain ⟨o,ho,hs⟩:=hk x hx;exact wv hm o6 E5 G4 P0 (N3 x hx) ho hs fun _ _ h=>mB.join hR h
   cases h'
theorem qf:∀ n,BJ E.P n (eval E n)
 | 0=>{ code:=fun _ _ _ _ h=>(by cases h),call:=fun _ _ _ h=>(by cases h) }
 | n+1=>
  { code:=fun {_ _ _ _ _ _ _ _ c _} hm hR hA hr h hb=>qh hE hD (qf n) (lQ E n) c hm hR hA hr h hb,
    call:=fun hm hR ha h hb=>NP hE hD (qf n) (lQ E n) hm hR ha h hb }
end
structure DS where
 A:ab
 H:Hp
 did:List Did
structure DR where
 ran:Bool
 av:AV
 sub:PT aK
 H':Hp
def DR.wr (r:DR) (s:DS):List Nat:=cL r.sub s.H.nx r.H'.log
def tV (A:ab) (d:Option Tmp) (v:AV):ab:=match d with|none=>A|some d=>A.put d v
structure VW (E:Env) (rec:Rec) (ops:Array Oper) (j:Nat) (o:Oper) (m:Nat) (s s':DS) (r:DR):Prop where
 slot:∀ d,o.dst=some d→d<s.A.nt
 act:s'.A=tV s.A o.dst r.av
 yes:r.ran=true→(∀ y n:R (ab×Hp),bu s.A.tm (gOf ops.toList o.guard) y n=y)∧r.sub=aJ s.H.t s.H.nx s.A.tm o (aD m s.did) ∧
  Tl E rec s.A.tm ⟨r.sub,s.H.nx,[]⟩ (ao E.P o)=.ok [(r.av,r.H')]∧dZ (aD m s.did) (r.wr s)=true ∧
  s'.H=⟨cA (bc o) s.H r.H' (aD m s.did) (r.wr s),r.H'.nx,r.wr s++s.H.log⟩∧s'.did=note (bc o) j r.sub s.H r.H' s.did (r.wr s)
 no:r.ran=false→(∀ y n:R (ab×Hp),bu s.A.tm (gOf ops.toList o.guard) y n=n)∧r.av=aF∧r.sub=.leaf∧r.H'=⟨.leaf,s.H.nx,[]⟩∧s'.H=s.H∧s'.did=s.did
theorem GL {tm:PT AV} {g:Option (Option Tmp×Bool)} {yes no:R (ab×Hp)} {outs:List (ab×Hp)} (h:bu tm g yes no=.ok outs):
  ((∀ y n:R (ab×Hp),bu tm g y n=y)∧yes=.ok outs)∨((∀ y n:R (ab×Hp),bu tm g y n=n)∧no=.ok outs):=by
 cases g with
 | none=>exact .inl ⟨fun _ _=>rfl,h⟩
 | some p=>
  obtain ⟨t,w⟩:=p;cases t with
  | none=>exact .inr ⟨fun _ _=>rfl,h⟩
  | some t=>
   cases hv:tm.get t with
   | none=>
    have e:∀ y n:R (ab×Hp),bu tm (some (some t,w)) y n=n:=fun y n=>by simp[bu,ay,hv]
    exact .inr ⟨e,by rw[e] at h;exact h⟩
   | some v=>
    have e:∀ y n:R (ab×Hp),bu tm (some (some t,w)) y n=AV.rec (motive:=fun _=>R (ab×Hp)) (fun c=>acE c (fun b=>ifE b (ifE w y n) (ifE w n y)) (fun _ _=>n) (fun _=>.bad "guard")) (fun _=>n) (fun _=>n) (.bad "guard") v:=
     fun y n=>by simp[bu,ay,hv]
    rw[e] at h;cases v with
    | one c=>
     cases c with
     | b b=>cases b <;> cases w <;> first|exact .inl ⟨fun y n=>e y n,h⟩|exact .inr ⟨fun y n=>e y n,h⟩
     | i k n=>exact .inr ⟨fun y n=>e y n,h⟩
     | o q=>cases h
    | agg l=>exact .inr ⟨fun y n=>e y n,h⟩
    | tup l=>exact .inr ⟨fun y n=>e y n,h⟩
    | any=>cases h
theorem uL {a:ab} {dst:Option Tmp} {v:AV} {h:Hp} {k:ab→Hp→R (ab×Hp)} {outs:List (ab×Hp)} (hk:fC a dst v h k=.ok outs):(∀ d,dst=some d→d<a.nt)∧k (tV a dst v) h=.ok outs:=by
 cases dst with
 | none=>exact ⟨fun d hd=>(by cases hd),hk⟩
 | some d=>
  have S2:ifE (Nat.blt d a.nt) (k (a.put d v) h) (.bad "slot")=.ok outs:=hk
  rw[bM] at S2;split at S2
  ·rename_i hd
   exact ⟨fun d' M_=>by cases M_;exact zA4 hd,S2⟩
  cases S2
theorem HR {E:Env} {rec:Rec} {ops:Array Oper}:∀ (l:List Oper) (j:Nat) (ms:List Nat) (did:List Did) (A:ab) (H:Hp) (outs:List (ab×Hp)),cJ E rec (fF E.P ops.toList l) j ms did A H=.ok outs →
  ∃ (S:Nat→DS) (T:Nat→DR),S 0=⟨A,H,did⟩∧(∀ k o,l[k]?=some o→VW E rec ops (j+k) o (ms.getD k 0) (S k) (S (k+1)) (T k))∧outs=[((S l.length).A,(S l.length).H)]
 | [],j,ms,did,A,H,outs,h=>by
  cases h
  exact ⟨fun _=>⟨A,H,did⟩,fun _=>⟨false,aF,.leaf,H⟩,rfl,fun k o h=>by simp at h,rfl⟩
 | o::l,j,[],did,A,H,outs,h=>by cases h
 | o::l,j,m::ms,did,A,H,outs,h=>by
  have h':bu A.tm (gOf ops.toList o.guard)
    (xe (bc o) j A o.dst H (aJ H.t H.nx A.tm o (aD m did)) (aD m did) did (cJ E rec (fF E.P ops.toList l) (Nat.add j 1) ms) (Tl E rec A.tm ⟨aJ H.t H.nx A.tm o (aD m did),H.nx,[]⟩ (ao E.P o)))
    (fC A o.dst aF H (cJ E rec (fF E.P ops.toList l) (Nat.add j 1) ms did))=.ok outs:=h
  have e1:∀ k,Nat.add j 1+k=j+(k+1):=fun k=>by show j+1+k=_;omega
  have key:∀ (s':DS) (r:DR),VW E rec ops j o m ⟨A,H,did⟩ s' r→cJ E rec (fF E.P ops.toList l) (Nat.add j 1) ms s'.did s'.A s'.H=.ok outs →
    ∃ (S:Nat→DS) (T:Nat→DR),S 0=⟨A,H,did⟩∧(∀ k o',(o::l)[k]?=some o'→VW E rec ops (j+k) o' ((m::ms).getD k 0) (S k) (S (k+1)) (T k))∧outs=[((S (o::l).length).A,(S (o::l).length).H)]:=by
   intro s' r hl hr;obtain ⟨S,T,h0,h1,h2⟩:=HR l (Nat.add j 1) ms s'.did s'.A s'.H outs hr;refine ⟨fun k=>match k with|0=>⟨A,H,did⟩|k+1=>S k,fun k=>match k with|0=>r|k+1=>T k,rfl,fun k o' ho=>?_,h2⟩;cases k with
   | zero=>
    simp at ho
    subst ho;have:S 0=s':=by rw[h0]
    simpa [this] using hl
   | succ k=>
    have:=h1 k o' (by simpa using ho);rw[e1] at this;simpa using this
  rcases GL h' with ⟨hw,hy⟩|⟨hw,hn⟩
  ·cases hx:Tl E rec A.tm ⟨aJ H.t H.nx A.tm o (aD m did),H.nx,[]⟩ (ao E.P o) with
   | bad s=>rw[hx] at hy;cases hy
   | ok xs=>
    rw[hx] at hy;cases xs with
    | nil=>cases hy
    | cons x xs=>
     cases xs with
     | cons _ _=>cases hy
     | nil=>
      have hy':ifE (dZ (aD m did) (cL (aJ H.t H.nx A.tm o (aD m did)) H.nx x.2.log))
       (fC A o.dst x.1 ⟨cA (bc o) H x.2 (aD m did) (cL (aJ H.t H.nx A.tm o (aD m did)) H.nx x.2.log),x.2.nx,cL (aJ H.t H.nx A.tm o (aD m did)) H.nx x.2.log++H.log⟩
        (cJ E rec (fF E.P ops.toList l) (Nat.add j 1) ms (note (bc o) j (aJ H.t H.nx A.tm o (aD m did)) H x.2 did (cL (aJ H.t H.nx A.tm o (aD m did)) H.nx x.2.log))))
       (.bad "draw - two operations that may change places touch one object")=.ok outs:=hy
      rw[bM] at hy';split at hy'
      ·rename_i hf
       obtain ⟨hs,hk⟩:=uL hy';refine key ⟨tV A o.dst x.1,_,_⟩ ⟨true,x.1,aJ H.t H.nx A.tm o (aD m did),x.2⟩ ⟨hs,rfl,fun _=>⟨hw,rfl,?_,hf,rfl,rfl⟩,fun h=>(by cases h)⟩ hk;exact hx
      cases hy'
  obtain ⟨hs,hk⟩:=uL hn;exact key ⟨tV A o.dst aF,H,did⟩ ⟨false,aF,.leaf,⟨.leaf,H.nx,[]⟩⟩ ⟨hs,rfl,fun h=>(by cases h),fun _=>⟨hw,rfl,rfl,rfl,rfl,rfl⟩⟩ hk
structure Ej (E:Env) (rec:Rec) (ops:Array Oper) (S:Nat→DS) (T:Nat→DR):Prop where
 first:(S 0).did=[]
 link:∀ k o,ops[k]?=some o→VW E rec ops k o ((dw [] 0 ops.toList).getD k 0) (S k) (S (k+1)) (T k)
 stat:dF ops=true
def dst (ops:Array Oper) (k:Nat):Option Tmp:=match ops[k]? with|some o=>o.dst|none=>none
def mask (ops:Array Oper) (k:Nat):Nat:=(dw [] 0 ops.toList).getD k 0
def cR (S:Nat→DS) (T:Nat→DR) (k id:Nat):Prop:=id∈(T k).wr (S k)∨((S k).H.nx≤id∧id<(T k).H'.nx)
structure Fact (S:Nat→DS) (T:Nat→DR) (k:Nat):Prop where
 dom:∀ id o,(T k).sub.get id=some o→∃ o',(T k).H'.get id=some o'
 old:∀ id o',(T k).H'.get id=some o'→(∃ o,(T k).sub.get id=some o)∨((S k).H.nx≤id∧id<(T k).H'.nx)
 log:∀ id,id<(S k).H.nx→id∉(T k).wr (S k)→(T k).H'.get id=(T k).sub.get id
open Classical in
def ovH (S:Nat→DS) (T:Nat→DR) (D:Nat→Prop):Nat→Nat→Option aK
 | 0,id=>(S 0).H.get id
 | k+1,id=>if D k∧cR S T k id then (T k).H'.get id else ovH S T D k id
open Classical in
def ovT (ops:Array Oper) (S:Nat→DS) (T:Nat→DR) (D:Nat→Prop):Nat→ab
 | 0=>(S 0).A
 | k+1=>if D k then tV (ovT ops S T D k) (dst ops k) (T k).av else ovT ops S T D k
section
variable {S:Nat→DS} {T:Nat→DR}
theorem uz {D:Nat→Prop} {k id:Nat} (h:D k) (h':cR S T k id):ovH S T D (k+1) id=(T k).H'.get id:=by
 unfold ovH;exact zB0 ⟨h,h'⟩
theorem nX {D:Nat→Prop} {k id:Nat} (h:D k→¬cR S T k id):ovH S T D (k+1) id=ovH S T D k id:=by
 conv=>lhs;unfold ovH
 exact zB1 fun hh=>h hh.1 hh.2
theorem jK {ops:Array Oper} {D:Nat→Prop} {k:Nat} (h:D k):ovT ops S T D (k+1)=tV (ovT ops S T D k) (dst ops k) (T k).av:=by
 conv=>lhs;unfold ovT
 exact zB0 h
theorem ou {ops:Array Oper} {D:Nat→Prop} {k:Nat} (h:¬D k):ovT ops S T D (k+1)=ovT ops S T D k:=by
 conv=>lhs;unfold ovT
 exact zB1 h
theorem kC {D D':Nat→Prop} {id:Nat}:∀ {n:Nat},(∀ i,i<n→cR S T i id→(D i↔D' i))→ovH S T D n id=ovH S T D' n id
 | 0,_=>rfl
 | n+1,h=>by
  have ih:=kC (D:=D) (D':=D') (id:=id) (n:=n) fun i hi=>h i (by omega);by_cases ht:cR S T n id
  ·have:=h n (by omega) ht;by_cases hd:D n
   ·rw[uz hd ht,uz (this.1 hd) ht]
   rw[nX fun h=>absurd h hd,nX fun h=>absurd (this.2 h) hd,ih]
  rw[nX fun _=>ht,nX fun _=>ht,ih]
theorem uw {D:Nat→Prop} {id k:Nat}:∀ {n:Nat},k≤n→(∀ i,k≤i→i<n→D i→¬cR S T i id)→ovH S T D n id=ovH S T D k id
 | 0,hk,_=>by have:k=0:=by omega
              subst this;rfl
 | n+1,hk,h=>by
  by_cases V9:k=n+1
  ·subst V9;rfl
  rw[nX fun hd=>h n (by omega) (by omega) hd];exact uw (by omega) fun i h1 h2=>h i h1 (by omega)
theorem Vu {D:Nat→Prop} {id j:Nat}:∀ {n:Nat},j<n→(cR S T j id→∀ i,j<i→i<n→D i→¬cR S T i id)→(cR S T j id→ovH S T (fun i=>D i∨i=j) n id=(T j).H'.get id)∧(¬cR S T j id→ovH S T (fun i=>D i∨i=j) n id=ovH S T D n id):=by
 intro n hj h;refine ⟨fun ht=>?_,fun ht=>?_⟩
 ·rw[uw (k:=j+1) (by omega) fun i h1 h2 hd=>?_]
  ·exact uz (.inr rfl) ht
  rcases hd with hd|rfl
  ·exact h ht i (by omega) h2 hd
  omega
 refine kC fun i hi B4=>?_;refine ⟨fun hd=>hd.elim (fun h=>h) fun he=>?_,.inl⟩;subst he;exact absurd B4 ht
variable {ops:Array Oper}
theorem Wn (A:ab) (d:Option Tmp) (v:AV):(tV A d v).nt=A.nt:=by cases d <;> rfl
theorem QE (A:ab) (d:Option Tmp) (v:AV):(tV A d v).dfr=A.dfr:=by cases d <;> rfl
theorem kB {A:ab} {d:Option Tmp} {v:AV} (hd:∀ x,d=some x→x<x+1) (t:Nat):(tV A d v).tm.get t=if d=some t then some v else A.tm.get t:=by
 cases d with
 | none=>simp[tV]
 | some x=>
  show (A.tm.set x v).get t=_;rw[PT.ov _ _ _ _ (hd x rfl)];by_cases h:t=x
  ·subst h;simp
  rw[zB1 h,zB1 (by simpa using fun e=>h e.symm)]
theorem Bp {D:Nat→Prop}:∀ n,(ovT ops S T D n).nt=(S 0).A.nt
 | 0=>rfl
 | n+1=>by
  by_cases h:D n
  ·rw[jK h,Wn,Bp n]
  rw[ou h,Bp n]
theorem BA {D:Nat→Prop}:∀ n,(ovT ops S T D n).dfr=(S 0).A.dfr
 | 0=>rfl
 | n+1=>by
  by_cases h:D n
  ·rw[jK h,QE,BA n]
  rw[ou h,BA n]
section
variable (D0:∀ k x,dst ops k=some x→x<x+1)
include D0
theorem kg {D D':Nat→Prop} {t:Nat}:∀ {n:Nat},(∀ i,i<n→dst ops i=some t→(D i↔D' i))→(ovT ops S T D n).tm.get t=(ovT ops S T D' n).tm.get t
 | 0,_=>rfl
 | n+1,h=>by
  have ih:=kg (D:=D) (D':=D') (t:=t) (n:=n) fun i hi=>h i (by omega);by_cases ht:dst ops n=some t
  ·have:=h n (by omega) ht;by_cases hd:D n
   ·rw[jK hd,jK (this.1 hd),kB (D0 n),kB (D0 n),zB0 ht,zB0 ht]
   rw[ou hd,ou fun h=>hd (this.2 h),ih]
  have e:∀ (D:Nat→Prop),(ovT ops S T D (n+1)).tm.get t=(ovT ops S T D n).tm.get t:=fun D=>by
   by_cases hd:D n
   ·rw[jK hd,kB (D0 n),zB1 ht]
   rw[ou hd]
  rw[e,e,ih]
theorem uk {D:Nat→Prop} {t k:Nat}:∀ {n:Nat},k≤n→(∀ i,k≤i→i<n→D i→dst ops i≠some t)→(ovT ops S T D n).tm.get t=(ovT ops S T D k).tm.get t
 | 0,hk,_=>by have:k=0:=by omega
              subst this;rfl
 | n+1,hk,h=>by
  by_cases V9:k=n+1
  ·subst V9;rfl
  have ih:=uk (D:=D) (t:=t) (k:=k) (n:=n) (by omega) fun i h1 h2=>h i h1 (by omega);by_cases hd:D n
  ·rw[jK hd,kB (D0 n),zB1 (h n (by omega) (by omega) hd),ih]
  rw[ou hd,ih]
theorem Vb {D:Nat→Prop} {j:Nat} {n:Nat} (hj:j<n) (h:∀ t,dst ops j=some t→∀ i,j<i→i<n→D i→dst ops i≠some t) (t:Nat):
  (ovT ops S T (fun i=>D i∨i=j) n).tm.get t=(tV (ovT ops S T D n) (dst ops j) (T j).av).tm.get t:=by
 rw[kB (D0 j)];by_cases ht:dst ops j=some t
 ·rw[zB0 ht,uk D0 (k:=j+1) (by omega) fun i h1 h2 hd=>?_]
  ·rw[jK (.inr rfl),kB (D0 j),zB0 ht]
  rcases hd with hd|rfl
  ·exact h t ht i (by omega) h2 hd
  omega
 rw[zB1 ht];refine kg D0 fun i hi B4=>⟨fun hd=>hd.elim (fun h=>h) fun he=>?_,.inl⟩;subst he;exact absurd B4 ht
end
end
section
variable {E:Env} {rec:Rec} {ops:Array Oper} {S:Nat→DS} {T:Nat→DR} (hc:Ej E rec ops S T) (G0:RecM rec)
theorem fk {k:Nat} (hk:k<ops.size):∃ o,ops[k]?=some o:=⟨ops[k],by simp[hk]⟩
theorem PA {k:Nat} {o:Oper} (ho:ops[k]?=some o):dst ops k=o.dst:=by unfold dst;rw[ho]
theorem nv {k x:Nat} (h:dst ops k=some x):∃ o,ops[k]?=some o∧o.dst=some x:=by
 unfold dst at h;split at h
 ·rename_i o ho;exact ⟨o,ho,h⟩
 cases h
def wY (S:Nat→DS) (T:Nat→DR) (i:Nat):Did:=⟨i,(T i).sub,(S i).H.nx,(T i).H'.nx,(T i).wr (S i)⟩
theorem jV {i id:Nat}:bO (wY S T i) id=true↔cR S T i id:=uS
theorem fK {i id:Nat} (h:id∈(T i).wr (S i)):id<(S i).H.nx∧∃ o,(T i).sub.get id=some o:=(iS.1 h).2
include hc
theorem lL {k:Nat} {o:Oper} (ho:ops[k]?=some o) (hr:(T k).ran=false):(T k).sub=.leaf∧(T k).H'=⟨.leaf,(S k).H.nx,[]⟩∧(S (k+1)).H=(S k).H∧(S (k+1)).did=(S k).did:=
 let ⟨_,_,h1,h2,h3,h4⟩:=(hc.link k o ho).no hr
 ⟨h1,h2,h3,h4⟩
theorem kE {k:Nat} {o:Oper} (ho:ops[k]?=some o) (hr:(T k).ran=false) (id:Nat):¬cR S T k id:=by
 obtain ⟨h1,h2,_,_⟩:=lL hc ho hr;rintro (h|h)
 ·obtain ⟨_,o',h'⟩:=fK h;rw[h1] at h';cases h'
 rw[h2] at h;exact absurd h (by simp)
include G0
theorem nO {k:Nat} (hk:k<ops.size):(S k).H.nx≤(T k).H'.nx∧(S (k+1)).H.nx=(T k).H'.nx:=by
 obtain ⟨o,ho⟩:=fk hk;cases hr:(T k).ran with
 | false=>
  obtain ⟨h1,h2,h3,_⟩:=lL hc ho hr;rw[h2,h3];exact ⟨zA1 _,rfl⟩
 | true=>
  obtain ⟨_,h2,h3,_,h5,_⟩:=(hc.link k o ho).yes hr;refine ⟨?_,by rw[h5]⟩;have hn:NM ⟨(T k).sub,(S k).H.nx,[]⟩ ((ao E.P o).run (S k).A.tm ⟨(T k).sub,(S k).H.nx,[]⟩):=BC o;exact (yb G0 hn _ h3).2 _ (List.mem_singleton.2 rfl)
theorem iK {i:Nat}:∀ {k:Nat},i≤k→k≤ops.size→(S i).H.nx≤(S k).H.nx
 | 0,h,_=>by have:i=0:=by omega
             subst this;exact zA1 _
 | k+1,h,hk=>by
  by_cases hik:i=k+1
  ·subst hik;exact zA1 _
  have h1:=iK (i:=i) (k:=k) (by omega) (by omega);have h2:=nO hc G0 (k:=k) (by omega);omega
theorem AE {i k:Nat} (h:i<k) (hk:k≤ops.size):(T i).H'.nx≤(S k).H.nx:=by
 rw[←(nO hc G0 (k:=i) (by omega)).2];exact iK hc G0 (by omega) hk
theorem ru {i id:Nat} (hi:i<ops.size) (h:cR S T i id):id<(T i).H'.nx:=by
 rcases h with h|h
 ·exact zA0 (fK h).1 (nO hc G0 hi).1
 exact h.2
omit G0 in
theorem ME:∀ {k:Nat},k≤ops.size→∀ u∈(S k).did,∃ i,i<k∧(T i).ran=true∧u=wY S T i
 | 0,_,u,hu=>by rw[hc.first] at hu;cases hu
 | k+1,hk,u,hu=>by
  obtain ⟨o,ho⟩:=fk (ops:=ops) (k:=k) (by omega);have ih:=fun hu=>ME (k:=k) (by omega) u hu;have ih':u∈(S k).did→∃ i,i<k+1∧(T i).ran=true∧u=wY S T i:=fun hu=>by
   obtain ⟨i,h1,h2⟩:=ih hu;exact ⟨i,by omega,h2⟩
  cases hr:(T k).ran with
  | false=>
   rw[(lL hc ho hr).2.2.2] at hu;exact ih' hu
  | true=>
   obtain ⟨_,_,_,_,_,h6⟩:=(hc.link k o ho).yes hr;rw[h6] at hu;unfold note at hu;rw[bM] at hu;split at hu
   ·exact ih' hu
   rcases List.mem_cons.1 hu with rfl|hu
   ·exact ⟨k,by omega,hr,rfl⟩
   exact ih' hu
omit G0 in
theorem CG {i:Nat} {o:Oper} (ho:ops[i]?=some o) (hr:(T i).ran=true) (hn:bc o≠0∨(S i).H.nx≠(T i).H'.nx):∀ {k:Nat},i<k→k≤ops.size→wY S T i∈(S k).did
 | 0,h,_=>by omega
 | k+1,h,hk=>by
  by_cases hik:i=k
  ·subst hik;obtain ⟨_,_,_,_,_,h6⟩:=(hc.link i o ho).yes hr;rw[h6];unfold note;rw[bM,zB1]
   ·exact List.mem_cons_self ..
   rw[ck,Bool.and_eq_true];rintro ⟨h1,h2⟩;have u7:=zA3 h1;have V8:=zA3 h2;exact hn.elim (fun h=>h u7) fun h=>h V8
  have ih:=CG ho hr hn (k:=k) (by omega) (by omega);obtain ⟨o',Z1⟩:=fk (ops:=ops) (k:=k) (by omega);cases Y2:(T k).ran with
  | false=>rw[(lL hc Z1 Y2).2.2.2];exact ih
  | true=>
   obtain ⟨_,_,_,_,_,h6⟩:=(hc.link k o' Z1).yes Y2;rw[h6];unfold note;rw[bM];split
   ·exact ih
   exact List.mem_cons_of_mem _ ih
variable (L0:(S ops.size).H.nx≤(S ops.size).H.nx)
include L0
theorem fZ {k:Nat} (hk:k≤ops.size) {u:Did} (hu:u∈(S k).did):u.c0≤u.c1∧∀ id,bO u id=true→id<(S k).H.nx∧id<id+1:=by
 have _hb:=L0;obtain ⟨i,hi,_,rfl⟩:=ME hc hk u hu;refine ⟨(nO hc G0 (k:=i) (by omega)).1,fun id ht=>?_⟩;have h1:=ru hc G0 (i:=i) (by omega) (jV.1 ht);have h2:=AE hc G0 hi hk;have h3:=iK hc G0 hk (zA1 _);omega
theorem gP {k:Nat} (hk:k<ops.size) {o:Oper} (ho:ops[k]?=some o) {id:Nat} {x:aK} (h:(T k).sub.get id=some x):
  (T k).ran=true∧bc o≠0∧(S k).H.get id=some x∧∀ u∈aD (mask ops k) (S k).did,bO u id=false:=by
 cases hr:(T k).ran with
 | false=>
  rw[(lL hc ho hr).1] at h;cases h
 | true=>
  obtain ⟨_,h2,_⟩:=(hc.link k o ho).yes hr;have V8:(T k).sub=aJ (S k).H.t (S k).H.nx (S k).A.tm o (aD (mask ops k) (S k).did):=h2;rw[V8] at h;refine ⟨rfl,?_⟩;have W0:(S k).H.nx≤(S k).H.nx:=zA1 _;unfold aJ at h;split at h
  ·cases h
  ·rename_i hl
   rw[ja] at h
   ·split at h
    ·rename_i hm
     rw[List.mem_filter,Bool.and_eq_true] at hm;refine ⟨by rw[hl];decide,h,fun u hu=>?_⟩;have:=hm.2.2;simp only[Bool.not_eq_true',List.any_eq_false,Bool.not_eq_true] at this;exact this u hu
    cases h
   intro i hi;rw[List.mem_filter,Bool.and_eq_true] at hi;have:i<(S k).H.nx:=zA4 hi.2.1;omega
  rename_i q6 O8
  have N0:∀ i,i∈(aD (mask ops k) (S k).did).flatMap de→∃ u∈aD (mask ops k) (S k).did,bO u i=true:=fun i hi=>by
   obtain ⟨u,hu,hi⟩:=List.mem_flatMap.1 hi;exact ⟨u,hu,(pn (fZ hc G0 L0 (by omega) (cx.1 hu).1).1).1 hi⟩
  rw[pc] at h
  ·split at h
   ·cases h
   rename_i hm
   refine ⟨fun h0=>q6 h0,h,fun u hu=>?_⟩;cases htu:bO u id with
   | false=>rfl
   | true=>
    exact absurd (List.mem_flatMap.2 ⟨u,hu,(pn (fZ hc G0 L0 (by omega) (cx.1 hu).1).1).2 htu⟩) hm
  intro i hi;obtain ⟨u,hu,ht⟩:=N0 i hi;exact ((fZ hc G0 L0 (k:=k) (by omega) (cx.1 hu).1).2 i ht).2
theorem Hk {k:Nat} (hk:k<ops.size) (hf:Fact S T k) (P7:∀ id,(S k).H.nx≤id→(S k).H.get id=none) (id:Nat):
  (cR S T k id→(S (k+1)).H.get id=(T k).H'.get id)∧(¬cR S T k id→(S (k+1)).H.get id=(S k).H.get id):=by
 obtain ⟨o,ho⟩:=fk hk;cases hr:(T k).ran with
 | false=>
  refine ⟨fun h=>absurd h (kE hc ho hr id),fun _=>?_⟩;rw[(lL hc ho hr).2.2.1]
 | true=>
  have W0:(T k).H'.nx≤(T k).H'.nx:=zA1 _;have hle:=(nO hc G0 hk).1;obtain ⟨_,h2,_,h4,h5,_⟩:=(hc.link k o ho).yes hr;have M5:∀ i,i∈cr (S k).H.nx (Nat.sub (T k).H'.nx (S k).H.nx)↔(S k).H.nx≤i∧i<(T k).H'.nx:=fun i=>by
   rw[lR];have e:(S k).H.nx+Nat.sub (T k).H'.nx (S k).H.nx=(T k).H'.nx:=by
    show (S k).H.nx+((T k).H'.nx - (S k).H.nx)=_;omega
   rw[e]
  have e:(S (k+1)).H.get id=(cA (bc o) (S k).H (T k).H' (aD (mask ops k) (S k).did) ((T k).wr (S k))).get id:=by rw[h5];rfl
  rw[e];have A_:∀ i∈(T k).wr (S k),i<i+1:=fun i hi=>by have:=(fK hi).1;omega
  have u9:∀ i∈cr (S k).H.nx (Nat.sub (T k).H'.nx (S k).H.nx),i<i+1:=fun i hi=>by have:=(M5 i).1 hi;omega
  cases hl:bc o with
  | zero=>
   show (cR S T k id→(bU (S k).H.t (T k).H'.t (cr (S k).H.nx (Nat.sub (T k).H'.nx (S k).H.nx))).get id=_)∧(_→(bU (S k).H.t (T k).H'.t (cr (S k).H.nx (Nat.sub (T k).H'.nx (S k).H.nx))).get id=_);rw[ja u9];have hnw:id∉(T k).wr (S k):=fun h=>by
    obtain ⟨_,x,hx⟩:=fK h;exact (gP hc G0 L0 hk ho hx).2.1 hl
   refine ⟨fun h=>?_,fun h=>?_⟩
   ·rw[zB0 ((M5 id).2 (h.resolve_left hnw))];rfl
   rw[zB1 fun hh=>h (.inr ((M5 id).1 hh))];rfl
  | succ l=>
   cases l with
   | zero=>
    show (cR S T k id→(bU (S k).H.t (T k).H'.t ((T k).wr (S k)++cr (S k).H.nx (Nat.sub (T k).H'.nx (S k).H.nx))).get id=_)∧(_→(bU (S k).H.t (T k).H'.t ((T k).wr (S k)++cr (S k).H.nx (Nat.sub (T k).H'.nx (S k).H.nx))).get id=_);rw[ja fun i hi=>(List.mem_append.1 hi).elim (A_ i) (u9 i)];refine ⟨fun h=>?_,fun h=>?_⟩
    ·rw[zB0 (List.mem_append.2 (h.imp_right (M5 id).2))];rfl
    rw[zB1 fun hh=>h ((List.mem_append.1 hh).imp_right (M5 id).1)];rfl
   | succ l=>
    show (cR S T k id→(bU (T k).H'.t (S k).H.t ((aD (mask ops k) (S k).did).flatMap de)).get id=_)∧(_→(bU (T k).H'.t (S k).H.t ((aD (mask ops k) (S k).did).flatMap de)).get id=_);have N0:∀ i,i∈(aD (mask ops k) (S k).did).flatMap de→∃ u∈aD (mask ops k) (S k).did,bO u i=true:=fun i hi=>by
     obtain ⟨u,hu,hi⟩:=List.mem_flatMap.1 hi;exact ⟨u,hu,(pn (fZ hc G0 L0 (by omega) (cx.1 hu).1).1).1 hi⟩
    rw[ja fun i hi=>by
     obtain ⟨u,hu,ht⟩:=N0 i hi;exact ((fZ hc G0 L0 (k:=k) (by omega) (cx.1 hu).1).2 i ht).2]
    refine ⟨fun h=>?_,fun h=>?_⟩
    ·rw[zB1 fun hh=>?_]
     ·rfl
     obtain ⟨u,hu,ht⟩:=N0 id hh;rcases h with h|h
     ·obtain ⟨_,x,hx⟩:=fK h;have:=(gP hc G0 L0 hk ho hx).2.2.2 u hu;rw[ht] at this;cases this
     have:=((fZ hc G0 L0 (k:=k) (by omega) (cx.1 hu).1).2 id ht).1;omega
    by_cases hm:id∈(aD (mask ops k) (S k).did).flatMap de
    ·rw[zB0 hm];rfl
    rw[zB1 hm];show (T k).H'.get id=_;by_cases hid:id<(S k).H.nx
    ·rw[hf.log id hid fun hh=>h (.inl hh)];have V8:(T k).sub=aJ (S k).H.t (S k).H.nx (S k).A.tm o (aD (mask ops k) (S k).did):=h2;have e2:(T k).sub=jX (S k).H.t ((aD (mask ops k) (S k).did).flatMap de):=by
      rw[V8];unfold aJ;rw[hl];rfl
     rw[e2,pc fun i hi=>by
      obtain ⟨u,hu,ht⟩:=N0 i hi;exact ((fZ hc G0 L0 (k:=k) (by omega) (cx.1 hu).1).2 i ht).2]
     rw[zB1 hm];rfl
    rw[P7 id (by omega)];cases hg:(T k).H'.get id with
    | none=>rfl
    | some x=>
     rcases hf.old id x hg with ⟨y,hy⟩|hh
     ·have:=(gP hc G0 L0 hk ho hy).2.2.1;rw[P7 id (by omega)] at this;cases this
     exact absurd (.inr hh) h
theorem law {h0:∀ id,(S 0).H.nx≤id→(S 0).H.get id=none}:∀ {k:Nat},k≤ops.size→(∀ i,i<k→Fact S T i) →
  (∀ id,(S k).H.nx≤id→(S k).H.get id=none)∧∀ id,(S k).H.get id=ovH S T (fun _=>True) k id
 | 0,_,_=>⟨h0,fun _=>rfl⟩
 | k+1,hk,hf=>by
  obtain ⟨hw,hl⟩:=law (h0:=h0) (k:=k) (by omega) fun i hi=>hf i (by omega);have hs:=Hk hc G0 L0 (k:=k) (by omega) (hf k (by omega)) hw;have hn:=nO hc G0 (k:=k) (by omega);refine ⟨fun id hid=>?_,fun id=>?_⟩
  ·rw[(hs id).2 fun ht=>?_]
   ·exact hw id (by omega)
   have:=ru hc G0 (by omega) ht;omega
  by_cases ht:cR S T k id
  ·rw[(hs id).1 ht,uz trivial ht]
  rw[(hs id).2 ht,hl,nX fun _=>ht]
variable {D:Nat→Prop}
omit hc G0 L0 in
theorem nS (he:∀ i o,ops[i]?=some o→D i→∀ e∈o.after.toList,fg e=true→D e.on):∀ (k i:Nat),i<k→i<ops.size→D i→∀ b,Nat.testBit (mask ops i) b=true→D b
 | 0,i,h,_,_,_,_=>by omega
 | k+1,i,h,hi,hd,b,hb=>by
  obtain ⟨o,ho⟩:=fk hi;have D5:Nat.testBit ((dw [] 0 ops.toList).getD (0+i) 0) b=true:=by rw[Nat.zero_add];exact hb
  obtain ⟨e,z6,hu,D0,hor⟩:=ph ops.toList [] 0 rfl i o (by simpa using ho) b D5;have hde:=he i o ho hd e z6 hu;rcases hor with rfl|hor
  ·exact hde
  exact nS he k e.on (by omega) (by omega) hde b hor
omit hc G0 L0 in
theorem EM (he:∀ i o,ops[i]?=some o→D i→∀ e∈o.after.toList,fg e=true→D e.on) {j:Nat} {o:Oper} (ho:ops[j]?=some o) (hj:∀ e∈o.after.toList,fg e=true→D e.on) (b:Nat) (hb:Nat.testBit (mask ops j) b=true):D b:=by
 have D0:j<ops.size:=getElem?_lt' ho;have D5:Nat.testBit ((dw [] 0 ops.toList).getD (0+j) 0) b=true:=by rw[Nat.zero_add];exact hb
 obtain ⟨e,z6,hu,hl,hor⟩:=ph ops.toList [] 0 rfl j o (by simpa using ho) b D5;have hde:=hj e z6 hu;rcases hor with rfl|hor
 ·exact hde
 exact nS he (e.on+1) e.on (by omega) (by omega) hde b hor
where getElem?_lt' {j:Nat} {o:Oper} (h:ops[j]?=some o):j<ops.size:=(Array.getElem?_eq_some_iff.1 h).1
omit G0 L0 in
theorem xl {i j:Nat} (U3:i<j) {x y:Oper} (hx:ops[i]?=some x) (hy:ops[j]?=some y) (hb:Nat.testBit (mask ops j) i=false):yf ops x y=false:=by
 have hs:=hc.stat;unfold dF at hs;rw[Bool.and_eq_true] at hs;have:=qR (pre:=[]) hs.1 j y (by simpa using hy) i x (by simpa using U3) (by simpa using hx);exact this.resolve_left fun h=>by rw[show (dw [] 0 ops.toList).getD j 0=mask ops j from rfl,hb] at h;cases h
variable (R0:∀ i,i<ops.size→D i→∀ b,Nat.testBit (mask ops i) b=true→D b) {j:Nat} (hj:j<ops.size) (T4:¬D j)
include R0 hj T4
theorem Yi (id:Nat) (ht:cR S T j id) (i:Nat) (b8:j<i) (hi:i<ops.size) (hd:D i):¬cR S T i id:=by
 intro B4;obtain ⟨o,ho⟩:=fk hj;obtain ⟨oi,l7⟩:=fk hi;have D8:Nat.testBit (mask ops i) j=false:=by
  cases h:Nat.testBit (mask ops i) j with
  | false=>rfl
  | true=>exact absurd (R0 i hi hd j h) T4
 have hran:(T j).ran=true:=by
  cases h:(T j).ran with
  | false=>exact absurd ht (kE hc ho h id)
  | true=>rfl
 have X8:(T i).ran=true:=by
  cases h:(T i).ran with
  | false=>exact absurd B4 (kE hc l7 h id)
  | true=>rfl
 have e_:bc o≠0∨(S j).H.nx≠(T j).H'.nx:=by
  rcases ht with ht|ht
  ·obtain ⟨_,x,hx⟩:=fK ht;exact .inl (gP hc G0 L0 hj ho hx).2.1
  exact .inr (by omega)
 have N0:wY S T j∈aD (mask ops i) (S i).did:=cx.2 ⟨CG hc ho hran e_ b8 (by omega),D8⟩;rcases B4 with B4|B4
 ·obtain ⟨_,x,hx⟩:=fK B4;have:=(gP hc G0 L0 hi l7 hx).2.2.2 _ N0;rw[jV.2 ht] at this;cases this
 have h1:=ru hc G0 hj ht;have h2:=AE hc G0 b8 (k:=i) (by omega);omega
omit G0 L0 hj in
theorem XC (t:Nat) (ht:dst ops j=some t) (i:Nat) (b8:j<i) (hi:i<ops.size) (hd:D i):dst ops i≠some t:=by
 intro B4;obtain ⟨o,ho,hot⟩:=nv ht;obtain ⟨oi,l7,M'⟩:=nv B4;have D8:Nat.testBit (mask ops i) j=false:=by
  cases h:Nat.testBit (mask ops i) j with
  | false=>rfl
  | true=>exact absurd (R0 i hi hd j h) T4
 exact ((oS (xl hc b8 ho l7 D8)).1 t hot).2 M'
variable (hp:∀ b,Nat.testBit (mask ops j) b=true→D b)
include hp
theorem UF {h0:∀ id,(S 0).H.nx≤id→(S 0).H.get id=none} (hf:∀ i,i<j→Fact S T i) (id:Nat) (x:aK) (h:(T j).sub.get id=some x):ovH S T D ops.size id=some x:=by
 obtain ⟨o,ho⟩:=fk hj;obtain ⟨hran,W5,hg,B'⟩:=gP hc G0 L0 hj ho h;obtain ⟨P7,hlaw⟩:=law hc G0 L0 (h0:=h0) (k:=j) (by omega) hf;have hid:id<(S j).H.nx:=by
  rcases Nat.lt_or_ge id (S j).H.nx with hh|hh
  ·exact hh
  rw[P7 id hh] at hg;cases hg
 have e:ovH S T D ops.size id=ovH S T (fun i=>i<j) ops.size id:=by
  refine kC fun i hi B4=>⟨fun hd=>?_,fun U3=>?_⟩
  ·rcases Nat.lt_or_ge i j with hh|hh
   ·exact hh
   exfalso;have Y0:i≠j:=fun e=>T4 (e ▸ hd);have b8:j<i:=by omega
   obtain ⟨oi,l7⟩:=fk hi;have D8:Nat.testBit (mask ops i) j=false:=by
    cases h:Nat.testBit (mask ops i) j with
    | false=>rfl
    | true=>exact absurd (R0 i hi hd j h) T4
   have X8:(T i).ran=true:=by
    cases h:(T i).ran with
    | false=>exact absurd B4 (kE hc l7 h id)
    | true=>rfl
   have N0:wY S T j∈aD (mask ops i) (S i).did:=cx.2 ⟨CG hc ho hran (.inl W5) b8 (by omega),D8⟩;rcases B4 with B4|B4
   ·obtain ⟨_,_,_,h4,_⟩:=(hc.link i oi l7).yes X8;have:=qc h4 _ N0 id B4;have h':(wY S T j).V2.get id=some x:=h;rw[h'] at this;cases this
   have h2:=iK hc G0 (i:=j) (k:=i) (by omega) (by omega);omega
  obtain ⟨oi,l7⟩:=fk hi;have X8:(T i).ran=true:=by
   cases h:(T i).ran with
   | false=>exact absurd B4 (kE hc l7 h id)
   | true=>rfl
  cases hb:Nat.testBit (mask ops j) i with
  | true=>exact hp i hb
  | false=>
   exfalso;have e_:bc oi≠0∨(S i).H.nx≠(T i).H'.nx:=by
    rcases B4 with ht|ht
    ·obtain ⟨_,x,hx⟩:=fK ht;exact .inl (gP hc G0 L0 hi l7 hx).2.1
    exact .inr (by omega)
   have:=B' _ (cx.2 ⟨CG hc l7 X8 e_ U3 (by omega),hb⟩);rw[jV.2 B4] at this;cases this
 rw[e,uw (k:=j) (by omega) fun i h1 _ h2=>absurd h2 (by omega),←hg,hlaw];exact kC fun i hi _=>⟨fun _=>trivial,fun _=>hi⟩
end
section
variable {E:Env} {rec:Rec} {ops:Array Oper} {S:Nat→DS} {T:Nat→DR} (hc:Ej E rec ops S T)
include hc
theorem Bn:∀ {k:Nat},k≤ops.size→(S k).A=ovT ops S T (fun _=>True) k
 | 0,_=>rfl
 | k+1,hk=>by
  obtain ⟨o,ho⟩:=fk (ops:=ops) (k:=k) (by omega);rw[jK trivial,(hc.link k o ho).act,Bn (k:=k) (by omega),PA ho]
theorem XE {k x:Nat} (h:dst ops k=some x):x<(S 0).A.nt:=by
 obtain ⟨o,ho,hx⟩:=nv h;have D0:k<ops.size:=(Array.getElem?_eq_some_iff.1 ho).1;have:=(hc.link k o ho).slot x hx;rw[Bn hc (k:=k) (by omega),Bp] at this;exact this
theorem Vs (B0:(S 0).A.nt≤1048576) {D:Nat→Prop} (R0:∀ i,i<ops.size→D i→∀ b,Nat.testBit (mask ops i) b=true→D b) {j:Nat} (hj:j<ops.size) (T4:¬D j) (hp:∀ b,Nat.testBit (mask ops j) b=true→D b)
  {o:Oper} (ho:ops[j]?=some o) {t:Nat} (ht:t∈slotsOf ops o):(ovT ops S T D ops.size).tm.get t=(S j).A.tm.get t:=by
 have D0:∀ k x,dst ops k=some x→x<x+1:=fun k x h=>zA6 _;have e:(ovT ops S T D ops.size).tm.get t=(ovT ops S T (fun i=>i<j) ops.size).tm.get t:=by
  refine kg D0 fun i hi B4=>⟨fun hd=>?_,fun U3=>?_⟩
  ·rcases Nat.lt_or_ge i j with hh|hh
   ·exact hh
   exfalso;have Y0:i≠j:=fun e=>T4 (e ▸ hd);have b8:j<i:=by omega
   obtain ⟨oi,l7,M'⟩:=nv B4;have D8:Nat.testBit (mask ops i) j=false:=by
    cases h:Nat.testBit (mask ops i) j with
    | false=>rfl
    | true=>exact absurd (R0 i hi hd j h) T4
   exact (oS (xl hc b8 ho l7 D8)).2 t M' ht
  obtain ⟨oi,l7,M'⟩:=nv B4;cases hb:Nat.testBit (mask ops j) i with
  | true=>exact hp i hb
  | false=>exact absurd ht ((oS (xl hc U3 l7 ho hb)).1 t M').1
 rw[e,uk D0 (k:=j) (by omega) fun i h1 _ h2=>absurd h2 (by omega),Bn hc (k:=j) (by omega)];exact kg D0 fun i hi _=>⟨fun _=>trivial,fun _=>hi⟩
omit hc in
theorem Tc {tm tm':PT AV} {x:Operand} (h:∀ t,x=.tmp t→tm.get t=tm'.get t):ev tm x=ev tm' x:=by
 cases x with
 | tmp t=>
  show ay (tm.get t) aF (fun v=>v)=ay (tm'.get t) aF (fun v=>v);rw[h t rfl]
 | _=>rfl
omit hc in
theorem HJ {tm tm':PT AV} {o:Oper} (h:∀ t∈slotsOf ops o,tm.get t=tm'.get t) (y n:R (ab×Hp)):bu tm (gOf ops.toList o.guard) y n=bu tm' (gOf ops.toList o.guard) y n:=by
 cases hg:o.guard with
 | none=>rfl
 | some p=>
  obtain ⟨q,w⟩:=p;unfold gOf;simp only[Array.getElem?_toList];cases hq:ops[q]? with
  | none=>rfl
  | some oq=>
   cases hd:oq.dst with
   | none=>simp only[hd];rfl
   | some t=>
    have ht:t∈slotsOf ops o:=by
     unfold slotsOf;refine List.mem_append_right _ ?_;rw[hg];unfold AT;simp[hq,hd]
    simp only[hd];unfold bu;simp only[xO];rw[h t ht]
end
theorem TmR.ext {β:Pl} {tm tm':PT AV} {nt:Nat} {tmps:Array Value} (h:TmR β tm nt tmps) (he:∀ t,tm'.get t=tm.get t):TmR β tm' nt tmps:=
 ⟨h.1,h.2.1,fun t=>by rw[he];exact h.2.2 t⟩
theorem fS.has {β:Pl} {w:World} {id:Nat} {o:aK} (h:fS β w id o):∃ g p,β id g=some p:=by
 cases o with
 | arr cells e lo gen=>
  obtain ⟨p,hp,_⟩:=h.2.1 lo (zA1 _) h.1;exact ⟨lo,p,hp⟩
 | oth x=>
  obtain ⟨p,hp,_⟩:=h;exact ⟨0,p,hp⟩
 | ro x=>
  obtain ⟨p,hp,_⟩:=h;exact ⟨0,p,hp⟩
structure St (ops:Array Oper) (S:Nat→DS) (T:Nat→DR) (m:Nat) (β0:Pl) (w0:World) (D:Nat→Prop) (β:Pl) (a:Act) (w:World):Prop where
 tm:TmR β (ovT ops S T D ops.size).tm (S 0).A.nt a.tmps
 df:nr β (S 0).A.dfr a.defers
 obj:∀ id o,ovH S T D ops.size id=some o→fS β w id o
 sep:∀ id id' o o' g g' p p',ovH S T D ops.size id=some o→ovH S T D ops.size id'=some o'→dB o g→dB o' g'→β id g=some p→β id' g'=some p'→p.b=p'.b→id=id'∨(o.mu=true∧o'.mu=true)
 fresh:∀ j,j<ops.size→¬D j→∀ id g,(S j).H.nx≤id→id<(T j).H'.nx→β id g=none
 free:∀ id g,(S ops.size).H.nx≤id→id<m→β id g=none
 sub:Sub β0 β
 loc:∀ id g p,β id g=some p→β0 id g=some p∨((S 0).H.nx≤id∧id<(S ops.size).H.nx)∨∃ o,(S 0).H.get id=some o
 size:w0.heap.size≤w.heap.size
 os:w.os=w0.os
 tape:w.tape=w0.tape
 output:w.output=w0.output
 frame:∀ b,b<w0.heap.size→(∀ id o g p,(S 0).H.get id=some o→VO o g→β0 id g=some p→p.b≠b)→w.heap[b]?=w0.heap[b]?
 prov:∀ id o g p,ovH S T D ops.size id=some o→dB o g→β id g=some p→w0.heap.size≤p.b∨∃ o0 g0 p0,(S 0).H.get id=some o0∧dB o0 g0∧β0 id g0=some p0∧p0.b=p.b∧o0.mu=o.mu
 dom:∀ id o,(S 0).H.get id=some o→∃ o',ovH S T D ops.size id=some o'
 old:∀ id o,ovH S T D ops.size id=some o→(∃ o,(S 0).H.get id=some o)∨((S 0).H.nx≤id∧id<(S ops.size).H.nx)
 far:∀ b,b<w0.heap.size→(∀ id o g p,(∃ i,i<ops.size∧D i∧id∈(T i).wr (S i))→(S 0).H.get id=some o→VO o g→β0 id g=some p→p.b≠b)→w.heap[b]?=w0.heap[b]?
theorem St.congr {ops:Array Oper} {S:Nat→DS} {T:Nat→DR} {m:Nat} {β0:Pl} {w0:World} {D D':Nat→Prop} {β:Pl} {a:Act} {w:World} (h:St ops S T m β0 w0 D β a w) (D0:∀ k x,dst ops k=some x→x<x+1)
  (hd:∀ i,i<ops.size→(D i↔D' i)):St ops S T m β0 w0 D' β a w:=by
 have e:∀ id,ovH S T D' ops.size id=ovH S T D ops.size id:=fun id=>kC fun i hi _=>(hd i hi).symm;have e':∀ t,(ovT ops S T D' ops.size).tm.get t=(ovT ops S T D ops.size).tm.get t:=fun t=>kg D0 fun i hi _=>(hd i hi).symm
 exact { tm:=h.tm.ext e',df:=h.df,obj:=fun id o ho=>h.obj id o (by rw[←e];exact ho),sep:=fun id id' o o' g g' p p' h1 h2=>h.sep id id' o o' g g' p p' (by rw[←e];exact h1) (by rw[←e];exact h2),
         fresh:=fun j hj hn=>h.fresh j hj fun hh=>hn ((hd j hj).1 hh),free:=h.free,sub:=h.sub,loc:=h.loc,size:=h.size,os:=h.os,tape:=h.tape,output:=h.output,frame:=h.frame,
         prov:=fun id o g p h1=>h.prov id o g p (by rw[←e];exact h1),dom:=fun id o ho=>by rw[e];exact h.dom id o ho,old:=fun id o ho=>h.old id o (by rw[←e];exact ho),
         far:=fun b hb hn=>h.far b hb fun id o g p ⟨i,h1,h2,h3⟩=>hn id o g p ⟨i,h1,(hd i h1).1 h2,h3⟩ }
section
variable {E:Env} {rec:Rec} {ops:Array Oper} {S:Nat→DS} {T:Nat→DR} (hc:Ej E rec ops S T) (G0:RecM rec) (L0:(S ops.size).H.nx≤(S ops.size).H.nx)
variable {m:Nat} {β0:Pl} {w0:World} {D:Nat→Prop} {β:Pl} {a:Act} {w:World}
theorem St.rel (h:St ops S T m β0 w0 D β a w) {j:Nat} (hj:j<ops.size) (T4:¬D j) (Y5:∀ id x,(T j).sub.get id=some x→ovH S T D ops.size id=some x) (P7:∀ id x,(T j).sub.get id=some x→id<(S j).H.nx):
  Rel (T j).H'.nx β ⟨(T j).sub,(S j).H.nx,[]⟩ w where
 obj:=fun id o ho=>h.obj id o (Y5 id o ho)
 sep:=fun id id' o o' g g' p p' h1 h2=>h.sep id id' o o' g g' p p' (Y5 id o h1) (Y5 id' o' h2)
 wf:=fun id hid=>by
  cases hg:(T j).sub.get id with
  | none=>exact hg
  | some x=>exact absurd (P7 id x hg) (by have:(S j).H.nx≤id:=hid;omega)
 free:=fun id g h1 h2=>h.fresh j hj T4 id g h1 h2
theorem Fact.of {j:Nat} {β β':Pl} {w w':World} (hx:Ext β ⟨(T j).sub,(S j).H.nx,[]⟩ w β' (T j).H' w'):Fact S T j where
 dom:=fun id o ho=>hx.dom id o ho
 old:=fun id o ho=>hx.old id o ho
 log:=fun id hid hn=>by
  obtain ⟨l,hl,hg⟩:=hx.log;have U6:(T j).H'.log=l:=by rw[hl];simp
  by_cases hm:id∈l
  ·cases hs:(T j).sub.get id with
   | some x=>exact absurd (iS.2 ⟨by rw[U6];exact hm,hid,x,hs⟩) hn
   | none=>
    cases M1:(T j).H'.get id with
    | none=>rfl
    | some y=>
     rcases hx.old id y M1 with ⟨z,hz⟩|hz
     ·have:(T j).sub.get id=some z:=hz;rw[hs] at this;cases this
     have:(S j).H.nx≤id:=hz.1;omega
  exact hg id hid hm
include hc G0
theorem St.step (B0:(S 0).A.nt≤1048576) (h:St ops S T m β0 w0 D β a w) {j:Nat} (hj:j<ops.size) (T4:¬D j) (Y5:∀ id x,(T j).sub.get id=some x→ovH S T D ops.size id=some x) (P7:∀ id x,(T j).sub.get id=some x→id<(S j).H.nx)
  (hcoH:∀ id,cR S T j id→∀ i,j<i→i<ops.size→D i→¬cR S T i id) (hcoT:∀ t,dst ops j=some t→∀ i,j<i→i<ops.size→D i→dst ops i≠some t)
  {v:Value} {w':World} (ho:Out (T j).H'.nx β ⟨(T j).sub,(S j).H.nx,[]⟩ w [((T j).av,(T j).H')] v w'):Fact S T j∧∃ β',St ops S T m β0 w0 (fun i=>D i∨i=j) β' (a.put (dst ops j) v) w':=by
 obtain ⟨x,hx,β',hv,D9,V4⟩:=ho;rw[List.mem_singleton] at hx;subst hx;have hx:Ext β ⟨(T j).sub,(S j).H.nx,[]⟩ w β' (T j).H' w':=V4;have hf:Fact S T j:=Fact.of hx;refine ⟨hf,β',?_⟩;have D0:∀ k x,dst ops k=some x→x<x+1:=fun k x h=>zA6 _;have Z_:=fun id=>Vu (S:=S) (T:=T) (D:=D) (id:=id) hj (hcoH id);have h0j:(S 0).H.nx≤(S j).H.nx:=iK hc G0 (Nat.zero_le _) (by omega);have hjn:(T j).H'.nx≤(S ops.size).H.nx:=AE hc G0 hj (zA1 _);have split_:∀ id o,ovH S T (fun i=>D i∨i=j) ops.size id=some o →
   ((T j).H'.get id=some o∧((∃ y,(T j).sub.get id=some y)∨((S j).H.nx≤id∧id<(T j).H'.nx)))∨(ovH S T D ops.size id=some o∧(T j).sub.get id=none∧¬cR S T j id):=by
  intro id o hg;by_cases ht:cR S T j id
  ·rw[(Z_ id).1 ht] at hg;refine .inl ⟨hg,?_⟩;rcases ht with ht|ht
   ·exact .inl (fK ht).2
   exact .inr ht
  rw[(Z_ id).2 ht] at hg;cases hs:(T j).sub.get id with
  | none=>exact .inr ⟨hg,rfl,ht⟩
  | some y=>
   have:=Y5 id y hs;rw[hg] at this;cases this
   refine .inl ⟨?_,.inl ⟨_,rfl⟩⟩;rw[hf.log id (P7 id _ hs) fun hh=>ht (.inl hh)];exact hs
 have J5:∀ id,(T j).sub.get id=none→¬cR S T j id→∀ g,β' id g=β id g:=by
  intro id hs ht g;cases hb:β' id g with
  | some p=>
   rcases hx.loc id g p hb with h1|h1|⟨o,h1⟩
   ·exact h1.symm
   ·exact absurd (.inr h1) ht
   have:(T j).sub.get id=some o:=h1;rw[hs] at this;cases this
  | none=>
   cases D5:β id g with
   | none=>rfl
   | some p=>rw[hx.sub id g p D5] at hb;cases hb
 have hkeep:∀ id o g p,ovH S T D ops.size id=some o→(T j).sub.get id=none→dB o g→β id g=some p→w'.heap[p.b]?=w.heap[p.b]?:=by
  intro id o g p hg hs Q8 hp;refine hx.frame p.b ((h.obj id o hg).lt Q8 hp) fun id' o' g' p' h1 h2 h3 h4=>?_;have u7:(T j).sub.get id'=some o':=h1;rcases h.sep id' id o' o g' g p' p (Y5 id' o' u7) hg h2.1 Q8 h3 hp h4 with this|⟨this,_⟩
  ·subst this;rw[hs] at u7;cases u7
  rw[h2.2] at this;cases this
 have J8:∀ id o g p,((T j).H'.get id=some o∧((∃ y,(T j).sub.get id=some y)∨((S j).H.nx≤id∧id<(T j).H'.nx)))→dB o g→β' id g=some p →
   w.heap.size≤p.b∨∃ o0 g0 p0,ovH S T D ops.size id=some o0∧dB o0 g0∧β id g0=some p0∧p0.b=p.b∧o0.mu=o.mu:=by
  intro id o g p hg Q8 hp;rcases hx.prov id o g p hg.1 Q8 hp with h1|⟨o0,g0,p0,h1,h2,h3,h4⟩
  ·exact .inl h1
  exact .inr ⟨o0,g0,p0,Y5 id o0 h1,h2,h3,h4⟩
 have O':∀ id o,ovH S T (fun i=>D i∨i=j) ops.size id=some o→fS β' w' id o:=by
  intro id o hg;rcases split_ id o hg with hl|⟨M1,hs,ht⟩
  ·exact D9.obj id o hl.1
  exact fS.mono hx.sub (h.obj id o M1) (J5 id hs ht) fun g p Q8 hp=>hkeep id o g p M1 hs Q8 hp
 have N5:∀ id,(∀ g,β id g=none)→(T j).sub.get id=none:=by
  intro id hn;cases hs:(T j).sub.get id with
  | none=>rfl
  | some y=>
   obtain ⟨g,p,hp⟩:=(h.obj id y (Y5 id y hs)).has;rw[hn g] at hp;cases hp
 refine { tm:=?_,df:=?_,obj:=O',sep:=?_,fresh:=?_,free:=?_,sub:=fun id g p hp=>hx.sub _ _ _ (h.sub _ _ _ hp),loc:=?_,size:=zA2 h.size hx.size,os:=hx.os.trans h.os,tape:=hx.tape.trans h.tape,
          output:=hx.output.trans h.output,frame:=?_,prov:=?_,dom:=?_,old:=?_,far:=?_ }
 ·
  have h1:=h.tm.mono hx.sub;have h2:TmR β' (tV (ovT ops S T D ops.size) (dst ops j) (T j).av).tm (S 0).A.nt (a.put (dst ops j) v).tmps:=by
   cases hd:dst ops j with
   | none=>exact h1
   | some d=>exact h1.put (XE hc hd) hv
  exact h2.ext fun t=>Vb D0 hj hcoT t
 ·have h1:=nr.mono hx.sub h.df;cases dst ops j with
  | none=>exact h1
  | some d=>exact h1
 ·
  intro id id' o o' g g' p p' h1 h2 h3 h4 h5 h6 h7;rcases split_ id o h1 with hl|⟨C5,V1,ht1⟩
  ·rcases split_ id' o' h2 with U6|⟨Z4,D3,ht2⟩
   ·exact D9.sep id id' o o' g g' p p' hl.1 U6.1 h3 h4 h5 h6 h7
   rw[J5 id' D3 ht2] at h6;rcases J8 id o g p hl h3 h5 with h8|⟨o0,g0,p0,a1,a2,a3,a4,a5⟩
   ·have:=(h.obj id' o' Z4).lt h4 h6;omega
   rw[←a5];exact h.sep id id' o0 o' g0 g' p0 p' a1 Z4 a2 h4 a3 h6 (a4.trans h7)
  rw[J5 id V1 ht1] at h5;rcases split_ id' o' h2 with U6|⟨Z4,D3,ht2⟩
  ·rcases J8 id' o' g' p' U6 h4 h6 with h8|⟨o0,g0,p0,a1,a2,a3,a4,a5⟩
   ·have:=(h.obj id o C5).lt h3 h5;omega
   rw[←a5];exact h.sep id id' o o0 g g0 p p0 C5 a1 h3 a2 h5 a3 (h7.trans a4.symm)
  rw[J5 id' D3 ht2] at h6;exact h.sep id id' o o' g g' p p' C5 Z4 h3 h4 h5 h6 h7
 ·
  intro k hk hn id g h1 h2;have hnk:¬D k:=fun hh=>hn (.inl hh);have hkj:k≠j:=fun hh=>hn (.inr hh);have hb:∀ g,β id g=none:=fun g=>h.fresh k hk hnk id g h1 h2;have hnt':¬cR S T j id:=by
   rintro (ht|ht)
   ·obtain ⟨_,y,hy⟩:=fK ht;rw[N5 id hb] at hy;cases hy
   rcases Nat.lt_or_ge k j with hh|hh
   ·have:=AE hc G0 hh (k:=j) (by omega);omega
   have hjk:j<k:=by omega
   have:=AE hc G0 hjk (k:=k) (by omega);omega
  rw[J5 id (N5 id hb) hnt'];exact hb g
 ·
  intro id g h1 h2;have hb:∀ g,β id g=none:=fun g=>h.free id g h1 h2;have hnt':¬cR S T j id:=fun ht=>by
   have:=ru hc G0 hj ht;omega
  rw[J5 id (N5 id hb) hnt'];exact hb g
 ·intro id g p hp;rcases hx.loc id g p hp with h1|h1|⟨o,h1⟩
  ·exact h.loc id g p h1
  ·exact .inr (.inl ⟨zA2 h0j h1.1,zA0 h1.2 hjn⟩)
  rcases h.old id o (Y5 id o h1) with h2|h2
  ·exact .inr (.inr h2)
  exact .inr (.inl h2)
 ·intro b hb hn;rw[hx.frame b (zA0 hb h.size) ?_,h.frame b hb hn];intro id o g p h1 h2 h3 h4;rcases h.prov id o g p (Y5 id o h1) h2.1 h3 with h5|⟨o0,g0,p0,a1,a2,a3,a4,a5⟩
  ·omega
  exact hn id o0 g0 p0 a1 ⟨a2,a5.trans h2.2⟩ a3 (a4.trans h4)
 ·intro id o g p h1 h2 h3;rcases split_ id o h1 with hl|⟨C5,V1,ht1⟩
  ·rcases J8 id o g p hl h2 h3 with h8|⟨o0,g0,p0,a1,a2,a3,a4,a5⟩
   ·have:=h.size;exact .inl (by omega)
   rcases h.prov id o0 g0 p0 a1 a2 a3 with h5|⟨o1,g1,p1,b1,b2,b3,b4,b5⟩
   ·exact .inl (by omega)
   exact .inr ⟨o1,g1,p1,b1,b2,b3,b4.trans a4,b5.trans a5⟩
  rw[J5 id V1 ht1] at h3;exact h.prov id o g p C5 h2 h3
 ·intro id o h1;by_cases ht:cR S T j id
  ·rw[(Z_ id).1 ht];rcases ht with ht|ht
   ·obtain ⟨_,y,hy⟩:=fK ht;exact hf.dom id y hy
   obtain ⟨o',Z1⟩:=h.dom id o h1;obtain ⟨g,p,hp⟩:=(h.obj id o' Z1).has;rw[h.fresh j hj T4 id g ht.1 ht.2] at hp;cases hp
  rw[(Z_ id).2 ht];exact h.dom id o h1
 ·intro id o h1;rcases split_ id o h1 with ⟨_,⟨y,hy⟩|hl⟩|⟨C5,_,_⟩
  ·exact h.old id y (Y5 id y hy)
  ·exact .inr ⟨zA2 h0j hl.1,zA0 hl.2 hjn⟩
  exact h.old id o C5
 intro b hb hn;rw[hx.far (T j).H'.log (by simp) b (zA0 hb h.size) ?_,h.far b hb fun id o g p ⟨i,h1,h2,h3⟩=>hn id o g p ⟨i,h1,.inl h2,h3⟩];intro id o g p hid h1 h2 h3 h4;have u7:(T j).sub.get id=some o:=h1;rcases h.prov id o g p (Y5 id o u7) h2.1 h3 with h5|⟨o0,g0,p0,a1,a2,a3,a4,a5⟩
 ·omega
 exact hn id o0 g0 p0 ⟨j,hj,.inr rfl,iS.2 ⟨hid,P7 id o u7,o,u7⟩⟩ a1 ⟨a2,a5.trans h2.2⟩ a3 (a4.trans h4)
end
theorem JG {F:Fence} {n:Nat} {P:Program} {o:Oper} {a:Act} {X:Prop} {r:Result Next} (hF:∀ k,F.room k) (w0:World) (h:o.uponIn F n P a (fun _ _=>X) (fun _ _ _=>False) r):X:=by
 cases r with
 | halt x w'=>cases x <;> exact False.elim h
 | ok x w'=>
  cases x with
  | value v=>exact h
  | skip=>exact h
  | defer d=>exact h
  | enter f args=>
   obtain ⟨e,w'',fr,hr,_⟩:=h.2.2 [] (hF _);cases e with
   | returned v=>exact hr
   | panicked c=>exact False.elim hr
   | outgrown=>obtain ⟨_,_,hr⟩:=hr;exact False.elim hr
  | row row args=>
   obtain ⟨v,w'',hr,_⟩:=h.2 (Frame.enter P 0 #[] .normal) [] (hF _);exact hr
  | round l f tmps assign body=>
   obtain ⟨e,w'',hr,_⟩:=h.2.2 (Frame.enter P 0 #[] .normal) [] (hF _);cases e with
   | returned v=>exact hr
   | panicked c=>exact False.elim hr
   | outgrown=>obtain ⟨_,_,hr⟩:=hr;exact False.elim hr
  | _=>exact False.elim h
section
variable {E:Env} (hE:vY E) {N:Nat} {rec:Rec} (K0:BJ E.P N rec) (G0:RecM rec)
variable {ops:Array Oper} {S:Nat→DS} {T:Nat→DR} (hc:Ej E rec ops S T) (L0:(S ops.size).H.nx≤(S ops.size).H.nx) (B0:(S 0).A.nt≤1048576) (h0:∀ id,(S 0).H.nx≤id→(S 0).H.get id=none)
variable {m:Nat} {β0:Pl} {w0:World}
include hE K0 G0 hc L0 B0 h0
theorem take {D:Nat→Prop} (R0:∀ i,i<ops.size→D i→∀ b,Nat.testBit (mask ops i) b=true→D b) {j:Nat} (hj:j<ops.size) (T4:¬D j) (hp:∀ b,Nat.testBit (mask ops j) b=true→D b) (hf:∀ i,i<j→Fact S T i)
  {β:Pl} {a:Act} {w:World} (h:St ops S T m β0 w0 D β a w) {rB:Option Nat} {Q:Exit→Act→World→Prop} {K:Act→World→Prop}
  (hK:∀ v w',Fact S T j→(∃ β',St ops S T m β0 w0 (fun i=>D i∨i=j) β' (a.put (dst ops j) v) w')→K (a.put (dst ops j) v) w'):wpOpIn (fen rB) 0 E.P ops Q j K a w:=by
 obtain ⟨o,ho⟩:=fk hj;obtain ⟨hwfj,_⟩:=law hc G0 L0 (h0:=h0) (k:=j) (by omega) hf;have Y5:=UF hc G0 L0 R0 hj T4 hp (h0:=h0) hf;have P7:∀ id x,(T j).sub.get id=some x→id<(S j).H.nx:=fun id x hx=>by
  have:=(gP hc G0 L0 hj ho hx).2.2.1;rcases Nat.lt_or_ge id (S j).H.nx with hh|hh
  ·exact hh
  rw[hwfj id hh] at this;cases this
 have hR:=h.rel hj T4 Y5 P7;have I5:=fun {v w'} ho=>St.step (v:=v) (w':=w') hc G0 B0 h hj T4 Y5 P7 (Yi hc G0 L0 R0 hj T4) (XC hc R0 T4) ho;have hm1:(T j).H'.nx≤(T j).H'.nx:=zA1 _;have n_:∀ t∈slotsOf ops o,(ovT ops S T D ops.size).tm.get t=(S j).A.tm.get t:=fun t ht=>Vs hc B0 R0 hj T4 hp ho ht;have hA:gO β ⟨(ovT ops S T D ops.size).tm,(S 0).A.nt,(S 0).A.dfr⟩ a:=⟨h.tm,h.df⟩;have hwk:=HJ n_;unfold wpOpIn;rw[ho];simp only
 have hd:=PA ho;cases hr:(T j).ran with
 | true=>
  obtain ⟨h1,_,h3,_⟩:=(hc.link j o ho).yes hr;have hw:Region.wanted o (yielded ops a.tmps)=true:=by
   have hk:=hwk (.ok []) (.bad "")
   rw[h1] at hk;rcases vS h.tm hk with ⟨hw,_⟩|⟨_,hb⟩
   ·exact hw
   cases hb
  rw[zB0 hw];have hcong:(ao E.P o).run (ovT ops S T D ops.size).tm ⟨(T j).sub,(S j).H.nx,[]⟩=(ao E.P o).run (S j).A.tm ⟨(T j).sub,(S j).H.nx,[]⟩:=by
   refine IA o fun x hx=>Tc fun t ht=>n_ t ?_;unfold slotsOf;subst ht;exact List.mem_append_left _ (List.mem_filterMap.2 ⟨.tmp t,hx,rfl⟩)
  have E9:jh E rec ⟨(T j).sub,(S j).H.nx,[]⟩ ((ao E.P o).run (ovT ops S T D ops.size).tm ⟨(T j).sub,(S j).H.nx,[]⟩)=.ok [((T j).av,(T j).H')]:=by
   rw[hcong];exact h3
  refine Ly (A:=⟨(ovT ops S T D ops.size).tm,(S 0).A.nt,(S 0).A.dfr⟩) hE K0 G0 hm1 hR hA E9 (fun x hx=>by rw[List.mem_singleton.1 hx];exact zA1 _) fun v w' W3=>?_;rw[←hd];have:=I5 W3;exact hK v w' this.1 this.2
 | false=>
  obtain ⟨h1,h2,h3,h4,_⟩:=(hc.link j o ho).no hr;have hw:Region.wanted o (yielded ops a.tmps)=false:=by
   have hk:=hwk (.bad "") (.ok [])
   rw[h1] at hk;rcases vS h.tm hk with ⟨_,hb⟩|⟨hw,_⟩
   ·cases hb
   exact hw
  rw[zB1 (by rw[hw];exact zA8)];refine ⟨fun _ _=>trivial,?_⟩;rw[←hd];have W3:Out (T j).H'.nx β ⟨(T j).sub,(S j).H.nx,[]⟩ w [((T j).av,(T j).H')] undef w:=by
   refine ⟨_,List.mem_singleton.2 rfl,β,?_,?_,?_⟩
   ·show AR β (T j).av undef;rw[h2];exact rF β
   ·show Rel _ β (T j).H' w;rw[h3] at hR;have e:(T j).H'=⟨.leaf,(S j).H.nx,[]⟩:=h4;rw[e];rw[e] at hR;exact hR
   show Ext β _ w β (T j).H' w;rw[h3,h4];exact Ext.refl _ _ _
  have:=I5 W3;exact hK undef w this.1 this.2
theorem facts (L5:∃ a,St ops S T m β0 w0 (fun _=>False) β0 a w0):∀ k,k≤ops.size→(∀ i,i<k→Fact S T i)∧∃ β a w,St ops S T m β0 w0 (fun i=>i<k) β a w
 | 0,_=>by
  obtain ⟨a,h⟩:=L5;have D0:∀ k x,dst ops k=some x→x<x+1:=fun k x h=>zA6 _;exact ⟨fun i hi=>by omega,β0,a,w0,h.congr D0 fun i _=>⟨False.elim,fun h=>by omega⟩⟩
 | k+1,hk=>by
  have D0:∀ k x,dst ops k=some x→x<x+1:=fun k x h=>zA6 _;obtain ⟨hf,β,a,w,h⟩:=facts L5 k (by omega);have hs:=hc.stat;unfold dF at hs;rw[Bool.and_eq_true] at hs;have N7:∀ i o,ops[i]?=some o→∀ e∈o.after.toList,fg e=true→e.on<i:=fun i o ho e he hu=>by
   have:=jo hs.2 i o (by simpa using ho) e he hu;omega
  obtain ⟨ok,Y1⟩:=fk (ops:=ops) (k:=k) (by omega);have R0:∀ i,i<ops.size→i<k→∀ b,Nat.testBit (mask ops i) b=true→b<k:=fun i hi hik=>nS (D:=fun i=>i<k) (fun i o ho hd e he hu=>Nat.lt_trans (N7 i o ho e he hu) hd) (i+1) i (by omega) hi hik;have hp:∀ b,Nat.testBit (mask ops k) b=true→b<k:=EM (D:=fun i=>i<k) (fun i o ho hd e he hu=>Nat.lt_trans (N7 i o ho e he hu) hd) Y1 fun e he hu=>N7 k ok Y1 e he hu;have hwp:=take hE K0 G0 hc L0 B0 h0 (D:=fun i=>i<k) R0 (j:=k) (by omega) (by omega) hp hf h (rB:=none) (Q:=fun _ _ _=>False)
   (K:=fun _ _=>Fact S T k∧∃ β a w,St ops S T m β0 w0 (fun i=>i<k+1) β a w) fun v w' h1 ⟨β',h2⟩=>⟨h1,β',_,_,h2.congr D0 fun i _=>by omega⟩
  have hX:Fact S T k∧∃ β a w,St ops S T m β0 w0 (fun i=>i<k+1) β a w:=by
   unfold wpOpIn at hwp;rw[Y1] at hwp;simp only at hwp
   split at hwp
   ·exact JG (fun k d hd=>by simp[fen] at hd) w0 hwp.2
   exact hwp.2
  refine ⟨fun i hi=>?_,hX.2⟩;rcases Nat.lt_or_ge i k with hh|hh
  ·exact hf i hh
  have:i=k:=by omega
  subst this;exact hX.1
theorem NG (hf:∀ i,i<ops.size→Fact S T i) {rB:Option Nat} {Q:Exit→Act→World→Prop} (hQ:∀ β a w,St ops S T m β0 w0 (fun _=>True) β a w→Q .normal a w):
  ∀ (fuel:Nat) (listed:Array Bool) (β:Pl) (a:Act) (w:World),listed.size=ops.size→(∀ i o,ops[i]?=some o→listed.getD i false=true→∀ e∈o.after.toList,fg e=true→listed.getD e.on false=true) →
   ((List.range ops.size).filter fun i=>!listed.getD i false).length≤fuel→St ops S T m β0 w0 (fun i=>listed.getD i false=true) β a w→wpAnyIn (fen rB) 0 E.P .any ops Q fuel listed a w:=by
 have D0:∀ k x,dst ops k=some x→x<x+1:=fun k x h=>zA6 _;have q_:∀ e,Region.binds .any e=fg e:=fun e=>by
  unfold Region.binds fg;cases e.ground <;> rfl
 have hs:=hc.stat;unfold dF at hs;rw[Bool.and_eq_true] at hs;have N7:∀ i o,ops[i]?=some o→∀ e∈o.after.toList,fg e=true→e.on<i:=fun i o ho e he hu=>by
  have:=jo hs.2 i o (by simpa using ho) e he hu;omega
 have F1:∀ (listed:Array Bool),listed.size=ops.size→Region.ready .any ops listed=[]→∀ k i,i<k→i<ops.size→listed.getD i false=true:=by
  intro listed G1 hr k;induction k with
  | zero=>intro i hi;omega
  | succ k ih=>
   intro i hi V7;cases hl:listed.getD i false with
   | true=>rfl
   | false=>
    exfalso;obtain ⟨o,ho⟩:=fk V7;have L9:i<listed.size:=by omega
    have:i∈Region.ready .any ops listed:=mem_ready.2 ⟨by simp[L9] at hl ⊢;exact hl,o,ho,fun e he hb=>by
     rw[q_] at hb;have:=N7 i o ho e (by simpa using he) hb;exact ih e.on (by omega) (by omega)⟩
    rw[hr] at this;cases this
 intro fuel;induction fuel with
 | zero=>
  intro listed β a w G1 R0 hn h;have U7:(List.range ops.size).filter (fun i=>!listed.getD i false)=[]:=List.eq_nil_of_length_eq_zero (by omega);have hD:∀ i,i<ops.size→listed.getD i false=true:=fun i hi=>by
   cases hl:listed.getD i false with
   | true=>rfl
   | false=>
    have:i∈(List.range ops.size).filter (fun i=>!listed.getD i false):=List.mem_filter.2 ⟨List.mem_range.2 hi,by rw[hl];rfl⟩;rw[U7] at this;cases this
  refine ⟨?_,hQ β a w (h.congr D0 fun i hi=>⟨fun _=>trivial,fun _=>hD i hi⟩)⟩;cases hr:Region.ready .any ops listed with
  | nil=>rfl
  | cons i l=>
   have hi:i∈Region.ready .any ops listed:=by rw[hr];exact List.mem_cons_self ..
   obtain ⟨h1,o,ho,_⟩:=mem_ready.1 hi;have V7:i<ops.size:=(Array.getElem?_eq_some_iff.1 ho).1;have:=hD i V7;have L9:i<listed.size:=by omega
   simp[L9] at h1 this;rw[h1] at this;cases this
 | succ fuel ih=>
  intro listed β a w G1 R0 hn h;refine ⟨fun hr=>hQ β a w (h.congr D0 fun i hi=>⟨fun _=>trivial,fun _=>F1 listed G1 hr (i+1) i (by omega) hi⟩),fun i hi=>?_⟩;obtain ⟨h1,o,ho,he⟩:=mem_ready.1 hi;have V7:i<ops.size:=(Array.getElem?_eq_some_iff.1 ho).1;have L9:i<listed.size:=by omega
  have hni:¬listed.getD i false=true:=by
   simp[L9] at h1 ⊢;exact h1
  have hedge:∀ e∈o.after.toList,fg e=true→listed.getD e.on false=true:=fun e Z9 hu=>he e (by simpa using Z9) (by rw[q_];exact hu);have hclm:∀ k,k<ops.size→listed.getD k false=true→∀ b,Nat.testBit (mask ops k) b=true→listed.getD b false=true:=fun k hk hd=>nS (D:=fun i=>listed.getD i false=true) R0 (k+1) k (by omega) hk hd;have hpm:=EM (D:=fun i=>listed.getD i false=true) R0 ho hedge;refine take hE K0 G0 hc L0 B0 h0 (D:=fun i=>listed.getD i false=true) hclm V7 hni hpm (fun k hk=>hf k (by omega)) h fun v w' _ ⟨β',h2⟩=>?_;have J6:∀ k,k<ops.size→((listed.setIfInBounds i true).getD k false=true↔(listed.getD k false=true∨k=i)):=fun k hk=>by
   by_cases hki:k=i
   ·subst hki;simp[L9]
   rw[getD_set_ne false (fun hh=>hki hh.symm)];simp[hki]
  refine ih (listed.setIfInBounds i true) β' _ w' (by simp[G1]) (fun k ok Y1 hk e Z9 hu=>?_) ?_ (h2.congr D0 fun k hk=>(J6 k hk).symm)
  ·have hko:k<ops.size:=(Array.getElem?_eq_some_iff.1 Y1).1;rcases (J6 k hko).1 hk with hk|rfl
   ·exact getD_set_true (R0 k ok Y1 hk e Z9 hu)
   rw[ho] at Y1;cases Y1
   exact getD_set_true (hedge e Z9 hu)
  
  have hlen:((List.range ops.size).filter fun k=>!(listed.setIfInBounds i true).getD k false).length<((List.range ops.size).filter fun k=>!listed.getD k false).length:=by
   have U0:(List.range ops.size).filter (fun k=>!(listed.setIfInBounds i true).getD k false)=((List.range ops.size).filter fun k=>!listed.getD k false).filter fun k=>!Nat.beq k i:=by
    rw[List.filter_filter];refine List.filter_congr fun k hk=>?_;have S2:=List.mem_range.1 hk;have:=J6 k S2;cases h1:(listed.setIfInBounds i true).getD k false <;> cases h2:listed.getD k false <;> cases h3:Nat.beq k i <;> simp_all
   rw[U0];refine List.length_filter_lt_length_iff_exists.2 ⟨i,List.mem_filter.2 ⟨List.mem_range.2 V7,by simpa using hni⟩,by simp⟩
  omega
end
theorem GI {E:Env} (hE:vY E):RT E:=by
 intro N rec K0 G0 m β H w A a id ops rB outs hm hR hA hstat h hb;obtain ⟨l,hl,hk⟩:=R.dJ h;obtain ⟨S,T,hs0,hlink,O6⟩:=HR ops.toList 0 _ _ _ _ _ hl;have G1:ops.toList.length=ops.size:=by simp
 rw[G1] at O6;have hc:Ej E rec ops S T:=⟨by rw[hs0],fun k o ho=>by
  have:=hlink k o (by simpa using ho);rw[Nat.zero_add] at this;exact this,hstat⟩
 subst O6;obtain ⟨o',Z1,a7⟩:=hk _ (List.mem_singleton.2 rfl);cases Z1
 have hx:=a7 _ (List.mem_singleton.2 rfl);have hnxm:(S ops.size).H.nx≤m:=hb _ hx;have L0:(S ops.size).H.nx≤(S ops.size).H.nx:=zA1 _;have eA:(S 0).A=A:=by rw[hs0]
 have eH:(S 0).H=H:=by rw[hs0]
 have B0:(S 0).A.nt≤1048576:=by rw[eA];exact hA.tm.2.1
 have h0:∀ id,(S 0).H.nx≤id→(S 0).H.get id=none:=by rw[eH];exact hR.wf
 have D0:∀ k x,dst ops k=some x→x<x+1:=fun k x h=>zA6 _;have G4:Rel m β H { w with drawn:=w.drawn+1 }:=hR.drew _;have D_:∀ id,ovH S T (fun _=>False) ops.size id=H.get id:=fun id=>by
  rw[uw (k:=0) (by omega) fun i _ _ h=>h.elim,←eH];rfl
 have hovT:∀ t,(ovT ops S T (fun _=>False) ops.size).tm.get t=A.tm.get t:=fun t=>by
  rw[uk D0 (k:=0) (by omega) fun i _ _ h=>h.elim,←eA];rfl
 have L5:St ops S T m β { w with drawn:=w.drawn+1 } (fun _=>False) β a { w with drawn:=w.drawn+1 }:=by
  refine { tm:=?_,df:=by rw[eA];exact hA.df,obj:=fun id o ho=>G4.obj id o (by rw[←D_];exact ho),sep:=fun id id' o o' g g' p p' h1 h2=>G4.sep id id' o o' g g' p p' (by rw[←D_];exact h1) (by rw[←D_];exact h2),
           fresh:=fun j hj _ id g h1 h2=>?_,free:=fun id g h1 h2=>?_,sub:=fun _ _ _ h=>h,loc:=fun _ _ _ h=>.inl h,size:=zA1 _,os:=rfl,tape:=rfl,output:=rfl,frame:=fun _ _ _=>rfl,
           prov:=fun id o g p h1 h2 h3=>?_,dom:=fun id o ho=>⟨o,by rw[D_,←eH];exact ho⟩,old:=fun id o ho=>.inl ⟨o,by rw[eH,←D_];exact ho⟩,far:=fun _ _ _=>rfl }
  ·rw[eA];exact hA.tm.ext hovT
  ·have h3:=iK hc G0 (i:=0) (k:=j) (by omega) (by omega);have h4:=AE hc G0 hj (zA1 _);rw[eH] at h3;exact G4.free id g (by omega) (by omega)
  ·have h3:=iK hc G0 (i:=0) (k:=ops.size) (by omega) (zA1 _);rw[eH] at h3;exact G4.free id g (by omega) h2
  rw[D_] at h1;exact .inr ⟨o,g,p,by rw[eH];exact h1,h2,h3,rfl,rfl⟩
 have hf:=(facts hE K0 G0 hc L0 B0 h0 ⟨a,L5⟩ ops.size (zA1 _)).1;refine wpIn_region_any hE.mixed ?_;refine NG hE K0 G0 hc L0 B0 h0 hf (m:=m) (β0:=β) (w0:={ w with drawn:=w.drawn+1 }) (fun β' a' w' O2=>?_) ops.size _ β a _ (by simp) (fun i o ho hl=>?_) ?_ (L5.congr D0 fun i hi=>⟨False.elim,fun hh=>?_⟩)
 ·obtain ⟨P7,hlaw⟩:=law hc G0 L0 (h0:=h0) (k:=ops.size) (zA1 _) hf;have e:∀ id,ovH S T (fun _=>True) ops.size id=(S ops.size).H.get id:=fun id=>(hlaw id).symm;have U4:=Bn hc (k:=ops.size) (zA1 _);refine ⟨_,hx,trivial,β',⟨?_,?_⟩,⟨fun id o ho=>O2.obj id o (by rw[e];exact ho),fun id id' o o' g g' p p' h1 h2=>O2.sep id id' o o' g g' p p' (by rw[e];exact h1) (by rw[e];exact h2),P7,O2.free⟩,?_⟩
  ·show TmR β' (S ops.size).A.tm (S ops.size).A.nt a'.tmps;rw[U4,Bp];exact O2.tm
  ·show nr β' (S ops.size).A.dfr a'.defers;rw[U4,BA];exact O2.df
  have D6:=iK hc G0 (i:=0) (k:=ops.size) (by omega) (zA1 _);rw[←eH];have hlog:∀ k,k≤ops.size→∃ l,(S k).H.log=l++(S 0).H.log∧(∀ id,id<(S 0).H.nx→id∉l→(S k).H.get id=(S 0).H.get id)∧∀ i,i<k→∀ id,id∈(T i).wr (S i)→id∈l:=by
   intro k;induction k with
   | zero=>intro _;exact ⟨[],rfl,fun _ _ _=>rfl,fun i hi=>by omega⟩
   | succ k ih=>
    intro hk;obtain ⟨l,q6,O8,hl3⟩:=ih (by omega);obtain ⟨o,ho⟩:=fk (ops:=ops) (k:=k) (by omega);have hls:=Hk hc G0 L0 (k:=k) (by omega) (hf k (by omega)) (law hc G0 L0 (h0:=h0) (k:=k) (by omega) fun i hi=>hf i (by omega)).1;have hm0:=iK hc G0 (i:=0) (k:=k) (by omega) (by omega);cases hr:(T k).ran with
    | false=>
     rw[(lL hc ho hr).2.2.1];refine ⟨l,q6,O8,fun i hi id hid=>?_⟩;by_cases e:i=k
     ·subst e;exact absurd (.inl hid) (kE hc ho hr id)
     exact hl3 i (by omega) id hid
    | true=>
     obtain ⟨_,_,_,_,h5,_⟩:=(hc.link k o ho).yes hr;refine ⟨(T k).wr (S k)++l,by rw[h5,List.append_assoc,←q6],fun id hid hn=>?_,fun i hi id hid=>?_⟩
     ·rw[(hls id).2 ?_]
      ·exact O8 id hid fun hh=>hn (List.mem_append_right _ hh)
      rintro (ht|ht)
      ·exact hn (List.mem_append_left _ ht)
      omega
     by_cases e:i=k
     ·subst e;exact List.mem_append_left _ hid
     exact List.mem_append_right _ (hl3 i (by omega) id hid)
  refine { sub:=O2.sub,loc:=O2.loc,size:=O2.size,os:=O2.os,tape:=O2.tape,output:=O2.output,frame:=O2.frame,prov:=fun id o g p h1 h2 h3=>O2.prov id o g p (by rw[e];exact h1) h2 h3,nx:=D6,log:=?_,far:=?_,
           dom:=fun id o ho=>by obtain ⟨o',Z1⟩:=O2.dom id o ho;exact ⟨o',by rw[←e];exact Z1⟩,old:=fun id o ho=>O2.old id o (by rw[e];exact ho) }
  ·obtain ⟨l0,e0,f0,g0⟩:=hlog ops.size (zA1 _);exact ⟨l0,e0,f0⟩
  intro l hl b hb hn;obtain ⟨l0,e0,f0,g0⟩:=hlog ops.size (zA1 _);have e:l=l0:=by
   have U6:(S ops.size).H.log=l++(S 0).H.log:=hl;rw[e0] at U6;exact (List.append_cancel_right U6).symm
  subst e;exact O2.far b hb fun id o g p ⟨i,h1,_,h3⟩=>hn id o g p (g0 i h1 id h3)
 ·exfalso;have V7:i<ops.size:=(Array.getElem?_eq_some_iff.1 ho).1;simp[V7] at hl
 ·exact zA2 (List.length_filter_le _ _) (by simp)
 simp[hi] at hh
end Go.Eng
end
