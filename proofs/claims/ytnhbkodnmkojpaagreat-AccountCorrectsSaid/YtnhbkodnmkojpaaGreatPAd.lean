/- A part of the proof: EngSound7, EngDraw1, EngSound8, EngDraw2, EngDraw3, EngDraw4. No conditions. -/
import Derived.Test.YtnhbkodnmkojpaaGreatPAc
set_option maxRecDepth 100000
set_option maxHeartbeats 64000000
namespace Go.Eng
open Go
section
variable {P:Program} {m:Nat} {β:Pl} {H:Hp} {w:World}
theorem JX {v:AV} {u:Value} (hv:AR β v u) {x:Bool×List AC} (h:fl v=some x):TR β x u:=by
 cases v with
 | one c=>cases h;exact hv
 | agg l=>cases h;exact hv
 | tup l=>cases h
 | any=>cases h
theorem OD {x:AV} {f:Nat→Nat→Nat→Nat→ae} {s:String} {y:AV} {H':Hp} (h:rk x (.bad s) f=.val y H'):∃ a b c d,x=.one (.o (.ptr a b c d))∧f a b c d=.val y H':=by
 cases x with
 | one c=>
  cases c with
  | o q=>cases q <;> first|exact ⟨_,_,_,_,rfl,h⟩|cases h
  | b _=>cases h
  | i _ _=>cases h
 | agg _=>cases h
 | tup _=>cases h
 | any=>cases h
theorem Ra (hR:Rel m β H w) {t:TypeId} {a:Bool} {n:Nat} (ht:loadT P t=some (a,n)) {x:AV} {v:Value} (hx:AR β x v) {y:AV} {H':Hp} (h:cm H a n x=.val y H'):
  ∃ u,(do loadVar t (←asAddr v):Sem Value).run P w=.ok u w∧AR β y u:=by
 obtain ⟨ha,hn⟩:=Fl ht
 obtain ⟨id,g,off,lim,rfl,h1⟩:=OD h
 obtain ⟨p,hp,hlim,rfl⟩:=hx
 cases hc:eL H id g off lim n with
 | none=>rw[hc] at h1;cases h1
 | some c=>
  rw[hc] at h1
  obtain ⟨cells,hD,e3,e4,rfl⟩:=mE hc
  have hr:=hD hR hp
  obtain ⟨vs,hvl,hvs,hcell⟩:=lG hr off n (by omega)
  cases a with
  | true=>
   cases h1
   refine ⟨.agg vs.toArray,?_,vs,hvs,rfl⟩
   have hl:=run_loadCells_list (P:=P) w ⟨p.b,p.o+off,none⟩ vs hcell
   rw[hvl] at hl
   simp[asAddr,loadVar,eF ha,cD hn,hl]
  | false=>
   cases hcs:(cells.drop off).take n with
   | nil=>rw[hcs] at h1;cases h1
   | cons z l=>
    rw[hcs] at hvs h1
    cases vs with
    | nil=>exact hvs.elim
    | cons u us=>
     cases h1
     refine ⟨u,?_,hvs.1⟩
     have h0:=hcell 0 u rfl
     have:(⟨p.b,p.o+off,none⟩:Addr).add 0=⟨p.b,p.o+off,none⟩:=rfl
     rw[this] at h0
     simp[asAddr,loadVar,eF ha,run_load,h0]
def Bq (tmps:Array Value):ResultVar→Sem Value
 | .tmp t=>pure (tmps.getD t undef)
 | .cell a t=>do loadVar t (←asAddr (tmps.getD a undef))
theorem Tu (hR:Rel m β H w) {tm:PT AV} {tmps:Array Value} (htm:∀ t,AR β (ay (tm.get t) aG fun v=>v) (tmps.getD t undef)) {x:ResultVar} {y:Bool×List AC} (h:iy P x tm H=some y):
  ∃ u,(Bq tmps x).run P w=.ok u w∧TR β y u:=by
 cases x with
 | tmp t=>
  have h':ay (tm.get t) none fl=some y:=h
  obtain ⟨v,hv,hy⟩:=dv h'
  have:=htm t
  rw[hv] at this
  exact ⟨_,rfl,JX this hy⟩
 | cell a t=>
  cases hp:loadT P t with
  | none=>
   have:iy P (.cell a t)=fun _ _=>none:=by simp[iy,hp]
   rw[this] at h;cases h
  | some p=>
   have:iy P (.cell a t)=fun tm h=>ay (tm.get a) none fun v=>ae.rec (motive:=fun _=>Option (Bool×List AC)) (fun v _=>fl v) (fun _=>none) (fun _ _=>none) (fun _ _=>none) (fun _=>none) (cm h p.1 p.2 v):=by simp[iy,hp]
   rw[this] at h
   obtain ⟨v,hv,hy⟩:=dv h
   have hav:=htm a
   rw[hv] at hav
   cases hd:cm H p.1 p.2 v with
   | val y' H'=>
    rw[hd] at hy
    obtain ⟨u,hu,hr⟩:=Ra (P:=P) hR (a:=p.1) (n:=p.2) hp hav hd
    exact ⟨u,hu,JX hr hy⟩
   | vals l=>rw[hd] at hy;cases hy
   | enter f l=>rw[hd] at hy;cases hy
   | round i l=>rw[hd] at hy;cases hy
   | bad s=>rw[hd] at hy;cases hy
theorem ya (hR:Rel m β H w) {tm:PT AV} {tmps:Array Value} (htm:∀ t,AR β (ay (tm.get t) aG fun v=>v) (tmps.getD t undef)):∀ {l:List ResultVar} {ys:List (Bool×List AC)},bj P l tm H=some ys →
  ∃ us:List Value,(l.mapM (Bq tmps)).run P w=.ok us w∧TRs β ys us
 | [],ys,h=>by cases h;exact ⟨[],rfl,trivial⟩
 | x::l,ys,h=>by
  have h':ay (iy P x tm H) none (fun x=>ay (bj P l tm H) none fun l=>some (x::l))=some ys:=h
  obtain ⟨y,hy,h1⟩:=dv h'
  obtain ⟨ys',hys,h2⟩:=dv h1
  cases h2
  obtain ⟨u,hu,hr⟩:=Tu hR htm hy
  obtain ⟨us,hus,hrs⟩:=ya hR htm hys
  refine ⟨u::us,?_,hr,hrs⟩
  simp[List.mapM_cons,hu,hus]
theorem TRs.length:∀ {l:List (Bool×List AC)} {vs:List Value},TRs β l vs→vs.length=l.length
 | [],[],_=>rfl
 | _::_,_::_,h=>by simp[TRs.length h.2]
 | [],_::_,h=>h.elim
 | _::_,[],h=>h.elim
theorem NT {ys:List (Bool×List AC)} {us:List Value} (h:TRs β ys us):AR β (dm ys) (if h:us.toArray.size=1 then us.toArray[0] else .tuple us.toArray):=by
 match ys,us,h with
 | [],[],h=>exact ⟨[],trivial,rfl⟩
 | [(true,l)],[u],h=>exact h.1
 | [(false,[c])],[u],h=>exact h.1
 | a::b::l,u::v::us,h=>
  have:¬(u::v::us).toArray.size=1:=by simp
  rw[dif_neg this]
  have e:dm (a::b::l)=.tup (a::b::l):=by
   unfold dm
   split <;> first|rfl|(rename_i h;cases h)
  rw[e]
  exact ⟨_,h,rfl⟩
 | [(false,[])],[u],h=>exact h.1.elim
 | [(false,_::_::_)],[u],h=>exact h.1.elim
end
theorem iS {sub:PT aO} {n:Nat} {i:Nat}:∀ {l:List Nat},i∈da sub n l↔i∈l∧i<n∧∃ o,sub.get i=some o
 | []=>⟨fun h=>(by cases h),fun h=>(by cases h.1)⟩
 | x::l=>by
  show i∈ifE (Nat.blt x n) (ay (sub.get x) (da sub n l) fun _=>x::da sub n l) (da sub n l)↔_
  have ih:=iS (sub:=sub) (n:=n) (i:=i) (l:=l)
  rw[bV]
  split
  ·rename_i hb
   have hx:x<n:=Nat.le_of_ble_eq_true hb
   cases hg:sub.get x with
   | none=>
    rw[MI,ih]
    refine ⟨fun h=>⟨List.mem_cons_of_mem _ h.1,h.2⟩,fun h=>⟨?_,h.2⟩⟩
    rcases List.mem_cons.1 h.1 with rfl|h1
    ·obtain ⟨o,ho⟩:=h.2.2;rw[hg] at ho;cases ho
    ·exact h1
   | some o=>
    rw[Ao,List.mem_cons,ih]
    refine ⟨fun h=>?_,fun h=>?_⟩
    ·rcases h with rfl|h
     ·exact ⟨List.mem_cons_self ..,hx,o,hg⟩
     ·exact ⟨List.mem_cons_of_mem _ h.1,h.2⟩
    ·rcases List.mem_cons.1 h.1 with h1|h1
     ·exact .inl h1
     ·exact .inr ⟨h1,h.2⟩
  ·rename_i hb
   rw[ih]
   refine ⟨fun h=>⟨List.mem_cons_of_mem _ h.1,h.2⟩,fun h=>⟨?_,h.2⟩⟩
   rcases List.mem_cons.1 h.1 with rfl|h1
   ·exact absurd (Nat.ble_eq_true_of_le h.2.1:Nat.blt i n=true) hb
   ·exact h1
theorem kV {i:Nat}:∀ {n a:Nat},i∈cK a n↔a≤i∧i<a+n
 | 0,a=>⟨fun h=>(by cases h),fun h=>(by omega)⟩
 | n+1,a=>by
  show i∈a::cK (Nat.add a 1) n↔_
  rw[List.mem_cons,kV]
  have:Nat.add a 1=a+1:=rfl
  rw[this]
  omega
theorem kh {i:Nat}:∀ {l:List Nat},DD l i=true↔i∈l
 | []=>⟨fun h=>(by cases h),fun h=>(by cases h)⟩
 | x::l=>by
  unfold DD
  cases h:Nat.beq x i with
  | true=>
   have:=Nat.eq_of_beq_eq_true h
   subst this
   simp
  | false=>
   have hne:x≠i:=fun e=>by subst e;rw[Nat.beq_refl] at h;cases h
   rw[List.mem_cons]
   simp only[cond_false,kh]
   exact ⟨.inr,fun h=>h.resolve_left fun e=>hne e.symm⟩
theorem iB {src:PT aO} {id:Nat}:∀ {l:List Nat} {t:PT aO},(∀ i∈l,i<i+1)→(cr t src l).get id=if id∈l then src.get id else t.get id
 | [],t,_=>by simp[cr]
 | i::l,t,h=>by
  unfold cr
  rw[iB fun j hj=>h j (List.mem_cons_of_mem _ hj)]
  by_cases hl:id∈l
  ·rw[if_pos hl,if_pos (List.mem_cons_of_mem _ hl)]
  ·rw[if_neg hl,PT.sO _ _ _ _ (h i (List.mem_cons_self ..))]
   by_cases hi:id=i
   ·subst hi;rw[if_pos rfl,if_pos (List.mem_cons_self ..)]
   ·rw[if_neg hi,if_neg fun hh=>(List.mem_cons.1 hh).elim hi hl]
theorem nZ {id:Nat}:∀ {l:List Nat} {t:PT aO},(∀ i∈l,i<i+1)→(jm t l).get id=if id∈l then none else t.get id
 | [],t,_=>by simp[jm]
 | i::l,t,h=>by
  unfold jm
  rw[nZ fun j hj=>h j (List.mem_cons_of_mem _ hj)]
  by_cases hl:id∈l
  ·rw[if_pos hl,if_pos (List.mem_cons_of_mem _ hl)]
  ·rw[if_neg hl]
   show (PT.put none t i).get id=_
   rw[PT.sO _ _ _ _ (h i (List.mem_cons_self ..))]
   by_cases hi:id=i
   ·subst hi;rw[if_pos rfl,if_pos (List.mem_cons_self ..)]
   ·rw[if_neg hi,if_neg fun hh=>(List.mem_cons.1 hh).elim hi hl]
theorem cL {m:Nat} {u:Did}:∀ {l:List Did},u∈aF m l↔u∈l∧Nat.testBit m u.idx=false
 | []=>⟨fun h=>(by cases h),fun h=>(by cases h.1)⟩
 | x::l=>by
  show u∈ifE (Nat.testBit m x.idx) (aF m l) (x::aF m l)↔_
  rw[bV]
  split
  ·rename_i hb
   rw[cL]
   refine ⟨fun h=>⟨List.mem_cons_of_mem _ h.1,h.2⟩,fun h=>⟨?_,h.2⟩⟩
   rcases List.mem_cons.1 h.1 with rfl|h1
   ·rw[hb] at h;cases h.2
   ·exact h1
  ·rename_i hb
   rw[List.mem_cons,cL,List.mem_cons]
   refine ⟨fun h=>?_,fun h=>?_⟩
   ·rcases h with rfl|h
    ·exact ⟨.inl rfl,by simpa using hb⟩
    ·exact ⟨.inr h.1,h.2⟩
   ·rcases h.1 with rfl|h1
    ·exact .inl rfl
    ·exact .inr ⟨h1,h.2⟩
theorem vB {hin:PT aO}:∀ {wr:List Nat},vu hin wr=true→∀ i∈wr,hin.get i=none
 | [],_,i,hi=>by cases hi
 | x::wr,h,i,hi=>by
  have h':ay (hin.get x) (vu hin wr) (fun _=>false)=true:=h
  cases hg:hin.get x with
  | some o=>rw[hg] at h';cases h'
  | none=>
   rw[hg] at h'
   rcases List.mem_cons.1 hi with rfl|hi
   ·exact hg
   ·exact vB (wr:=wr) h' i hi
theorem qh {wr:List Nat}:∀ {us:List Did},ee us wr=true→∀ u∈us,∀ i∈wr,u.hin.get i=none
 | [],_,u,hu=>by cases hu
 | x::us,h,u,hu=>by
  have h':both (vu x.hin wr) (ee us wr)=true:=h
  rw[cO,Bool.and_eq_true] at h'
  rcases List.mem_cons.1 hu with rfl|hu
  ·exact vB h'.1
  ·exact qh h'.2 u hu
theorem vq {u:Did} {i:Nat}:bW u i=true↔i∈u.wr∨(u.c0≤i∧i<u.c1):=by
 unfold bW
 rw[Bool.or_eq_true,kh,Bool.and_eq_true]
 refine or_congr Iff.rfl (and_congr ?_ ?_)
 ·exact ⟨Nat.le_of_ble_eq_true,Nat.ble_eq_true_of_le⟩
 ·exact ⟨fun h=>Nat.le_of_ble_eq_true h,fun h=>Nat.ble_eq_true_of_le h⟩
theorem oI {u:Did} {i:Nat} (h:u.c0≤u.c1):i∈dq u↔bW u i=true:=by
 rw[vq]
 show i∈u.wr++cK u.c0 (u.c1 - u.c0)↔_
 rw[List.mem_append,kV]
 have:u.c0+(u.c1 - u.c0)=u.c1:=by omega
 rw[this]
theorem lU {acc:List Nat} {j i:Nat}:∀ {es:List Edge},Nat.testBit (iL acc j es) i=true→∃ e∈es,fa e=true∧e.on<j∧(i=e.on∨Nat.testBit (acc.getD e.on 0) i=true)
 | [],h=>by simp[iL] at h
 | e::es,h=>by
  unfold iL at h
  cases hc:fa e&&Nat.blt e.on j with
  | false=>
   rw[hc] at h
   obtain ⟨e',he',r⟩:=lU (es:=es) h
   exact ⟨e',List.mem_cons_of_mem _ he',r⟩
  | true=>
   rw[hc] at h
   rw[Bool.and_eq_true] at hc
   have hlt:e.on<j:=Nat.le_of_ble_eq_true hc.2
   have h':Nat.testBit ((1 <<< e.on ||| acc.getD e.on 0) ||| iL acc j es) i=true:=h
   rw[Nat.testBit_or,Nat.testBit_or,Bool.or_eq_true,Bool.or_eq_true] at h'
   rcases h' with (h'|h')|h'
   ·rw[Nat.one_shiftLeft,Nat.testBit_two_pow] at h'
    exact ⟨e,List.mem_cons_self ..,hc.1,hlt,.inl (by simpa using h'.symm:e.on=i).symm⟩
   ·exact ⟨e,List.mem_cons_self ..,hc.1,hlt,.inr h'⟩
   ·obtain ⟨e',he',r⟩:=lU (es:=es) h'
    exact ⟨e',List.mem_cons_of_mem _ he',r⟩
theorem ze:∀ (l:List Oper) (acc:List Nat) (j k:Nat),k<acc.length→(dV acc j l).getD k 0=acc.getD k 0
 | [],_,_,_,_=>rfl
 | o::l,acc,j,k,h=>by
  unfold dV
  rw[ze l _ _ k (by simp;omega)]
  simp only[List.getD_eq_getElem?_getD]
  rw[List.getElem?_append_left h]
theorem oJ:∀ (l:List Oper) (acc:List Nat) (j:Nat),acc.length=j→∀ k o,l[k]?=some o→∀ i,Nat.testBit ((dV acc j l).getD (j+k) 0) i=true →
  ∃ e∈o.after.toList,fa e=true∧e.on<j+k∧(i=e.on∨Nat.testBit ((dV acc j l).getD e.on 0) i=true)
 | [],_,_,_,k,o,h,_,_=>by simp at h
 | x::l,acc,j,hj,0,o,h,i,hi=>by
  simp at h
  subst h
  unfold dV at hi ⊢
  have hpre:=fun k hk=>ze l (acc++[iL acc j x.after.toList]) (Nat.add j 1) k hk
  rw[hpre (j+0) (by simp;omega)] at hi
  have he:(acc++[iL acc j x.after.toList]).getD (j+0) 0=iL acc j x.after.toList:=by
   simp[←hj]
  rw[he] at hi
  obtain ⟨e,he,h1,h2,h3⟩:=lU hi
  refine ⟨e,he,h1,h2,h3.imp id fun h3=>?_⟩
  rw[hpre e.on (by simp;omega)]
  simp only[List.getD_eq_getElem?_getD] at h3 ⊢
  rw[List.getElem?_append_left (by omega)]
  exact h3
 | x::l,acc,j,hj,k+1,o,h,i,hi=>by
  unfold dV at hi ⊢
  have ih:=oJ l (acc++[iL acc j x.after.toList]) (Nat.add j 1) (by simp[hj]) k o (by simpa using h) i
  have e1:Nat.add j 1+k=j+(k+1):=by show j+1+k=_;omega
  rw[e1] at ih
  exact ih hi
theorem nN {ops:Array Oper} {m:Nat} {y:Oper}:∀ {l:List Oper} {i0:Nat},mh ops m y i0 l=true→∀ k x,l[k]?=some x→Nat.testBit m (i0+k)=true∨yX ops x y=false
 | [],_,_,k,x,h=>by simp at h
 | z::l,i0,h,0,x,hx=>by
  simp at hx
  subst hx
  unfold mh at h
  rw[Bool.and_eq_true,Bool.or_eq_true] at h
  exact h.1.imp id fun h=>by simpa using h
 | z::l,i0,h,k+1,x,hx=>by
  unfold mh at h
  rw[Bool.and_eq_true] at h
  have:=nN (l:=l) (i0:=Nat.add i0 1) h.2 k x (by simpa using hx)
  have e1:Nat.add i0 1+k=i0+(k+1):=by show i0+1+k=_;omega
  rw[e1] at this
  exact this
theorem qa {ops:Array Oper}:∀ {l pre:List Oper} {ms:List Nat},mF ops pre l ms=true→∀ k o,l[k]?=some o→∀ i x,i<pre.length+k→(pre++l)[i]?=some x→Nat.testBit (ms.getD k 0) i=true∨yX ops x o=false
 | [],_,_,_,k,o,h,_,_,_,_=>by simp at h
 | o::l,pre,[],h,_,_,_,_,_,_,_=>by unfold mF at h;cases h
 | o::l,pre,m::ms,h,0,o',ho,i,x,hi,hx=>by
  simp at ho
  subst ho
  unfold mF at h
  rw[Bool.and_eq_true] at h
  have hx':pre[i]?=some x:=by rw[List.getElem?_append_left (by simpa using hi)] at hx;exact hx
  have:=nN h.1 i x hx'
  simpa using this
 | o::l,pre,m::ms,h,k+1,o',ho,i,x,hi,hx=>by
  unfold mF at h
  rw[Bool.and_eq_true] at h
  have:=qa h.2 k o' (by simpa using ho) i x (by simp;omega) (by simpa using hx)
  simpa using this
theorem ik:∀ {l:List Oper} {j:Nat},jN j l=true→∀ k o,l[k]?=some o→∀ e∈o.after.toList,fa e=true→e.on<j+k
 | [],_,_,k,o,h,_,_,_=>by simp at h
 | x::l,j,h,0,o,ho,e,he,hu=>by
  simp at ho
  subst ho
  unfold jN at h
  rw[Bool.and_eq_true,List.all_eq_true] at h
  have:=h.1 e he
  rw[hu] at this
  simp at this
  exact this
 | x::l,j,h,k+1,o,ho,e,he,hu=>by
  unfold jN at h
  rw[Bool.and_eq_true] at h
  have:=ik h.2 k o (by simpa using ho) e he hu
  have e1:Nat.add j 1+k=j+(k+1):=by show j+1+k=_;omega
  rw[e1] at this
  exact this
theorem oy {ops:Array Oper} {x y:Oper} (h:yX ops x y=false):(∀ d,x.dst=some d→d∉slotsOf ops y∧y.dst≠some d)∧∀ d,y.dst=some d→d∉slotsOf ops x:=by
 unfold yX at h
 rw[Bool.or_eq_false_iff] at h
 refine ⟨fun d hd=>?_,fun d hd hm=>?_⟩
 ·have h1:=h.1
  rw[hd] at h1
  simp only[Bool.or_eq_false_iff] at h1
  refine ⟨fun hm=>?_,fun hy=>?_⟩
  ·rw[kh.2 hm] at h1;cases h1.1
  ·rw[hy] at h1
   have:=h1.2
   simp only[Nat.beq_refl] at this
   cases this
 ·have h2:=h.2
  rw[hd] at h2
  simp only at h2
  rw[kh.2 hm] at h2
  cases h2
theorem Ac {H H':Hp} {l:List Nat} (h:H'.log=l++H.log):vi H H'=l:=by
 unfold vi
 rw[h,List.length_append,Nat.add_sub_cancel,List.take_left']
 rfl
theorem vl {src:PT aO} {n id:Nat}:∀ {l:List Nat} {t:PT aO},(∀ i∈l,i<i+1)→(qy n t src l).get id=if id∈l then iN n id (src.get id) else t.get id
 | [],t,_=>by simp[qy]
 | i::l,t,h=>by
  unfold qy
  rw[vl fun j hj=>h j (List.mem_cons_of_mem _ hj)]
  by_cases hl:id∈l
  ·rw[if_pos hl,if_pos (List.mem_cons_of_mem _ hl)]
  ·rw[if_neg hl,PT.sO _ _ _ _ (h i (List.mem_cons_self ..))]
   by_cases hi:id=i
   ·subst hi;rw[if_pos rfl,if_pos (List.mem_cons_self ..)]
   ·rw[if_neg hi,if_neg fun hh=>(List.mem_cons.1 hh).elim hi hl]
open Classical in
theorem rj {H:Hp} {l:List (AV×Hp)} {t:PT aO} {id:Nat}:(DX H l t).get id=if id<lZ l∧∀ x∈l,iN H.nx id (x.2.t.get id)=iN H.nx id (t.get id) then iN H.nx id (t.get id) else none:=by
 show (qy H.nx .leaf t ((cK 0 (lZ l)).filter (pB H.nx l t))).get id=_
 rw[vl fun i _=>Nat.lt_succ_self i]
 have e:id∈(cK 0 (lZ l)).filter (pB H.nx l t)↔id<lZ l∧∀ x∈l,iN H.nx id (x.2.t.get id)=iN H.nx id (t.get id):=by
  rw[List.mem_filter,kV]
  unfold pB
  rw[decide_eq_true_iff]
  exact ⟨fun h=>⟨by omega,h.2⟩,fun h=>⟨by omega,h.2⟩⟩
 by_cases hc:id<lZ l∧∀ x∈l,iN H.nx id (x.2.t.get id)=iN H.nx id (t.get id)
 ·rw[if_pos hc,if_pos (e.2 hc)]
 ·rw[if_neg hc,if_neg fun h=>hc (e.1 h)];rfl
def Wk (o o':aO):Prop:=o=o'∨o=Vn o'
theorem Wk.ro {o o':aO} (h:Wk o o'):o.lh=o'.lh:=by
 rcases h with rfl|rfl
 ·rfl
 ·cases o' <;> rfl
theorem Wk.gen {o o':aO} {β:Pl} {w:World} {id g:Nat} (h:Wk o o') (hr:fN β w id o') (hg:dH o g):dH o' g:=by
 rcases h with rfl|rfl
 ·exact hg
 ·cases o' with
  | arr c e lo gen=>exact ⟨Nat.le_trans hr.1 hg.1,hg.2⟩
  | oth x=>exact hg
  | ro c=>exact hg
theorem Wk.obj {o o':aO} {β:Pl} {w:World} {id:Nat} (h:Wk o o') (hr:fN β w id o'):fN β w id o:=by
 rcases h with rfl|rfl
 ·exact hr
 ·cases o' with
  | arr c e lo gen=>
   obtain ⟨h1,h2,h3,h4⟩:=hr
   exact ⟨Nat.le_refl _,fun g a b=>h2 g (Nat.le_trans h1 a) b,fun g g' p p' a b c=>h3 g g' p p' (Nat.le_trans h1 a) b c,h4⟩
  | oth x=>exact hr
  | ro c=>exact hr
theorem OU {n id:Nat} {x:Option aO} {o:aO} (h:iN n id x=some o):∃ o',x=some o'∧Wk o o':=by
 unfold iN at h
 split at h
 ·exact ⟨o,h,.inl rfl⟩
 ·cases x with
  | none=>cases h
  | some o'=>exact ⟨o',rfl,.inr (Option.some.inj h).symm⟩
theorem DZ {P:Program} {fn:Func} {tmps:Array Value} {w:World} {us:List Value} (h:(fn.results.toList.mapM (Bq tmps)).run P w=.ok us w):
  (results fn tmps).run P w=.ok (if h:us.toArray.size=1 then us.toArray[0] else .tuple us.toArray) w:=by
 have e:results fn tmps=(do let vs ←fn.results.mapM (Bq tmps);pure (if h:vs.size=1 then vs[0] else .tuple vs)):=by
  unfold results
  congr 1
 rw[e,Array.mapM_eq_mapM_toList]
 simp[h]
section
variable {E:Env} {m:Nat}
theorem Ee (hm:m≤m) {fn:Func} {tmps:Array Value} {R:Ending→World→Prop}:∀ {ids:List Nat} {ds:List Deferred} {β:Pl} {H H2:Hp} {w:World},Rel m β H w→H.nx≤m→lK β ids ds→closeAll H ids=some H2 →
  (∀ w2,Rel m β H2 w2→Ext β H w β H2 w2→LeavesInM Fence.wide 0 E.P fn tmps R [] .returning w2)→LeavesInM Fence.wide 0 E.P fn tmps R ds .returning w
 | [],[],β,H,H2,w,hR,hnx,_,h,hk=>by cases h;exact hk w hR (Ext.refl _ _ _)
 | i::ids,d::ds,β,H,H2,w,hR,hnx,hM,h,hk=>by
  unfold closeAll at h
  split at h
  ·rename_i hg
   obtain ⟨p,hp,rfl⟩:=hM.1
   obtain ⟨q,hq,hw⟩:=hR.obj i _ hg
   rw[hp] at hq;cases hq
   have hw':w.heap[p.b]?=some (.deferred (some [])):=hw
   have hmod:=kz hR hm hnx hg (.dfr false) hp w rfl rfl rfl rfl (.deferred none) (fun w' hw'=>hw')
   refine ⟨by simp,.inl ⟨p.b,{ w with heap:=w.heap.setIfInBounds p.b (.deferred none) },rfl,?_,?_⟩⟩
   ·simp[Instr.takeDeferred,getObj,setObj,Sem.run,hw']
   ·exact Ee hm hmod.1 hnx hM.2 h fun w2 h2 h3=>hk w2 h2 (hmod.2.trans h3)
  ·cases h
 | [],_::_,_,_,_,_,_,_,hM,_,_=>hM.elim
 | _::_,[],_,_,_,_,_,_,hM,_,_=>hM.elim
end
theorem vo {β:Pl} {nt:Nat} (h20:nt≤1048576):∀ (args:List AV) (vs:List Value) (k:Nat) (tm:PT AV) (tmps:Array Value),ARs β args vs→TmR β tm nt tmps→k+vs.length≤nt →
  TmR β (setArgs args k tm) nt ((tmps.toList.take k++vs++tmps.toList.drop (k+vs.length)).toArray)
 | [],[],k,tm,tmps,_,h,_=>by
  show TmR β tm nt _
  simpa using h
 | x::args,v::vs,k,tm,tmps,ha,h,hk=>by
  have hk':k<nt:=by simp at hk;omega
  have ih:=vo h20 args vs (k+1) (tm.set k x) (tmps.setIfInBounds k v) ha.2 (h.put hk' ha.1) (by simp at hk;omega)
  have hsz:=h.1
  have e:=list_seg_step tmps.toList k v vs (by simp at hk ⊢;omega)
  rw[Array.toList_setIfInBounds] at ih
  rw[e] at ih
  have hl:k+1+vs.length=k+(v::vs).length:=by simp;omega
  exact ih
 | [],_::_,_,_,_,ha,_,_=>ha.elim
 | _::_,[],_,_,_,ha,_,_=>ha.elim
theorem LP {β:Pl} {nt:Nat} (h20:nt≤1048576) {args:List AV} {vs:List Value} (ha:ARs β args vs) (hl:args.length≤nt):TmR β (setArgs args 0 .leaf) nt (vs.toArray++Array.replicate (nt - vs.toArray.size) undef):=by
 have h0:TmR β (.leaf:PT AV) nt (Array.replicate nt undef):=by
  refine ⟨by simp,h20,fun t=>?_⟩
  have:(Array.replicate nt undef).getD t undef=undef:=by
   simp only[Array.getD_eq_getD_getElem?,Array.getElem?_replicate]
   split <;> rfl
  rw[this]
  exact pJ β
 have hvl:=ha.length
 have:=vo h20 args vs 0 .leaf (Array.replicate nt undef) ha h0 (by omega)
 have e:((Array.replicate nt undef).toList.take 0++vs++(Array.replicate nt undef).toList.drop (0+vs.length)).toArray=vs.toArray++Array.replicate (nt - vs.toArray.size) undef:=by
  apply Array.ext'
  simp
 rw[e] at this
 exact this
section
variable {E:Env} (hE:vR E) (hD:RI E)
include hE hD
omit hE hD in
theorem vv {m:Nat} {β β1:Pl} {H:Hp} {w w1:World} (hm:m≤m) {fn:Func} {x:aE×ab×Hp} {a1:Act} {e:Exit} (hx:XR x.1 e) (hA:gA β1 x.2.1 a1) (hR:Rel m β1 x.2.2 w1) (hext:Ext β H w β1 x.2.2 w1) (hnx:nE x≤m)
  {o outs:List (AV×Hp)} (ho:ao E fn.results.toList x=.ok o) (hs:∀ y∈o,y∈outs) {R:Ending→World→Prop} (hQ:∀ e w',lT m β H w outs e w'→R e w'):bodyPostM Fence.wide 0 E.P fn R e a1 w1:=by
 have key:∀ {o:List (AV×Hp)},(ay (closeAll x.2.2 x.2.1.dfr) (.bad "marks") fun h2=>ay (bj E.P fn.results.toList x.2.1.tm h2) (.bad "results") fun l=>.ok [(dm l,h2)])=Eng.R.ok o→(∀ y∈o,y∈outs) →
   LeavesInM Fence.wide 0 E.P fn a1.tmps R a1.defers .returning w1:=by
  intro o ho hs
  cases hc:closeAll x.2.2 x.2.1.dfr with
  | none=>rw[hc] at ho;cases ho
  | some h2=>
   rw[hc] at ho
   have ho':ay (bj E.P fn.results.toList x.2.1.tm h2) (.bad "results") (fun l=>Eng.R.ok [(dm l,h2)])=Eng.R.ok o:=ho
   refine Ee hm hR hnx hA.df hc fun w2 hR2 hext2=>?_
   cases hr:bj E.P fn.results.toList x.2.1.tm h2 with
   | none=>rw[hr] at ho';cases ho'
   | some l=>
    rw[hr] at ho'
    cases ho'
    obtain ⟨us,hus,htr⟩:=ya (P:=E.P) hR2 hA.tm.2.2 hr
    exact ⟨_,DZ hus,hQ _ _ ⟨_,rfl,_,hs _ (List.mem_singleton.2 rfl),β1,NT htr,hR2,hext.trans hext2⟩⟩
 unfold ao at ho
 cases hx1:x.1 with
 | normal=>rw[hx1] at ho;rw[hx.normal hx1];exact key ho hs
 | exit i=>rw[hx1] at ho;cases ho
 | ret=>rw[hx1] at ho;rw[hx.ret hx1];exact key ho hs
omit hE hD in
theorem lT.join {m:Nat} {β:Pl} {H:Hp} {w:World} (hR:Rel m β H w) {l:List (AV×Hp)} {e:Ending} {w':World} (h:lT m β H w l e w'):lT m β H w (uM H l) e w':=by
 rcases mo H l with ej|⟨x,hx,hc,ej⟩
 ·rw[ej];exact h
 rw[ej]
 obtain ⟨v,rfl,y,hy,β',hv,hR',hx'⟩:=h
 obtain ⟨hy1,hy2⟩:=hc y hy
 have hmx:=oK hy
 have hle:=hx'.nx
 have hsub:∀ id o,(DX H l x.2.t).get id=some o→∃ o',y.2.get id=some o'∧Wk o o':=fun id o ho=>by
  rw[rj] at ho
  by_cases hh:id<lZ l∧∀ z∈l,iN H.nx id (z.2.t.get id)=iN H.nx id (x.2.t.get id)
  ·rw[if_pos hh] at ho
   exact OU ((hh.2 y hy).trans ho)
  ·rw[if_neg hh] at ho;cases ho
 have hold:∀ id,id<H.nx→(DX H l x.2.t).get id=y.2.get id:=fun id hid=>by
  rw[rj,if_pos ⟨by omega,fun z hz=>congrArg _ ((hc z hz).2 id hid)⟩]
  show (if id<H.nx then x.2.t.get id else _)=_
  rw[if_pos hid]
  exact (hy2 id hid).symm
 refine ⟨v,rfl,_,List.mem_singleton.2 rfl,β',by rw[←hy1];exact hv,⟨fun id o ho=>(let ⟨o',h1,h2⟩:=hsub id o ho;h2.obj (hR'.obj id o' h1)),fun id id' o o' g g' p p' h1 h2 h3 h4 h5 h6 h7=>(by
  obtain ⟨o1,a1,a2⟩:=hsub id o h1
  obtain ⟨o2,b1,b2⟩:=hsub id' o' h2
  rw[a2.ro,b2.ro]
  exact hR'.sep id id' o1 o2 g g' p p' a1 b1 (a2.gen (hR'.obj id o1 a1) h3) (b2.gen (hR'.obj id' o2 b1) h4) h5 h6 h7),fun id hid=>?_,fun id g h1 h2=>hR'.free id g (Nat.le_trans hmx h1) h2⟩,?_⟩
 ·rw[rj,if_neg fun hh=>absurd hh.1 (Nat.not_lt.2 hid)]
 ·refine { sub:=hx'.sub,loc:=fun id g p hp=>?_,size:=hx'.size,os:=hx'.os,tape:=hx'.tape,output:=hx'.output,frame:=hx'.frame,prov:=fun id o g p h1 h2 h3=>(by
        obtain ⟨o1,a1,a2⟩:=hsub id o h1
        rw[a2.ro]
        exact hx'.prov id o1 g p a1 (a2.gen (hR'.obj id o1 a1) h2) h3),nx:=Nat.le_trans hle hmx,
           log:=⟨_,rfl,fun id hid hn=>?_⟩,dom:=fun id o ho=>?_,old:=fun id o ho=>?_,far:=fun l' hl' b hb hn=>?_ }
  ·rcases hx'.loc id g p hp with h1|h1|h1
   ·exact .inl h1
   ·exact .inr (.inl ⟨h1.1,Nat.lt_of_lt_of_le h1.2 hmx⟩)
   ·exact .inr (.inr h1)
  ·rw[hold id hid]
   obtain ⟨l2,e2,f2⟩:=hx'.log
   refine f2 id hid fun hm=>hn ?_
   exact List.mem_flatMap.2 ⟨y,hy,by rw[Ac e2];exact hm⟩
  ·have hid:id<H.nx:=by
    rcases Nat.lt_or_ge id H.nx with hh|hh
    ·exact hh
    ·rw[hR.wf id hh] at ho;cases ho
   obtain ⟨o',ho'⟩:=hx'.dom id o ho
   exact ⟨o',by rw[hold id hid];exact ho'⟩
  ·obtain ⟨o1,a1,a2⟩:=hsub id o ho
   rcases hx'.old id o1 a1 with h1|h1
   ·exact .inl h1
   ·exact .inr ⟨h1.1,Nat.lt_of_lt_of_le h1.2 hmx⟩
  ·obtain ⟨l2,e2,f2⟩:=hx'.log
   have e3:l'=l.flatMap fun z=>vi H z.2:=by
    have:l.flatMap (fun z=>vi H z.2)++H.log=l'++H.log:=hl'
    exact (List.append_cancel_right this).symm
   subst e3
   exact hx'.far l2 e2 b hb fun id o g p hid=>hn id o g p (List.mem_flatMap.2 ⟨y,hy,by rw[Ac e2];exact hid⟩)
theorem MB {N:Nat} {rec:Rec} (hrec:AU E.P N rec) (hmon:RecM rec) {m:Nat} {β:Pl} {H:Hp} {w:World} {f:FuncId} {args:List AV} {vs:List Value} {outs:List (AV×Hp)} (hm:m≤m) (hR:Rel m β H w) (ha:ARs β args vs)
  (h:jv E rec f args H=.ok outs) (hb:∀ x∈outs,nV x≤m):CallsIn Fence.wide 0 E.P f vs.toArray w (lT m β H w outs):=by
 unfold jv QT at h
 cases hf:E.P.funcs[f]? with
 | none=>rw[hf] at h;cases h
 | some fn=>
  cases hb0:fn.body with
  | none=>rw[hf] at h;simp only[hb0] at h;cases h
  | some c=>
   rw[hf] at h
   simp only[hb0] at h
   have h':ifE (both (Nat.ble (oM args) fn.ntmps) (Nat.ble fn.ntmps 1048576)) (sf H (((codeF E c).run rec none ⟨setArgs args 0 .leaf,fn.ntmps,[]⟩ H).bind (ao E fn.results.toList))) (.bad "too many arguments")=R.ok outs:=h
   rw[bV] at h'
   split at h'
   ·rename_i hc
    obtain ⟨l0,hl0,rfl⟩:=EO h'
    replace hb:=Rn hb
    obtain ⟨l,hl,hk⟩:=R.dT hl0
    have hbl:∀ x∈l,nE x≤m:=fun x hx=>by
     obtain ⟨o,ho,hs⟩:=hk x hx
     exact RG.lD (oA (Nat.le_refl _)) ho hs hb
    have htm:=LP (Nat.le_of_ble_eq_true (ah hc).2) ha (Nat.le_of_ble_eq_true (ah hc).1)
    have hA:gA β ⟨setArgs args 0 .leaf,fn.ntmps,[]⟩ { tmps:=vs.toArray++Array.replicate (fn.ntmps - vs.toArray.size) undef,defers:=[] }:=⟨htm,trivial⟩
    refine callsIn_of_wp_marks hf hb0 trivial ?_
    refine Go.wpIn_mono (pF hE hD hrec hmon c (r:=none) (rB:=none) hm hR hA rfl hl hbl).1 fun e a1 w1 hp=>?_
    obtain ⟨x,hx,hxr,β1,hA1,hR1,hext⟩:=hp
    obtain ⟨o,ho,hs⟩:=hk x hx
    exact vv hm hxr hA1 hR1 hext (hbl x hx) ho hs fun _ _ h=>lT.join hR h
   ·cases h'
theorem pd:∀ n,AU E.P n (eval E n)
 | 0=>{ code:=fun _ _ _ _ h=>(by cases h),call:=fun _ _ _ h=>(by cases h) }
 | n+1=>
  { code:=fun {_ _ _ _ _ _ _ _ c _} hm hR hA hr h hb=>pF hE hD (pd n) (kE E n) c hm hR hA hr h hb,
    call:=fun hm hR ha h hb=>MB hE hD (pd n) (kE E n) hm hR ha h hb }
end
structure DS where
 A:ab
 H:Hp
 did:List Did
structure DR where
 ran:Bool
 av:AV
 sub:PT aO
 H':Hp
noncomputable def DR.wr (r:DR) (s:DS):List Nat:=da r.sub s.H.nx r.H'.log
noncomputable def sK (A:ab) (d:Option Tmp) (v:AV):ab:=match d with|none=>A|some d=>A.put d v
structure SB (E:Env) (rec:Rec) (ops:Array Oper) (j:Nat) (o:Oper) (m:Nat) (s s':DS) (r:DR):Prop where
 slot:∀ d,o.dst=some d→d<s.A.nt
 act:s'.A=sK s.A o.dst r.av
 yes:r.ran=true→(∀ y n:R (ab×Hp),bC s.A.tm (gOf ops.toList o.guard) y n=y)∧r.sub=aI s.H.t s.H.nx s.A.tm o (aF m s.did) ∧
  Qe E rec s.A.tm ⟨r.sub,s.H.nx,[]⟩ (aq E.P o)=.ok [(r.av,r.H')]∧ee (aF m s.did) (r.wr s)=true ∧
  s'.H=⟨cR (bh o) s.H r.H' (aF m s.did) (r.wr s),r.H'.nx,r.wr s++s.H.log⟩∧s'.did=note (bh o) j r.sub s.H r.H' s.did (r.wr s)
 no:r.ran=false→(∀ y n:R (ab×Hp),bC s.A.tm (gOf ops.toList o.guard) y n=n)∧r.av=aG∧r.sub=.leaf∧r.H'=⟨.leaf,s.H.nx,[]⟩∧s'.H=s.H∧s'.did=s.did
theorem CQ {tm:PT AV} {g:Option (Option Tmp×Bool)} {yes no:R (ab×Hp)} {outs:List (ab×Hp)} (h:bC tm g yes no=.ok outs):
  ((∀ y n:R (ab×Hp),bC tm g y n=y)∧yes=.ok outs)∨((∀ y n:R (ab×Hp),bC tm g y n=n)∧no=.ok outs):=by
 cases g with
 | none=>exact .inl ⟨fun _ _=>rfl,h⟩
 | some p=>
  obtain ⟨t,w⟩:=p
  cases t with
  | none=>exact .inr ⟨fun _ _=>rfl,h⟩
  | some t=>
   cases hv:tm.get t with
   | none=>
    have e:∀ y n:R (ab×Hp),bC tm (some (some t,w)) y n=n:=fun y n=>by simp[bC,ay,hv]
    exact .inr ⟨e,by rw[e] at h;exact h⟩
   | some v=>
    have e:∀ y n:R (ab×Hp),bC tm (some (some t,w)) y n=AV.rec (motive:=fun _=>R (ab×Hp)) (fun c=>acE c (fun b=>ifE b (ifE w y n) (ifE w n y)) (fun _ _=>n) (fun _=>.bad "guard")) (fun _=>n) (fun _=>n) (.bad "guard") v:=
     fun y n=>by simp[bC,ay,hv]
    rw[e] at h
    cases v with
    | one c=>
     cases c with
     | b b=>cases b <;> cases w <;> first|exact .inl ⟨fun y n=>e y n,h⟩|exact .inr ⟨fun y n=>e y n,h⟩
     | i k n=>exact .inr ⟨fun y n=>e y n,h⟩
     | o q=>cases h
    | agg l=>exact .inr ⟨fun y n=>e y n,h⟩
    | tup l=>exact .inr ⟨fun y n=>e y n,h⟩
    | any=>cases h
theorem vE {a:ab} {dst:Option Tmp} {v:AV} {h:Hp} {k:ab→Hp→R (ab×Hp)} {outs:List (ab×Hp)} (hk:fK a dst v h k=.ok outs):(∀ d,dst=some d→d<a.nt)∧k (sK a dst v) h=.ok outs:=by
 cases dst with
 | none=>exact ⟨fun d hd=>(by cases hd),hk⟩
 | some d=>
  have hk':ifE (Nat.blt d a.nt) (k (a.put d v) h) (.bad "slot")=.ok outs:=hk
  rw[bV] at hk'
  split at hk'
  ·rename_i hd
   exact ⟨fun d' hd'=>by cases hd';exact Nat.le_of_ble_eq_true hd,hk'⟩
  ·cases hk'
theorem GN {E:Env} {rec:Rec} {ops:Array Oper}:∀ (l:List Oper) (j:Nat) (ms:List Nat) (did:List Did) (A:ab) (H:Hp) (outs:List (ab×Hp)),cW E rec (fB E.P ops.toList l) j ms did A H=.ok outs →
  ∃ (S:Nat→DS) (T:Nat→DR),S 0=⟨A,H,did⟩∧(∀ k o,l[k]?=some o→SB E rec ops (j+k) o (ms.getD k 0) (S k) (S (k+1)) (T k))∧outs=[((S l.length).A,(S l.length).H)]
 | [],j,ms,did,A,H,outs,h=>by
  cases h
  exact ⟨fun _=>⟨A,H,did⟩,fun _=>⟨false,aG,.leaf,H⟩,rfl,fun k o h=>by simp at h,rfl⟩
 | o::l,j,[],did,A,H,outs,h=>by cases h
 | o::l,j,m::ms,did,A,H,outs,h=>by
  have h':bC A.tm (gOf ops.toList o.guard)
    (ud (bh o) j A o.dst H (aI H.t H.nx A.tm o (aF m did)) (aF m did) did (cW E rec (fB E.P ops.toList l) (Nat.add j 1) ms) (Qe E rec A.tm ⟨aI H.t H.nx A.tm o (aF m did),H.nx,[]⟩ (aq E.P o)))
    (fK A o.dst aG H (cW E rec (fB E.P ops.toList l) (Nat.add j 1) ms did))=.ok outs:=h
  have e1:∀ k,Nat.add j 1+k=j+(k+1):=fun k=>by show j+1+k=_;omega
  have key:∀ (s':DS) (r:DR),SB E rec ops j o m ⟨A,H,did⟩ s' r→cW E rec (fB E.P ops.toList l) (Nat.add j 1) ms s'.did s'.A s'.H=.ok outs →
    ∃ (S:Nat→DS) (T:Nat→DR),S 0=⟨A,H,did⟩∧(∀ k o',(o::l)[k]?=some o'→SB E rec ops (j+k) o' ((m::ms).getD k 0) (S k) (S (k+1)) (T k))∧outs=[((S (o::l).length).A,(S (o::l).length).H)]:=by
   intro s' r hl hr
   obtain ⟨S,T,h0,h1,h2⟩:=GN l (Nat.add j 1) ms s'.did s'.A s'.H outs hr
   refine ⟨fun k=>match k with|0=>⟨A,H,did⟩|k+1=>S k,fun k=>match k with|0=>r|k+1=>T k,rfl,fun k o' ho=>?_,h2⟩
   cases k with
   | zero=>
    simp at ho
    subst ho
    have:S 0=s':=by rw[h0]
    simpa [this] using hl
   | succ k=>
    have:=h1 k o' (by simpa using ho)
    rw[e1] at this
    simpa using this
  rcases CQ h' with ⟨hw,hy⟩|⟨hw,hn⟩
  ·cases hx:Qe E rec A.tm ⟨aI H.t H.nx A.tm o (aF m did),H.nx,[]⟩ (aq E.P o) with
   | bad s=>rw[hx] at hy;cases hy
   | ok xs=>
    rw[hx] at hy
    cases xs with
    | nil=>cases hy
    | cons x xs=>
     cases xs with
     | cons _ _=>cases hy
     | nil=>
      have hy':ifE (ee (aF m did) (da (aI H.t H.nx A.tm o (aF m did)) H.nx x.2.log))
       (fK A o.dst x.1 ⟨cR (bh o) H x.2 (aF m did) (da (aI H.t H.nx A.tm o (aF m did)) H.nx x.2.log),x.2.nx,da (aI H.t H.nx A.tm o (aF m did)) H.nx x.2.log++H.log⟩
        (cW E rec (fB E.P ops.toList l) (Nat.add j 1) ms (note (bh o) j (aI H.t H.nx A.tm o (aF m did)) H x.2 did (da (aI H.t H.nx A.tm o (aF m did)) H.nx x.2.log))))
       (.bad "draw - two operations that may change places touch one object")=.ok outs:=hy
      rw[bV] at hy'
      split at hy'
      ·rename_i hf
       obtain ⟨hs,hk⟩:=vE hy'
       refine key ⟨sK A o.dst x.1,_,_⟩ ⟨true,x.1,aI H.t H.nx A.tm o (aF m did),x.2⟩ ⟨hs,rfl,fun _=>⟨hw,rfl,?_,hf,rfl,rfl⟩,fun h=>(by cases h)⟩ hk
       exact hx
      ·cases hy'
  ·obtain ⟨hs,hk⟩:=vE hn
   exact key ⟨sK A o.dst aG,H,did⟩ ⟨false,aG,.leaf,⟨.leaf,H.nx,[]⟩⟩ ⟨hs,rfl,fun h=>(by cases h),fun _=>⟨hw,rfl,rfl,rfl,rfl,rfl⟩⟩ hk
structure Er (E:Env) (rec:Rec) (ops:Array Oper) (S:Nat→DS) (T:Nat→DR):Prop where
 first:(S 0).did=[]
 link:∀ k o,ops[k]?=some o→SB E rec ops k o ((dV [] 0 ops.toList).getD k 0) (S k) (S (k+1)) (T k)
 stat:dY ops=true
def dst (ops:Array Oper) (k:Nat):Option Tmp:=match ops[k]? with|some o=>o.dst|none=>none
def mask (ops:Array Oper) (k:Nat):Nat:=(dV [] 0 ops.toList).getD k 0
def dn (S:Nat→DS) (T:Nat→DR) (k id:Nat):Prop:=id∈(T k).wr (S k)∨((S k).H.nx≤id∧id<(T k).H'.nx)
structure Fact (S:Nat→DS) (T:Nat→DR) (k:Nat):Prop where
 dom:∀ id o,(T k).sub.get id=some o→∃ o',(T k).H'.get id=some o'
 old:∀ id o',(T k).H'.get id=some o'→(∃ o,(T k).sub.get id=some o)∨((S k).H.nx≤id∧id<(T k).H'.nx)
 log:∀ id,id<(S k).H.nx→id∉(T k).wr (S k)→(T k).H'.get id=(T k).sub.get id
open Classical in
noncomputable def ovH (S:Nat→DS) (T:Nat→DR) (D:Nat→Prop):Nat→Nat→Option aO
 | 0,id=>(S 0).H.get id
 | k+1,id=>if D k∧dn S T k id then (T k).H'.get id else ovH S T D k id
open Classical in
noncomputable def ovT (ops:Array Oper) (S:Nat→DS) (T:Nat→DR) (D:Nat→Prop):Nat→ab
 | 0=>(S 0).A
 | k+1=>if D k then sK (ovT ops S T D k) (dst ops k) (T k).av else ovT ops S T D k
section
variable {S:Nat→DS} {T:Nat→DR}
theorem sS {D:Nat→Prop} {k id:Nat} (h:D k) (h':dn S T k id):ovH S T D (k+1) id=(T k).H'.get id:=by
 unfold ovH;exact if_pos ⟨h,h'⟩
theorem mJ {D:Nat→Prop} {k id:Nat} (h:D k→¬dn S T k id):ovH S T D (k+1) id=ovH S T D k id:=by
 conv=>lhs;unfold ovH
 exact if_neg fun hh=>h hh.1 hh.2
theorem iY {ops:Array Oper} {D:Nat→Prop} {k:Nat} (h:D k):ovT ops S T D (k+1)=sK (ovT ops S T D k) (dst ops k) (T k).av:=by
 conv=>lhs;unfold ovT
 exact if_pos h
theorem ng {ops:Array Oper} {D:Nat→Prop} {k:Nat} (h:¬D k):ovT ops S T D (k+1)=ovT ops S T D k:=by
 conv=>lhs;unfold ovT
 exact if_neg h
theorem jO {D D':Nat→Prop} {id:Nat}:∀ {n:Nat},(∀ i,i<n→dn S T i id→(D i↔D' i))→ovH S T D n id=ovH S T D' n id
 | 0,_=>rfl
 | n+1,h=>by
  have ih:=jO (D:=D) (D':=D') (id:=id) (n:=n) fun i hi=>h i (by omega)
  by_cases ht:dn S T n id
  ·have:=h n (by omega) ht
   by_cases hd:D n
   ·rw[sS hd ht,sS (this.1 hd) ht]
   ·rw[mJ fun h=>absurd h hd,mJ fun h=>absurd (this.2 h) hd,ih]
  ·rw[mJ fun _=>ht,mJ fun _=>ht,ih]
theorem sN {D:Nat→Prop} {id k:Nat}:∀ {n:Nat},k≤n→(∀ i,k≤i→i<n→D i→¬dn S T i id)→ovH S T D n id=ovH S T D k id
 | 0,hk,_=>by have:k=0:=by omega
              subst this;rfl
 | n+1,hk,h=>by
  by_cases hkn:k=n+1
  ·subst hkn;rfl
  ·rw[mJ fun hd=>h n (by omega) (by omega) hd]
   exact sN (by omega) fun i h1 h2=>h i h1 (by omega)
theorem Tl {D:Nat→Prop} {id j:Nat}:∀ {n:Nat},j<n→(dn S T j id→∀ i,j<i→i<n→D i→¬dn S T i id)→(dn S T j id→ovH S T (fun i=>D i∨i=j) n id=(T j).H'.get id)∧(¬dn S T j id→ovH S T (fun i=>D i∨i=j) n id=ovH S T D n id):=by
 intro n hj h
 refine ⟨fun ht=>?_,fun ht=>?_⟩
 ·rw[sN (k:=j+1) (by omega) fun i h1 h2 hd=>?_]
  ·exact sS (.inr rfl) ht
  ·rcases hd with hd|rfl
   ·exact h ht i (by omega) h2 hd
   ·omega
 ·refine jO fun i hi hti=>?_
  refine ⟨fun hd=>hd.elim (fun h=>h) fun he=>?_,.inl⟩
  subst he
  exact absurd hti ht
variable {ops:Array Oper}
theorem TF (A:ab) (d:Option Tmp) (v:AV):(sK A d v).nt=A.nt:=by cases d <;> rfl
theorem OP (A:ab) (d:Option Tmp) (v:AV):(sK A d v).dfr=A.dfr:=by cases d <;> rfl
theorem jJ {A:ab} {d:Option Tmp} {v:AV} (hd:∀ x,d=some x→x<x+1) (t:Nat):(sK A d v).tm.get t=if d=some t then some v else A.tm.get t:=by
 cases d with
 | none=>simp[sK]
 | some x=>
  show (A.tm.set x v).get t=_
  rw[PT.mD _ _ _ _ (hd x rfl)]
  by_cases h:t=x
  ·subst h;simp
  ·rw[if_neg h,if_neg (by simpa using fun e=>h e.symm)]
theorem Bt {D:Nat→Prop}:∀ n,(ovT ops S T D n).nt=(S 0).A.nt
 | 0=>rfl
 | n+1=>by
  by_cases h:D n
  ·rw[iY h,TF,Bt n]
  ·rw[ng h,Bt n]
theorem Bo {D:Nat→Prop}:∀ n,(ovT ops S T D n).dfr=(S 0).A.dfr
 | 0=>rfl
 | n+1=>by
  by_cases h:D n
  ·rw[iY h,OP,Bo n]
  ·rw[ng h,Bo n]
section
variable (hlt:∀ k x,dst ops k=some x→x<x+1)
include hlt
theorem jP {D D':Nat→Prop} {t:Nat}:∀ {n:Nat},(∀ i,i<n→dst ops i=some t→(D i↔D' i))→(ovT ops S T D n).tm.get t=(ovT ops S T D' n).tm.get t
 | 0,_=>rfl
 | n+1,h=>by
  have ih:=jP (D:=D) (D':=D') (t:=t) (n:=n) fun i hi=>h i (by omega)
  by_cases ht:dst ops n=some t
  ·have:=h n (by omega) ht
   by_cases hd:D n
   ·rw[iY hd,iY (this.1 hd),jJ (hlt n),jJ (hlt n),if_pos ht,if_pos ht]
   ·rw[ng hd,ng fun h=>hd (this.2 h),ih]
  ·have e:∀ (D:Nat→Prop),(ovT ops S T D (n+1)).tm.get t=(ovT ops S T D n).tm.get t:=fun D=>by
    by_cases hd:D n
    ·rw[iY hd,jJ (hlt n),if_neg ht]
    ·rw[ng hd]
   rw[e,e,ih]
theorem tl {D:Nat→Prop} {t k:Nat}:∀ {n:Nat},k≤n→(∀ i,k≤i→i<n→D i→dst ops i≠some t)→(ovT ops S T D n).tm.get t=(ovT ops S T D k).tm.get t
 | 0,hk,_=>by have:k=0:=by omega
              subst this;rfl
 | n+1,hk,h=>by
  by_cases hkn:k=n+1
  ·subst hkn;rfl
  ·have ih:=tl (D:=D) (t:=t) (k:=k) (n:=n) (by omega) fun i h1 h2=>h i h1 (by omega)
   by_cases hd:D n
   ·rw[iY hd,jJ (hlt n),if_neg (h n (by omega) (by omega) hd),ih]
   ·rw[ng hd,ih]
theorem SI {D:Nat→Prop} {j:Nat} {n:Nat} (hj:j<n) (h:∀ t,dst ops j=some t→∀ i,j<i→i<n→D i→dst ops i≠some t) (t:Nat):
  (ovT ops S T (fun i=>D i∨i=j) n).tm.get t=(sK (ovT ops S T D n) (dst ops j) (T j).av).tm.get t:=by
 rw[jJ (hlt j)]
 by_cases ht:dst ops j=some t
 ·rw[if_pos ht,tl hlt (k:=j+1) (by omega) fun i h1 h2 hd=>?_]
  ·rw[iY (.inr rfl),jJ (hlt j),if_pos ht]
  ·rcases hd with hd|rfl
   ·exact h t ht i (by omega) h2 hd
   ·omega
 ·rw[if_neg ht]
  refine jP hlt fun i hi hti=>⟨fun hd=>hd.elim (fun h=>h) fun he=>?_,.inl⟩
  subst he
  exact absurd hti ht
end
end
section
variable {E:Env} {rec:Rec} {ops:Array Oper} {S:Nat→DS} {T:Nat→DR} (hc:Er E rec ops S T) (hmon:RecM rec)
theorem eY {k:Nat} (hk:k<ops.size):∃ o,ops[k]?=some o:=⟨ops[k],by simp[hk]⟩
theorem RU {k:Nat} {o:Oper} (ho:ops[k]?=some o):dst ops k=o.dst:=by unfold dst;rw[ho]
theorem lM {k x:Nat} (h:dst ops k=some x):∃ o,ops[k]?=some o∧o.dst=some x:=by
 unfold dst at h
 split at h
 ·rename_i o ho;exact ⟨o,ho,h⟩
 ·cases h
noncomputable def uf (S:Nat→DS) (T:Nat→DR) (i:Nat):Did:=⟨i,(T i).sub,(S i).H.nx,(T i).H'.nx,(T i).wr (S i)⟩
theorem js {i id:Nat}:bW (uf S T i) id=true↔dn S T i id:=vq
theorem fG {i id:Nat} (h:id∈(T i).wr (S i)):id<(S i).H.nx∧∃ o,(T i).sub.get id=some o:=(iS.1 h).2
include hc
theorem kR {k:Nat} {o:Oper} (ho:ops[k]?=some o) (hr:(T k).ran=false):(T k).sub=.leaf∧(T k).H'=⟨.leaf,(S k).H.nx,[]⟩∧(S (k+1)).H=(S k).H∧(S (k+1)).did=(S k).did:=
 let ⟨_,_,h1,h2,h3,h4⟩:=(hc.link k o ho).no hr
 ⟨h1,h2,h3,h4⟩
theorem jz {k:Nat} {o:Oper} (ho:ops[k]?=some o) (hr:(T k).ran=false) (id:Nat):¬dn S T k id:=by
 obtain ⟨h1,h2,_,_⟩:=kR hc ho hr
 rintro (h|h)
 ·obtain ⟨_,o',h'⟩:=fG h
  rw[h1] at h';cases h'
 ·rw[h2] at h;exact absurd h (by simp)
include hmon
theorem mY {k:Nat} (hk:k<ops.size):(S k).H.nx≤(T k).H'.nx∧(S (k+1)).H.nx=(T k).H'.nx:=by
 obtain ⟨o,ho⟩:=eY hk
 cases hr:(T k).ran with
 | false=>
  obtain ⟨h1,h2,h3,_⟩:=kR hc ho hr
  rw[h2,h3]
  exact ⟨Nat.le_refl _,rfl⟩
 | true=>
  obtain ⟨_,h2,h3,_,h5,_⟩:=(hc.link k o ho).yes hr
  refine ⟨?_,by rw[h5]⟩
  have hn:NM ⟨(T k).sub,(S k).H.nx,[]⟩ ((aq E.P o).run (S k).A.tm ⟨(T k).sub,(S k).H.nx,[]⟩):=Be o
  exact (wF hmon hn _ h3).2 _ (List.mem_singleton.2 rfl)
theorem ia {i:Nat}:∀ {k:Nat},i≤k→k≤ops.size→(S i).H.nx≤(S k).H.nx
 | 0,h,_=>by have:i=0:=by omega
             subst this;exact Nat.le_refl _
 | k+1,h,hk=>by
  by_cases hik:i=k+1
  ·subst hik;exact Nat.le_refl _
  ·have h1:=ia (i:=i) (k:=k) (by omega) (by omega)
   have h2:=mY hc hmon (k:=k) (by omega)
   omega
theorem An {i k:Nat} (h:i<k) (hk:k≤ops.size):(T i).H'.nx≤(S k).H.nx:=by
 rw[←(mY hc hmon (k:=i) (by omega)).2]
 exact ia hc hmon (by omega) hk
theorem pA {i id:Nat} (hi:i<ops.size) (h:dn S T i id):id<(T i).H'.nx:=by
 rcases h with h|h
 ·exact Nat.lt_of_lt_of_le (fG h).1 (mY hc hmon hi).1
 ·exact h.2
omit hmon in
theorem Kd:∀ {k:Nat},k≤ops.size→∀ u∈(S k).did,∃ i,i<k∧(T i).ran=true∧u=uf S T i
 | 0,_,u,hu=>by rw[hc.first] at hu;cases hu
 | k+1,hk,u,hu=>by
  obtain ⟨o,ho⟩:=eY (ops:=ops) (k:=k) (by omega)
  have ih:=fun hu=>Kd (k:=k) (by omega) u hu
  have ih':u∈(S k).did→∃ i,i<k+1∧(T i).ran=true∧u=uf S T i:=fun hu=>by
   obtain ⟨i,h1,h2⟩:=ih hu
   exact ⟨i,by omega,h2⟩
  cases hr:(T k).ran with
  | false=>
   rw[(kR hc ho hr).2.2.2] at hu
   exact ih' hu
  | true=>
   obtain ⟨_,_,_,_,_,h6⟩:=(hc.link k o ho).yes hr
   rw[h6] at hu
   unfold note at hu
   rw[bV] at hu
   split at hu
   ·exact ih' hu
   ·rcases List.mem_cons.1 hu with rfl|hu
    ·exact ⟨k,by omega,hr,rfl⟩
    ·exact ih' hu
omit hmon in
theorem Cc {i:Nat} {o:Oper} (ho:ops[i]?=some o) (hr:(T i).ran=true) (hn:bh o≠0∨(S i).H.nx≠(T i).H'.nx):∀ {k:Nat},i<k→k≤ops.size→uf S T i∈(S k).did
 | 0,h,_=>by omega
 | k+1,h,hk=>by
  by_cases hik:i=k
  ·subst hik
   obtain ⟨_,_,_,_,_,h6⟩:=(hc.link i o ho).yes hr
   rw[h6]
   unfold note
   rw[bV,if_neg]
   ·exact List.mem_cons_self ..
   ·rw[cO,Bool.and_eq_true]
    rintro ⟨h1,h2⟩
    have h1':=Nat.eq_of_beq_eq_true h1
    have h2':=Nat.eq_of_beq_eq_true h2
    exact hn.elim (fun h=>h h1') fun h=>h h2'
  ·have ih:=Cc ho hr hn (k:=k) (by omega) (by omega)
   obtain ⟨o',ho'⟩:=eY (ops:=ops) (k:=k) (by omega)
   cases hr':(T k).ran with
   | false=>rw[(kR hc ho' hr').2.2.2];exact ih
   | true=>
    obtain ⟨_,_,_,_,_,h6⟩:=(hc.link k o' ho').yes hr'
    rw[h6]
    unfold note
    rw[bV]
    split
    ·exact ih
    ·exact List.mem_cons_of_mem _ ih
variable (hbig:(S ops.size).H.nx≤(S ops.size).H.nx)
include hbig
theorem fS {k:Nat} (hk:k≤ops.size) {u:Did} (hu:u∈(S k).did):u.c0≤u.c1∧∀ id,bW u id=true→id<(S k).H.nx∧id<id+1:=by
 have _hb:=hbig
 obtain ⟨i,hi,_,rfl⟩:=Kd hc hk u hu
 refine ⟨(mY hc hmon (k:=i) (by omega)).1,fun id ht=>?_⟩
 have h1:=pA hc hmon (i:=i) (by omega) (js.1 ht)
 have h2:=An hc hmon hi hk
 have h3:=ia hc hmon hk (Nat.le_refl _)
 omega
theorem gy {k:Nat} (hk:k<ops.size) {o:Oper} (ho:ops[k]?=some o) {id:Nat} {x:aO} (h:(T k).sub.get id=some x):
  (T k).ran=true∧bh o≠0∧(S k).H.get id=some x∧∀ u∈aF (mask ops k) (S k).did,bW u id=false:=by
 cases hr:(T k).ran with
 | false=>
  rw[(kR hc ho hr).1] at h
  cases h
 | true=>
  obtain ⟨_,h2,_⟩:=(hc.link k o ho).yes hr
  have h2':(T k).sub=aI (S k).H.t (S k).H.nx (S k).A.tm o (aF (mask ops k) (S k).did):=h2
  rw[h2'] at h
  refine ⟨rfl,?_⟩
  have hnx:(S k).H.nx≤(S k).H.nx:=Nat.le_refl _
  unfold aI at h
  split at h
  ·cases h
  ·rename_i hl
   rw[iB] at h
   ·split at h
    ·rename_i hm
     rw[List.mem_filter,Bool.and_eq_true] at hm
     refine ⟨by rw[hl];decide,h,fun u hu=>?_⟩
     have:=hm.2.2
     simp only[Bool.not_eq_true',List.any_eq_false,Bool.not_eq_true] at this
     exact this u hu
    ·cases h
   ·intro i hi
    rw[List.mem_filter,Bool.and_eq_true] at hi
    have:i<(S k).H.nx:=Nat.le_of_ble_eq_true hi.2.1
    omega
  ·rename_i hl1 hl2
   have hmem:∀ i,i∈(aF (mask ops k) (S k).did).flatMap dq→∃ u∈aF (mask ops k) (S k).did,bW u i=true:=fun i hi=>by
    obtain ⟨u,hu,hi⟩:=List.mem_flatMap.1 hi
    exact ⟨u,hu,(oI (fS hc hmon hbig (by omega) (cL.1 hu).1).1).1 hi⟩
   rw[nZ] at h
   ·split at h
    ·cases h
    ·rename_i hm
     refine ⟨fun h0=>hl1 h0,h,fun u hu=>?_⟩
     cases htu:bW u id with
     | false=>rfl
     | true=>
      exact absurd (List.mem_flatMap.2 ⟨u,hu,(oI (fS hc hmon hbig (by omega) (cL.1 hu).1).1).2 htu⟩) hm
   ·intro i hi
    obtain ⟨u,hu,ht⟩:=hmem i hi
    exact ((fS hc hmon hbig (k:=k) (by omega) (cL.1 hu).1).2 i ht).2
theorem GM {k:Nat} (hk:k<ops.size) (hf:Fact S T k) (hwf:∀ id,(S k).H.nx≤id→(S k).H.get id=none) (id:Nat):
  (dn S T k id→(S (k+1)).H.get id=(T k).H'.get id)∧(¬dn S T k id→(S (k+1)).H.get id=(S k).H.get id):=by
 obtain ⟨o,ho⟩:=eY hk
 cases hr:(T k).ran with
 | false=>
  refine ⟨fun h=>absurd h (jz hc ho hr id),fun _=>?_⟩
  rw[(kR hc ho hr).2.2.1]
 | true=>
  have hnx:(T k).H'.nx≤(T k).H'.nx:=Nat.le_refl _
  have hle:=(mY hc hmon hk).1
  obtain ⟨_,h2,_,h4,h5,_⟩:=(hc.link k o ho).yes hr
  have hrange:∀ i,i∈cK (S k).H.nx (Nat.sub (T k).H'.nx (S k).H.nx)↔(S k).H.nx≤i∧i<(T k).H'.nx:=fun i=>by
   rw[kV]
   have e:(S k).H.nx+Nat.sub (T k).H'.nx (S k).H.nx=(T k).H'.nx:=by
    show (S k).H.nx+((T k).H'.nx - (S k).H.nx)=_
    omega
   rw[e]
  have e:(S (k+1)).H.get id=(cR (bh o) (S k).H (T k).H' (aF (mask ops k) (S k).did) ((T k).wr (S k))).get id:=by rw[h5];rfl
  rw[e]
  have hwr:∀ i∈(T k).wr (S k),i<i+1:=fun i hi=>by have:=(fG hi).1;omega
  have hrl:∀ i∈cK (S k).H.nx (Nat.sub (T k).H'.nx (S k).H.nx),i<i+1:=fun i hi=>by have:=(hrange i).1 hi;omega
  cases hl:bh o with
  | zero=>
   show (dn S T k id→(cr (S k).H.t (T k).H'.t (cK (S k).H.nx (Nat.sub (T k).H'.nx (S k).H.nx))).get id=_)∧(_→(cr (S k).H.t (T k).H'.t (cK (S k).H.nx (Nat.sub (T k).H'.nx (S k).H.nx))).get id=_)
   rw[iB hrl]
   have hnw:id∉(T k).wr (S k):=fun h=>by
    obtain ⟨_,x,hx⟩:=fG h
    exact (gy hc hmon hbig hk ho hx).2.1 hl
   refine ⟨fun h=>?_,fun h=>?_⟩
   ·rw[if_pos ((hrange id).2 (h.resolve_left hnw))];rfl
   ·rw[if_neg fun hh=>h (.inr ((hrange id).1 hh))];rfl
  | succ l=>
   cases l with
   | zero=>
    show (dn S T k id→(cr (S k).H.t (T k).H'.t ((T k).wr (S k)++cK (S k).H.nx (Nat.sub (T k).H'.nx (S k).H.nx))).get id=_)∧(_→(cr (S k).H.t (T k).H'.t ((T k).wr (S k)++cK (S k).H.nx (Nat.sub (T k).H'.nx (S k).H.nx))).get id=_)
    rw[iB fun i hi=>(List.mem_append.1 hi).elim (hwr i) (hrl i)]
    refine ⟨fun h=>?_,fun h=>?_⟩
    ·rw[if_pos (List.mem_append.2 (h.imp_right (hrange id).2))];rfl
    ·rw[if_neg fun hh=>h ((List.mem_append.1 hh).imp_right (hrange id).1)];rfl
   | succ l=>
    show (dn S T k id→(cr (T k).H'.t (S k).H.t ((aF (mask ops k) (S k).did).flatMap dq)).get id=_)∧(_→(cr (T k).H'.t (S k).H.t ((aF (mask ops k) (S k).did).flatMap dq)).get id=_)
    have hmem:∀ i,i∈(aF (mask ops k) (S k).did).flatMap dq→∃ u∈aF (mask ops k) (S k).did,bW u i=true:=fun i hi=>by
     obtain ⟨u,hu,hi⟩:=List.mem_flatMap.1 hi
     exact ⟨u,hu,(oI (fS hc hmon hbig (by omega) (cL.1 hu).1).1).1 hi⟩
    rw[iB fun i hi=>by
     obtain ⟨u,hu,ht⟩:=hmem i hi
     exact ((fS hc hmon hbig (k:=k) (by omega) (cL.1 hu).1).2 i ht).2]
    refine ⟨fun h=>?_,fun h=>?_⟩
    ·rw[if_neg fun hh=>?_]
     ·rfl
     ·obtain ⟨u,hu,ht⟩:=hmem id hh
      rcases h with h|h
      ·obtain ⟨_,x,hx⟩:=fG h
       have:=(gy hc hmon hbig hk ho hx).2.2.2 u hu
       rw[ht] at this;cases this
      ·have:=((fS hc hmon hbig (k:=k) (by omega) (cL.1 hu).1).2 id ht).1
       omega
    ·by_cases hm:id∈(aF (mask ops k) (S k).did).flatMap dq
     ·rw[if_pos hm];rfl
     ·rw[if_neg hm]
      show (T k).H'.get id=_
      by_cases hid:id<(S k).H.nx
      ·rw[hf.log id hid fun hh=>h (.inl hh)]
       have h2':(T k).sub=aI (S k).H.t (S k).H.nx (S k).A.tm o (aF (mask ops k) (S k).did):=h2
       have e2:(T k).sub=jm (S k).H.t ((aF (mask ops k) (S k).did).flatMap dq):=by
        rw[h2']
        unfold aI
        rw[hl]
        rfl
       rw[e2,nZ fun i hi=>by
        obtain ⟨u,hu,ht⟩:=hmem i hi
        exact ((fS hc hmon hbig (k:=k) (by omega) (cL.1 hu).1).2 i ht).2]
       rw[if_neg hm]
       rfl
      ·rw[hwf id (by omega)]
       cases hg:(T k).H'.get id with
       | none=>rfl
       | some x=>
        rcases hf.old id x hg with ⟨y,hy⟩|hh
        ·have:=(gy hc hmon hbig hk ho hy).2.2.1
         rw[hwf id (by omega)] at this;cases this
        ·exact absurd (.inr hh) h
theorem law {h0:∀ id,(S 0).H.nx≤id→(S 0).H.get id=none}:∀ {k:Nat},k≤ops.size→(∀ i,i<k→Fact S T i) →
  (∀ id,(S k).H.nx≤id→(S k).H.get id=none)∧∀ id,(S k).H.get id=ovH S T (fun _=>True) k id
 | 0,_,_=>⟨h0,fun _=>rfl⟩
 | k+1,hk,hf=>by
  obtain ⟨hw,hl⟩:=law (h0:=h0) (k:=k) (by omega) fun i hi=>hf i (by omega)
  have hs:=GM hc hmon hbig (k:=k) (by omega) (hf k (by omega)) hw
  have hn:=mY hc hmon (k:=k) (by omega)
  refine ⟨fun id hid=>?_,fun id=>?_⟩
  ·rw[(hs id).2 fun ht=>?_]
   ·exact hw id (by omega)
   ·have:=pA hc hmon (by omega) ht
    omega
  ·by_cases ht:dn S T k id
   ·rw[(hs id).1 ht,sS trivial ht]
   ·rw[(hs id).2 ht,hl,mJ fun _=>ht]
variable {D:Nat→Prop}
omit hc hmon hbig in
theorem mV (he:∀ i o,ops[i]?=some o→D i→∀ e∈o.after.toList,fa e=true→D e.on):∀ (k i:Nat),i<k→i<ops.size→D i→∀ b,Nat.testBit (mask ops i) b=true→D b
 | 0,i,h,_,_,_,_=>by omega
 | k+1,i,h,hi,hd,b,hb=>by
  obtain ⟨o,ho⟩:=eY hi
  have hb':Nat.testBit ((dV [] 0 ops.toList).getD (0+i) 0) b=true:=by rw[Nat.zero_add];exact hb
  obtain ⟨e,he1,hu,hlt,hor⟩:=oJ ops.toList [] 0 rfl i o (by simpa using ho) b hb'
  have hde:=he i o ho hd e he1 hu
  rcases hor with rfl|hor
  ·exact hde
  ·exact mV he k e.on (by omega) (by omega) hde b hor
omit hc hmon hbig in
theorem Em (he:∀ i o,ops[i]?=some o→D i→∀ e∈o.after.toList,fa e=true→D e.on) {j:Nat} {o:Oper} (ho:ops[j]?=some o) (hj:∀ e∈o.after.toList,fa e=true→D e.on) (b:Nat) (hb:Nat.testBit (mask ops j) b=true):D b:=by
 have hlt:j<ops.size:=getElem?_lt' ho
 have hb':Nat.testBit ((dV [] 0 ops.toList).getD (0+j) 0) b=true:=by rw[Nat.zero_add];exact hb
 obtain ⟨e,he1,hu,hl,hor⟩:=oJ ops.toList [] 0 rfl j o (by simpa using ho) b hb'
 have hde:=hj e he1 hu
 rcases hor with rfl|hor
 ·exact hde
 ·exact mV he (e.on+1) e.on (by omega) (by omega) hde b hor
where getElem?_lt' {j:Nat} {o:Oper} (h:ops[j]?=some o):j<ops.size:=(Array.getElem?_eq_some_iff.1 h).1
omit hmon hbig in
theorem tq {i j:Nat} (hij:i<j) {x y:Oper} (hx:ops[i]?=some x) (hy:ops[j]?=some y) (hb:Nat.testBit (mask ops j) i=false):yX ops x y=false:=by
 have hs:=hc.stat
 unfold dY at hs
 rw[Bool.and_eq_true] at hs
 have:=qa (pre:=[]) hs.1 j y (by simpa using hy) i x (by simpa using hij) (by simpa using hx)
 exact this.resolve_left fun h=>by rw[show (dV [] 0 ops.toList).getD j 0=mask ops j from rfl,hb] at h;cases h
variable (hcl:∀ i,i<ops.size→D i→∀ b,Nat.testBit (mask ops i) b=true→D b) {j:Nat} (hj:j<ops.size) (hnd:¬D j)
include hcl hj hnd
theorem UQ (id:Nat) (ht:dn S T j id) (i:Nat) (hji:j<i) (hi:i<ops.size) (hd:D i):¬dn S T i id:=by
 intro hti
 obtain ⟨o,ho⟩:=eY hj
 obtain ⟨oi,hoi⟩:=eY hi
 have hbit:Nat.testBit (mask ops i) j=false:=by
  cases h:Nat.testBit (mask ops i) j with
  | false=>rfl
  | true=>exact absurd (hcl i hi hd j h) hnd
 have hran:(T j).ran=true:=by
  cases h:(T j).ran with
  | false=>exact absurd ht (jz hc ho h id)
  | true=>rfl
 have hrani:(T i).ran=true:=by
  cases h:(T i).ran with
  | false=>exact absurd hti (jz hc hoi h id)
  | true=>rfl
 have hnote:bh o≠0∨(S j).H.nx≠(T j).H'.nx:=by
  rcases ht with ht|ht
  ·obtain ⟨_,x,hx⟩:=fG ht
   exact .inl (gy hc hmon hbig hj ho hx).2.1
  ·exact .inr (by omega)
 have hmem:uf S T j∈aF (mask ops i) (S i).did:=cL.2 ⟨Cc hc ho hran hnote hji (by omega),hbit⟩
 rcases hti with hti|hti
 ·obtain ⟨_,x,hx⟩:=fG hti
  have:=(gy hc hmon hbig hi hoi hx).2.2.2 _ hmem
  rw[js.2 ht] at this;cases this
 ·have h1:=pA hc hmon hj ht
  have h2:=An hc hmon hji (k:=i) (by omega)
  omega
omit hmon hbig hj in
theorem UO (t:Nat) (ht:dst ops j=some t) (i:Nat) (hji:j<i) (hi:i<ops.size) (hd:D i):dst ops i≠some t:=by
 intro hti
 obtain ⟨o,ho,hot⟩:=lM ht
 obtain ⟨oi,hoi,hoit⟩:=lM hti
 have hbit:Nat.testBit (mask ops i) j=false:=by
  cases h:Nat.testBit (mask ops i) j with
  | false=>rfl
  | true=>exact absurd (hcl i hi hd j h) hnd
 exact ((oy (tq hc hji ho hoi hbit)).1 t hot).2 hoit
variable (hp:∀ b,Nat.testBit (mask ops j) b=true→D b)
include hp
theorem Sq {h0:∀ id,(S 0).H.nx≤id→(S 0).H.get id=none} (hf:∀ i,i<j→Fact S T i) (id:Nat) (x:aO) (h:(T j).sub.get id=some x):ovH S T D ops.size id=some x:=by
 obtain ⟨o,ho⟩:=eY hj
 obtain ⟨hran,hlk,hg,hun⟩:=gy hc hmon hbig hj ho h
 obtain ⟨hwf,hlaw⟩:=law hc hmon hbig (h0:=h0) (k:=j) (by omega) hf
 have hid:id<(S j).H.nx:=by
  rcases Nat.lt_or_ge id (S j).H.nx with hh|hh
  ·exact hh
  ·rw[hwf id hh] at hg;cases hg
 have e:ovH S T D ops.size id=ovH S T (fun i=>i<j) ops.size id:=by
  refine jO fun i hi hti=>⟨fun hd=>?_,fun hij=>?_⟩
  ·rcases Nat.lt_or_ge i j with hh|hh
   ·exact hh
   ·exfalso
    have hne:i≠j:=fun e=>hnd (e ▸ hd)
    have hji:j<i:=by omega
    obtain ⟨oi,hoi⟩:=eY hi
    have hbit:Nat.testBit (mask ops i) j=false:=by
     cases h:Nat.testBit (mask ops i) j with
     | false=>rfl
     | true=>exact absurd (hcl i hi hd j h) hnd
    have hrani:(T i).ran=true:=by
     cases h:(T i).ran with
     | false=>exact absurd hti (jz hc hoi h id)
     | true=>rfl
    have hmem:uf S T j∈aF (mask ops i) (S i).did:=cL.2 ⟨Cc hc ho hran (.inl hlk) hji (by omega),hbit⟩
    rcases hti with hti|hti
    ·obtain ⟨_,_,_,h4,_⟩:=(hc.link i oi hoi).yes hrani
     have:=qh h4 _ hmem id hti
     have h':(uf S T j).hin.get id=some x:=h
     rw[h'] at this;cases this
    ·have h2:=ia hc hmon (i:=j) (k:=i) (by omega) (by omega)
     omega
  ·obtain ⟨oi,hoi⟩:=eY hi
   have hrani:(T i).ran=true:=by
    cases h:(T i).ran with
    | false=>exact absurd hti (jz hc hoi h id)
    | true=>rfl
   cases hb:Nat.testBit (mask ops j) i with
   | true=>exact hp i hb
   | false=>
    exfalso
    have hnote:bh oi≠0∨(S i).H.nx≠(T i).H'.nx:=by
     rcases hti with ht|ht
     ·obtain ⟨_,x,hx⟩:=fG ht
      exact .inl (gy hc hmon hbig hi hoi hx).2.1
     ·exact .inr (by omega)
    have:=hun _ (cL.2 ⟨Cc hc hoi hrani hnote hij (by omega),hb⟩)
    rw[js.2 hti] at this;cases this
 rw[e,sN (k:=j) (by omega) fun i h1 _ h2=>absurd h2 (by omega),←hg,hlaw]
 exact jO fun i hi _=>⟨fun _=>trivial,fun _=>hi⟩
end
section
variable {E:Env} {rec:Rec} {ops:Array Oper} {S:Nat→DS} {T:Nat→DR} (hc:Er E rec ops S T)
include hc
theorem BS:∀ {k:Nat},k≤ops.size→(S k).A=ovT ops S T (fun _=>True) k
 | 0,_=>rfl
 | k+1,hk=>by
  obtain ⟨o,ho⟩:=eY (ops:=ops) (k:=k) (by omega)
  rw[iY trivial,(hc.link k o ho).act,BS (k:=k) (by omega),RU ho]
theorem UD {k x:Nat} (h:dst ops k=some x):x<(S 0).A.nt:=by
 obtain ⟨o,ho,hx⟩:=lM h
 have hlt:k<ops.size:=(Array.getElem?_eq_some_iff.1 ho).1
 have:=(hc.link k o ho).slot x hx
 rw[BS hc (k:=k) (by omega),Bt] at this
 exact this
theorem TH (hnt:(S 0).A.nt≤1048576) {D:Nat→Prop} (hcl:∀ i,i<ops.size→D i→∀ b,Nat.testBit (mask ops i) b=true→D b) {j:Nat} (hj:j<ops.size) (hnd:¬D j) (hp:∀ b,Nat.testBit (mask ops j) b=true→D b)
  {o:Oper} (ho:ops[j]?=some o) {t:Nat} (ht:t∈slotsOf ops o):(ovT ops S T D ops.size).tm.get t=(S j).A.tm.get t:=by
 have hlt:∀ k x,dst ops k=some x→x<x+1:=fun k x h=>Nat.lt_succ_self _
 have e:(ovT ops S T D ops.size).tm.get t=(ovT ops S T (fun i=>i<j) ops.size).tm.get t:=by
  refine jP hlt fun i hi hti=>⟨fun hd=>?_,fun hij=>?_⟩
  ·rcases Nat.lt_or_ge i j with hh|hh
   ·exact hh
   ·exfalso
    have hne:i≠j:=fun e=>hnd (e ▸ hd)
    have hji:j<i:=by omega
    obtain ⟨oi,hoi,hoit⟩:=lM hti
    have hbit:Nat.testBit (mask ops i) j=false:=by
     cases h:Nat.testBit (mask ops i) j with
     | false=>rfl
     | true=>exact absurd (hcl i hi hd j h) hnd
    exact (oy (tq hc hji ho hoi hbit)).2 t hoit ht
  ·obtain ⟨oi,hoi,hoit⟩:=lM hti
   cases hb:Nat.testBit (mask ops j) i with
   | true=>exact hp i hb
   | false=>exact absurd ht ((oy (tq hc hij hoi ho hb)).1 t hoit).1
 rw[e,tl hlt (k:=j) (by omega) fun i h1 _ h2=>absurd h2 (by omega),BS hc (k:=j) (by omega)]
 exact jP hlt fun i hi _=>⟨fun _=>trivial,fun _=>hi⟩
omit hc in
theorem QW {tm tm':PT AV} {x:Operand} (h:∀ t,x=.tmp t→tm.get t=tm'.get t):ev tm x=ev tm' x:=by
 cases x with
 | tmp t=>
  show ay (tm.get t) aG (fun v=>v)=ay (tm'.get t) aG (fun v=>v)
  rw[h t rfl]
 | _=>rfl
omit hc in
theorem Ga {tm tm':PT AV} {o:Oper} (h:∀ t∈slotsOf ops o,tm.get t=tm'.get t) (y n:R (ab×Hp)):bC tm (gOf ops.toList o.guard) y n=bC tm' (gOf ops.toList o.guard) y n:=by
 cases hg:o.guard with
 | none=>rfl
 | some p=>
  obtain ⟨q,w⟩:=p
  unfold gOf
  simp only[Array.getElem?_toList]
  cases hq:ops[q]? with
  | none=>rfl
  | some oq=>
   cases hd:oq.dst with
   | none=>simp only[hd];rfl
   | some t=>
    have ht:t∈slotsOf ops o:=by
     unfold slotsOf
     refine List.mem_append_right _ ?_
     rw[hg]
     unfold zV
     simp[hq,hd]
    simp only[hd]
    unfold bC
    simp only[Ao]
    rw[h t ht]
end
theorem TmR.ext {β:Pl} {tm tm':PT AV} {nt:Nat} {tmps:Array Value} (h:TmR β tm nt tmps) (he:∀ t,tm'.get t=tm.get t):TmR β tm' nt tmps:=
 ⟨h.1,h.2.1,fun t=>by rw[he];exact h.2.2 t⟩
theorem fN.has {β:Pl} {w:World} {id:Nat} {o:aO} (h:fN β w id o):∃ g p,β id g=some p:=by
 cases o with
 | arr cells e lo gen=>
  obtain ⟨p,hp,_⟩:=h.2.1 lo (Nat.le_refl _) h.1
  exact ⟨lo,p,hp⟩
 | oth x=>
  obtain ⟨p,hp,_⟩:=h
  exact ⟨0,p,hp⟩
 | ro x=>
  obtain ⟨p,hp,_⟩:=h
  exact ⟨0,p,hp⟩
structure St (ops:Array Oper) (S:Nat→DS) (T:Nat→DR) (m:Nat) (β0:Pl) (w0:World) (D:Nat→Prop) (β:Pl) (a:Act) (w:World):Prop where
 tm:TmR β (ovT ops S T D ops.size).tm (S 0).A.nt a.tmps
 df:lK β (S 0).A.dfr a.defers
 obj:∀ id o,ovH S T D ops.size id=some o→fN β w id o
 sep:∀ id id' o o' g g' p p',ovH S T D ops.size id=some o→ovH S T D ops.size id'=some o'→dH o g→dH o' g'→β id g=some p→β id' g'=some p'→p.b=p'.b→id=id'∨(o.lh=true∧o'.lh=true)
 fresh:∀ j,j<ops.size→¬D j→∀ id g,(S j).H.nx≤id→id<(T j).H'.nx→β id g=none
 free:∀ id g,(S ops.size).H.nx≤id→id<m→β id g=none
 sub:Sub β0 β
 loc:∀ id g p,β id g=some p→β0 id g=some p∨((S 0).H.nx≤id∧id<(S ops.size).H.nx)∨∃ o,(S 0).H.get id=some o
 size:w0.heap.size≤w.heap.size
 os:w.os=w0.os
 tape:w.tape=w0.tape
 output:w.output=w0.output
 frame:∀ b,b<w0.heap.size→(∀ id o g p,(S 0).H.get id=some o→SL o g→β0 id g=some p→p.b≠b)→w.heap[b]?=w0.heap[b]?
 prov:∀ id o g p,ovH S T D ops.size id=some o→dH o g→β id g=some p→w0.heap.size≤p.b∨∃ o0 g0 p0,(S 0).H.get id=some o0∧dH o0 g0∧β0 id g0=some p0∧p0.b=p.b∧o0.lh=o.lh
 dom:∀ id o,(S 0).H.get id=some o→∃ o',ovH S T D ops.size id=some o'
 old:∀ id o,ovH S T D ops.size id=some o→(∃ o,(S 0).H.get id=some o)∨((S 0).H.nx≤id∧id<(S ops.size).H.nx)
 far:∀ b,b<w0.heap.size→(∀ id o g p,(∃ i,i<ops.size∧D i∧id∈(T i).wr (S i))→(S 0).H.get id=some o→SL o g→β0 id g=some p→p.b≠b)→w.heap[b]?=w0.heap[b]?
theorem St.congr {ops:Array Oper} {S:Nat→DS} {T:Nat→DR} {m:Nat} {β0:Pl} {w0:World} {D D':Nat→Prop} {β:Pl} {a:Act} {w:World} (h:St ops S T m β0 w0 D β a w) (hlt:∀ k x,dst ops k=some x→x<x+1)
  (hd:∀ i,i<ops.size→(D i↔D' i)):St ops S T m β0 w0 D' β a w:=by
 have e:∀ id,ovH S T D' ops.size id=ovH S T D ops.size id:=fun id=>jO fun i hi _=>(hd i hi).symm
 have e':∀ t,(ovT ops S T D' ops.size).tm.get t=(ovT ops S T D ops.size).tm.get t:=fun t=>jP hlt fun i hi _=>(hd i hi).symm
 exact { tm:=h.tm.ext e',df:=h.df,obj:=fun id o ho=>h.obj id o (by rw[←e];exact ho),sep:=fun id id' o o' g g' p p' h1 h2=>h.sep id id' o o' g g' p p' (by rw[←e];exact h1) (by rw[←e];exact h2),
         fresh:=fun j hj hn=>h.fresh j hj fun hh=>hn ((hd j hj).1 hh),free:=h.free,sub:=h.sub,loc:=h.loc,size:=h.size,os:=h.os,tape:=h.tape,output:=h.output,frame:=h.frame,
         prov:=fun id o g p h1=>h.prov id o g p (by rw[←e];exact h1),dom:=fun id o ho=>by rw[e];exact h.dom id o ho,old:=fun id o ho=>h.old id o (by rw[←e];exact ho),
         far:=fun b hb hn=>h.far b hb fun id o g p ⟨i,h1,h2,h3⟩=>hn id o g p ⟨i,h1,(hd i h1).1 h2,h3⟩ }
section
variable {E:Env} {rec:Rec} {ops:Array Oper} {S:Nat→DS} {T:Nat→DR} (hc:Er E rec ops S T) (hmon:RecM rec) (hbig:(S ops.size).H.nx≤(S ops.size).H.nx)
variable {m:Nat} {β0:Pl} {w0:World} {D:Nat→Prop} {β:Pl} {a:Act} {w:World}
theorem St.rel (h:St ops S T m β0 w0 D β a w) {j:Nat} (hj:j<ops.size) (hnd:¬D j) (hag:∀ id x,(T j).sub.get id=some x→ovH S T D ops.size id=some x) (hwf:∀ id x,(T j).sub.get id=some x→id<(S j).H.nx):
  Rel (T j).H'.nx β ⟨(T j).sub,(S j).H.nx,[]⟩ w where
 obj:=fun id o ho=>h.obj id o (hag id o ho)
 sep:=fun id id' o o' g g' p p' h1 h2=>h.sep id id' o o' g g' p p' (hag id o h1) (hag id' o' h2)
 wf:=fun id hid=>by
  cases hg:(T j).sub.get id with
  | none=>exact hg
  | some x=>exact absurd (hwf id x hg) (by have:(S j).H.nx≤id:=hid;omega)
 free:=fun id g h1 h2=>h.fresh j hj hnd id g h1 h2
theorem Fact.of {j:Nat} {β β':Pl} {w w':World} (hx:Ext β ⟨(T j).sub,(S j).H.nx,[]⟩ w β' (T j).H' w'):Fact S T j where
 dom:=fun id o ho=>hx.dom id o ho
 old:=fun id o ho=>hx.old id o ho
 log:=fun id hid hn=>by
  obtain ⟨l,hl,hg⟩:=hx.log
  have hl':(T j).H'.log=l:=by rw[hl];simp
  by_cases hm:id∈l
  ·cases hs:(T j).sub.get id with
   | some x=>exact absurd (iS.2 ⟨by rw[hl'];exact hm,hid,x,hs⟩) hn
   | none=>
    cases hg':(T j).H'.get id with
    | none=>rfl
    | some y=>
     rcases hx.old id y hg' with ⟨z,hz⟩|hz
     ·have:(T j).sub.get id=some z:=hz
      rw[hs] at this;cases this
     ·have:(S j).H.nx≤id:=hz.1
      omega
  ·exact hg id hid hm
include hc hmon
theorem St.step (hnt:(S 0).A.nt≤1048576) (h:St ops S T m β0 w0 D β a w) {j:Nat} (hj:j<ops.size) (hnd:¬D j) (hag:∀ id x,(T j).sub.get id=some x→ovH S T D ops.size id=some x) (hwf:∀ id x,(T j).sub.get id=some x→id<(S j).H.nx)
  (hcoH:∀ id,dn S T j id→∀ i,j<i→i<ops.size→D i→¬dn S T i id) (hcoT:∀ t,dst ops j=some t→∀ i,j<i→i<ops.size→D i→dst ops i≠some t)
  {v:Value} {w':World} (ho:Out (T j).H'.nx β ⟨(T j).sub,(S j).H.nx,[]⟩ w [((T j).av,(T j).H')] v w'):Fact S T j∧∃ β',St ops S T m β0 w0 (fun i=>D i∨i=j) β' (a.put (dst ops j) v) w':=by
 obtain ⟨x,hx,β',hv,hR',hx'⟩:=ho
 rw[List.mem_singleton] at hx
 subst hx
 have hx:Ext β ⟨(T j).sub,(S j).H.nx,[]⟩ w β' (T j).H' w':=hx'
 have hf:Fact S T j:=Fact.of hx
 refine ⟨hf,β',?_⟩
 have hlt:∀ k x,dst ops k=some x→x<x+1:=fun k x h=>Nat.lt_succ_self _
 have hadd:=fun id=>Tl (S:=S) (T:=T) (D:=D) (id:=id) hj (hcoH id)
 have h0j:(S 0).H.nx≤(S j).H.nx:=ia hc hmon (Nat.zero_le _) (by omega)
 have hjn:(T j).H'.nx≤(S ops.size).H.nx:=An hc hmon hj (Nat.le_refl _)
 have split_:∀ id o,ovH S T (fun i=>D i∨i=j) ops.size id=some o →
   ((T j).H'.get id=some o∧((∃ y,(T j).sub.get id=some y)∨((S j).H.nx≤id∧id<(T j).H'.nx)))∨(ovH S T D ops.size id=some o∧(T j).sub.get id=none∧¬dn S T j id):=by
  intro id o hg
  by_cases ht:dn S T j id
  ·rw[(hadd id).1 ht] at hg
   refine .inl ⟨hg,?_⟩
   rcases ht with ht|ht
   ·exact .inl (fG ht).2
   ·exact .inr ht
  ·rw[(hadd id).2 ht] at hg
   cases hs:(T j).sub.get id with
   | none=>exact .inr ⟨hg,rfl,ht⟩
   | some y=>
    have:=hag id y hs
    rw[hg] at this
    cases this
    refine .inl ⟨?_,.inl ⟨_,rfl⟩⟩
    rw[hf.log id (hwf id _ hs) fun hh=>ht (.inl hh)]
    exact hs
 have hstay:∀ id,(T j).sub.get id=none→¬dn S T j id→∀ g,β' id g=β id g:=by
  intro id hs ht g
  cases hb:β' id g with
  | some p=>
   rcases hx.loc id g p hb with h1|h1|⟨o,h1⟩
   ·exact h1.symm
   ·exact absurd (.inr h1) ht
   ·have:(T j).sub.get id=some o:=h1
    rw[hs] at this;cases this
  | none=>
   cases hb':β id g with
   | none=>rfl
   | some p=>rw[hx.sub id g p hb'] at hb;cases hb
 have hkeep:∀ id o g p,ovH S T D ops.size id=some o→(T j).sub.get id=none→dH o g→β id g=some p→w'.heap[p.b]?=w.heap[p.b]?:=by
  intro id o g p hg hs hgk hp
  refine hx.frame p.b ((h.obj id o hg).lt hgk hp) fun id' o' g' p' h1 h2 h3 h4=>?_
  have h1':(T j).sub.get id'=some o':=h1
  rcases h.sep id' id o' o g' g p' p (hag id' o' h1') hg h2.1 hgk h3 hp h4 with this|⟨this,_⟩
  ·subst this
   rw[hs] at h1';cases h1'
  ·rw[h2.2] at this;cases this
 have hafter:∀ id o g p,((T j).H'.get id=some o∧((∃ y,(T j).sub.get id=some y)∨((S j).H.nx≤id∧id<(T j).H'.nx)))→dH o g→β' id g=some p →
   w.heap.size≤p.b∨∃ o0 g0 p0,ovH S T D ops.size id=some o0∧dH o0 g0∧β id g0=some p0∧p0.b=p.b∧o0.lh=o.lh:=by
  intro id o g p hg hgk hp
  rcases hx.prov id o g p hg.1 hgk hp with h1|⟨o0,g0,p0,h1,h2,h3,h4⟩
  ·exact .inl h1
  ·exact .inr ⟨o0,g0,p0,hag id o0 h1,h2,h3,h4⟩
 have hobj:∀ id o,ovH S T (fun i=>D i∨i=j) ops.size id=some o→fN β' w' id o:=by
  intro id o hg
  rcases split_ id o hg with hl|⟨hg',hs,ht⟩
  ·exact hR'.obj id o hl.1
  ·exact fN.mono hx.sub (h.obj id o hg') (hstay id hs ht) fun g p hgk hp=>hkeep id o g p hg' hs hgk hp
 have hsubnone:∀ id,(∀ g,β id g=none)→(T j).sub.get id=none:=by
  intro id hn
  cases hs:(T j).sub.get id with
  | none=>rfl
  | some y=>
   obtain ⟨g,p,hp⟩:=(h.obj id y (hag id y hs)).has
   rw[hn g] at hp;cases hp
 refine { tm:=?_,df:=?_,obj:=hobj,sep:=?_,fresh:=?_,free:=?_,sub:=fun id g p hp=>hx.sub _ _ _ (h.sub _ _ _ hp),loc:=?_,size:=Nat.le_trans h.size hx.size,os:=hx.os.trans h.os,tape:=hx.tape.trans h.tape,
          output:=hx.output.trans h.output,frame:=?_,prov:=?_,dom:=?_,old:=?_,far:=?_ }
 ·
  have h1:=h.tm.mono hx.sub
  have h2:TmR β' (sK (ovT ops S T D ops.size) (dst ops j) (T j).av).tm (S 0).A.nt (a.put (dst ops j) v).tmps:=by
   cases hd:dst ops j with
   | none=>exact h1
   | some d=>exact h1.put (UD hc hd) hv
  exact h2.ext fun t=>SI hlt hj hcoT t
 ·have h1:=lK.mono hx.sub h.df
  cases dst ops j with
  | none=>exact h1
  | some d=>exact h1
 ·
  intro id id' o o' g g' p p' h1 h2 h3 h4 h5 h6 h7
  rcases split_ id o h1 with hl|⟨hg1,hs1,ht1⟩
  ·rcases split_ id' o' h2 with hl'|⟨hg2,hs2,ht2⟩
   ·exact hR'.sep id id' o o' g g' p p' hl.1 hl'.1 h3 h4 h5 h6 h7
   ·rw[hstay id' hs2 ht2] at h6
    rcases hafter id o g p hl h3 h5 with h8|⟨o0,g0,p0,a1,a2,a3,a4,a5⟩
    ·have:=(h.obj id' o' hg2).lt h4 h6
     omega
    ·rw[←a5];exact h.sep id id' o0 o' g0 g' p0 p' a1 hg2 a2 h4 a3 h6 (a4.trans h7)
  ·rw[hstay id hs1 ht1] at h5
   rcases split_ id' o' h2 with hl'|⟨hg2,hs2,ht2⟩
   ·rcases hafter id' o' g' p' hl' h4 h6 with h8|⟨o0,g0,p0,a1,a2,a3,a4,a5⟩
    ·have:=(h.obj id o hg1).lt h3 h5
     omega
    ·rw[←a5];exact h.sep id id' o o0 g g0 p p0 hg1 a1 h3 a2 h5 a3 (h7.trans a4.symm)
   ·rw[hstay id' hs2 ht2] at h6
    exact h.sep id id' o o' g g' p p' hg1 hg2 h3 h4 h5 h6 h7
 ·
  intro k hk hn id g h1 h2
  have hnk:¬D k:=fun hh=>hn (.inl hh)
  have hkj:k≠j:=fun hh=>hn (.inr hh)
  have hb:∀ g,β id g=none:=fun g=>h.fresh k hk hnk id g h1 h2
  have hnt':¬dn S T j id:=by
   rintro (ht|ht)
   ·obtain ⟨_,y,hy⟩:=fG ht
    rw[hsubnone id hb] at hy;cases hy
   ·rcases Nat.lt_or_ge k j with hh|hh
    ·have:=An hc hmon hh (k:=j) (by omega)
     omega
    ·have hjk:j<k:=by omega
     have:=An hc hmon hjk (k:=k) (by omega)
     omega
  rw[hstay id (hsubnone id hb) hnt']
  exact hb g
 ·
  intro id g h1 h2
  have hb:∀ g,β id g=none:=fun g=>h.free id g h1 h2
  have hnt':¬dn S T j id:=fun ht=>by
   have:=pA hc hmon hj ht
   omega
  rw[hstay id (hsubnone id hb) hnt']
  exact hb g
 ·intro id g p hp
  rcases hx.loc id g p hp with h1|h1|⟨o,h1⟩
  ·exact h.loc id g p h1
  ·exact .inr (.inl ⟨Nat.le_trans h0j h1.1,Nat.lt_of_lt_of_le h1.2 hjn⟩)
  ·rcases h.old id o (hag id o h1) with h2|h2
   ·exact .inr (.inr h2)
   ·exact .inr (.inl h2)
 ·intro b hb hn
  rw[hx.frame b (Nat.lt_of_lt_of_le hb h.size) ?_,h.frame b hb hn]
  intro id o g p h1 h2 h3 h4
  rcases h.prov id o g p (hag id o h1) h2.1 h3 with h5|⟨o0,g0,p0,a1,a2,a3,a4,a5⟩
  ·omega
  ·exact hn id o0 g0 p0 a1 ⟨a2,a5.trans h2.2⟩ a3 (a4.trans h4)
 ·intro id o g p h1 h2 h3
  rcases split_ id o h1 with hl|⟨hg1,hs1,ht1⟩
  ·rcases hafter id o g p hl h2 h3 with h8|⟨o0,g0,p0,a1,a2,a3,a4,a5⟩
   ·have:=h.size
    exact .inl (by omega)
   ·rcases h.prov id o0 g0 p0 a1 a2 a3 with h5|⟨o1,g1,p1,b1,b2,b3,b4,b5⟩
    ·exact .inl (by omega)
    ·exact .inr ⟨o1,g1,p1,b1,b2,b3,b4.trans a4,b5.trans a5⟩
  ·rw[hstay id hs1 ht1] at h3
   exact h.prov id o g p hg1 h2 h3
 ·intro id o h1
  by_cases ht:dn S T j id
  ·rw[(hadd id).1 ht]
   rcases ht with ht|ht
   ·obtain ⟨_,y,hy⟩:=fG ht
    exact hf.dom id y hy
   ·obtain ⟨o',ho'⟩:=h.dom id o h1
    obtain ⟨g,p,hp⟩:=(h.obj id o' ho').has
    rw[h.fresh j hj hnd id g ht.1 ht.2] at hp;cases hp
  ·rw[(hadd id).2 ht]
   exact h.dom id o h1
 ·intro id o h1
  rcases split_ id o h1 with ⟨_,⟨y,hy⟩|hl⟩|⟨hg1,_,_⟩
  ·exact h.old id y (hag id y hy)
  ·exact .inr ⟨Nat.le_trans h0j hl.1,Nat.lt_of_lt_of_le hl.2 hjn⟩
  ·exact h.old id o hg1
 ·intro b hb hn
  rw[hx.far (T j).H'.log (by simp) b (Nat.lt_of_lt_of_le hb h.size) ?_,h.far b hb fun id o g p ⟨i,h1,h2,h3⟩=>hn id o g p ⟨i,h1,.inl h2,h3⟩]
  intro id o g p hid h1 h2 h3 h4
  have h1':(T j).sub.get id=some o:=h1
  rcases h.prov id o g p (hag id o h1') h2.1 h3 with h5|⟨o0,g0,p0,a1,a2,a3,a4,a5⟩
  ·omega
  ·exact hn id o0 g0 p0 ⟨j,hj,.inr rfl,iS.2 ⟨hid,hwf id o h1',o,h1'⟩⟩ a1 ⟨a2,a5.trans h2.2⟩ a3 (a4.trans h4)
end
theorem Iy {F:Fence} {n:Nat} {P:Program} {o:Oper} {a:Act} {X:Prop} {r:Result Next} (hF:∀ k,F.room k) (w0:World) (h:o.uponIn F n P a (fun _ _=>X) (fun _ _ _=>False) r):X:=by
 cases r with
 | halt x w'=>cases x <;> exact False.elim h
 | ok x w'=>
  cases x with
  | value v=>exact h
  | skip=>exact h
  | defer d=>exact h
  | enter f args=>
   obtain ⟨e,w'',fr,hr,_⟩:=h.2.2 [] (hF _)
   cases e with
   | returned v=>exact hr
   | panicked c=>exact False.elim hr
   | outgrown=>obtain ⟨_,_,hr⟩:=hr;exact False.elim hr
  | row row args=>
   obtain ⟨v,w'',hr,_⟩:=h.2 (Frame.enter P 0 #[] .normal) [] (hF _)
   exact hr
  | round l f tmps assign body=>
   obtain ⟨e,w'',hr,_⟩:=h.2.2 (Frame.enter P 0 #[] .normal) [] (hF _)
   cases e with
   | returned v=>exact hr
   | panicked c=>exact False.elim hr
   | outgrown=>obtain ⟨_,_,hr⟩:=hr;exact False.elim hr
  | _=>exact False.elim h
section
variable {E:Env} (hE:vR E) {N:Nat} {rec:Rec} (hrec:AU E.P N rec) (hmon:RecM rec)
variable {ops:Array Oper} {S:Nat→DS} {T:Nat→DR} (hc:Er E rec ops S T) (hbig:(S ops.size).H.nx≤(S ops.size).H.nx) (hnt:(S 0).A.nt≤1048576) (h0:∀ id,(S 0).H.nx≤id→(S 0).H.get id=none)
variable {m:Nat} {β0:Pl} {w0:World}
include hE hrec hmon hc hbig hnt h0
theorem take {D:Nat→Prop} (hcl:∀ i,i<ops.size→D i→∀ b,Nat.testBit (mask ops i) b=true→D b) {j:Nat} (hj:j<ops.size) (hnd:¬D j) (hp:∀ b,Nat.testBit (mask ops j) b=true→D b) (hf:∀ i,i<j→Fact S T i)
  {β:Pl} {a:Act} {w:World} (h:St ops S T m β0 w0 D β a w) {rB:Option Nat} {Q:Exit→Act→World→Prop} {K:Act→World→Prop}
  (hK:∀ v w',Fact S T j→(∃ β',St ops S T m β0 w0 (fun i=>D i∨i=j) β' (a.put (dst ops j) v) w')→K (a.put (dst ops j) v) w'):wpOpIn (fen rB) 0 E.P ops Q j K a w:=by
 obtain ⟨o,ho⟩:=eY hj
 obtain ⟨hwfj,_⟩:=law hc hmon hbig (h0:=h0) (k:=j) (by omega) hf
 have hag:=Sq hc hmon hbig hcl hj hnd hp (h0:=h0) hf
 have hwf:∀ id x,(T j).sub.get id=some x→id<(S j).H.nx:=fun id x hx=>by
  have:=(gy hc hmon hbig hj ho hx).2.2.1
  rcases Nat.lt_or_ge id (S j).H.nx with hh|hh
  ·exact hh
  ·rw[hwfj id hh] at this;cases this
 have hR:=h.rel hj hnd hag hwf
 have hstep:=fun {v w'} ho=>St.step (v:=v) (w':=w') hc hmon hnt h hj hnd hag hwf (UQ hc hmon hbig hcl hj hnd) (UO hc hcl hnd) ho
 have hm1:(T j).H'.nx≤(T j).H'.nx:=Nat.le_refl _
 have hslots:∀ t∈slotsOf ops o,(ovT ops S T D ops.size).tm.get t=(S j).A.tm.get t:=fun t ht=>TH hc hnt hcl hj hnd hp ho ht
 have hA:gA β ⟨(ovT ops S T D ops.size).tm,(S 0).A.nt,(S 0).A.dfr⟩ a:=⟨h.tm,h.df⟩
 have hwk:=Ga hslots
 unfold wpOpIn
 rw[ho]
 simp only
 have hd:=RU ho
 cases hr:(T j).ran with
 | true=>
  obtain ⟨h1,_,h3,_⟩:=(hc.link j o ho).yes hr
  have hw:Region.wanted o (yielded ops a.tmps)=true:=by
   have hk:=hwk (.ok []) (.bad "")
   rw[h1] at hk
   rcases uD h.tm hk with ⟨hw,_⟩|⟨_,hb⟩
   ·exact hw
   ·cases hb
  rw[if_pos hw]
  have hcong:(aq E.P o).run (ovT ops S T D ops.size).tm ⟨(T j).sub,(S j).H.nx,[]⟩=(aq E.P o).run (S j).A.tm ⟨(T j).sub,(S j).H.nx,[]⟩:=by
   refine HR o fun x hx=>QW fun t ht=>hslots t ?_
   unfold slotsOf
   subst ht
   exact List.mem_append_left _ (List.mem_filterMap.2 ⟨.tmp t,hx,rfl⟩)
  have h3':ig E rec ⟨(T j).sub,(S j).H.nx,[]⟩ ((aq E.P o).run (ovT ops S T D ops.size).tm ⟨(T j).sub,(S j).H.nx,[]⟩)=.ok [((T j).av,(T j).H')]:=by
   rw[hcong];exact h3
  refine Km (A:=⟨(ovT ops S T D ops.size).tm,(S 0).A.nt,(S 0).A.dfr⟩) hE hrec hmon hm1 hR hA h3' (fun x hx=>by rw[List.mem_singleton.1 hx];exact Nat.le_refl _) fun v w' hout=>?_
  rw[←hd]
  have:=hstep hout
  exact hK v w' this.1 this.2
 | false=>
  obtain ⟨h1,h2,h3,h4,_⟩:=(hc.link j o ho).no hr
  have hw:Region.wanted o (yielded ops a.tmps)=false:=by
   have hk:=hwk (.bad "") (.ok [])
   rw[h1] at hk
   rcases uD h.tm hk with ⟨_,hb⟩|⟨hw,_⟩
   ·cases hb
   ·exact hw
  rw[if_neg (by rw[hw];exact Bool.false_ne_true)]
  refine ⟨fun _ _=>trivial,?_⟩
  rw[←hd]
  have hout:Out (T j).H'.nx β ⟨(T j).sub,(S j).H.nx,[]⟩ w [((T j).av,(T j).H')] undef w:=by
   refine ⟨_,List.mem_singleton.2 rfl,β,?_,?_,?_⟩
   ·show AR β (T j).av undef
    rw[h2];exact pJ β
   ·show Rel _ β (T j).H' w
    rw[h3] at hR
    have e:(T j).H'=⟨.leaf,(S j).H.nx,[]⟩:=h4
    rw[e]
    rw[e] at hR
    exact hR
   ·show Ext β _ w β (T j).H' w
    rw[h3,h4]
    exact Ext.refl _ _ _
  have:=hstep hout
  exact hK undef w this.1 this.2
theorem facts (hstart:∃ a,St ops S T m β0 w0 (fun _=>False) β0 a w0):∀ k,k≤ops.size→(∀ i,i<k→Fact S T i)∧∃ β a w,St ops S T m β0 w0 (fun i=>i<k) β a w
 | 0,_=>by
  obtain ⟨a,h⟩:=hstart
  have hlt:∀ k x,dst ops k=some x→x<x+1:=fun k x h=>Nat.lt_succ_self _
  exact ⟨fun i hi=>by omega,β0,a,w0,h.congr hlt fun i _=>⟨False.elim,fun h=>by omega⟩⟩
 | k+1,hk=>by
  have hlt:∀ k x,dst ops k=some x→x<x+1:=fun k x h=>Nat.lt_succ_self _
  obtain ⟨hf,β,a,w,h⟩:=facts hstart k (by omega)
  have hs:=hc.stat
  unfold dY at hs
  rw[Bool.and_eq_true] at hs
  have hback:∀ i o,ops[i]?=some o→∀ e∈o.after.toList,fa e=true→e.on<i:=fun i o ho e he hu=>by
   have:=ik hs.2 i o (by simpa using ho) e he hu
   omega
  obtain ⟨ok,hok⟩:=eY (ops:=ops) (k:=k) (by omega)
  have hcl:∀ i,i<ops.size→i<k→∀ b,Nat.testBit (mask ops i) b=true→b<k:=fun i hi hik=>mV (D:=fun i=>i<k) (fun i o ho hd e he hu=>Nat.lt_trans (hback i o ho e he hu) hd) (i+1) i (by omega) hi hik
  have hp:∀ b,Nat.testBit (mask ops k) b=true→b<k:=Em (D:=fun i=>i<k) (fun i o ho hd e he hu=>Nat.lt_trans (hback i o ho e he hu) hd) hok fun e he hu=>hback k ok hok e he hu
  have hwp:=take hE hrec hmon hc hbig hnt h0 (D:=fun i=>i<k) hcl (j:=k) (by omega) (by omega) hp hf h (rB:=none) (Q:=fun _ _ _=>False)
   (K:=fun _ _=>Fact S T k∧∃ β a w,St ops S T m β0 w0 (fun i=>i<k+1) β a w) fun v w' h1 ⟨β',h2⟩=>⟨h1,β',_,_,h2.congr hlt fun i _=>by omega⟩
  have hX:Fact S T k∧∃ β a w,St ops S T m β0 w0 (fun i=>i<k+1) β a w:=by
   unfold wpOpIn at hwp
   rw[hok] at hwp
   simp only at hwp
   split at hwp
   ·exact Iy (fun k d hd=>by simp[fen] at hd) w0 hwp.2
   ·exact hwp.2
  refine ⟨fun i hi=>?_,hX.2⟩
  rcases Nat.lt_or_ge i k with hh|hh
  ·exact hf i hh
  ·have:i=k:=by omega
   subst this
   exact hX.1
theorem Ms (hf:∀ i,i<ops.size→Fact S T i) {rB:Option Nat} {Q:Exit→Act→World→Prop} (hQ:∀ β a w,St ops S T m β0 w0 (fun _=>True) β a w→Q .normal a w):
  ∀ (fuel:Nat) (listed:Array Bool) (β:Pl) (a:Act) (w:World),listed.size=ops.size→(∀ i o,ops[i]?=some o→listed.getD i false=true→∀ e∈o.after.toList,fa e=true→listed.getD e.on false=true) →
   ((List.range ops.size).filter fun i=>!listed.getD i false).length≤fuel→St ops S T m β0 w0 (fun i=>listed.getD i false=true) β a w→wpAnyIn (fen rB) 0 E.P .any ops Q fuel listed a w:=by
 have hlt:∀ k x,dst ops k=some x→x<x+1:=fun k x h=>Nat.lt_succ_self _
 have hbinds:∀ e,Region.binds .any e=fa e:=fun e=>by
  unfold Region.binds fa
  cases e.ground <;> rfl
 have hs:=hc.stat
 unfold dY at hs
 rw[Bool.and_eq_true] at hs
 have hback:∀ i o,ops[i]?=some o→∀ e∈o.after.toList,fa e=true→e.on<i:=fun i o ho e he hu=>by
  have:=ik hs.2 i o (by simpa using ho) e he hu
  omega
 have hall:∀ (listed:Array Bool),listed.size=ops.size→Region.ready .any ops listed=[]→∀ k i,i<k→i<ops.size→listed.getD i false=true:=by
  intro listed hsz hr k
  induction k with
  | zero=>intro i hi;omega
  | succ k ih=>
   intro i hi hio
   cases hl:listed.getD i false with
   | true=>rfl
   | false=>
    exfalso
    obtain ⟨o,ho⟩:=eY hio
    have hlt':i<listed.size:=by omega
    have:i∈Region.ready .any ops listed:=mem_ready.2 ⟨by simp[hlt'] at hl ⊢;exact hl,o,ho,fun e he hb=>by
     rw[hbinds] at hb
     have:=hback i o ho e (by simpa using he) hb
     exact ih e.on (by omega) (by omega)⟩
    rw[hr] at this;cases this
 intro fuel
 induction fuel with
 | zero=>
  intro listed β a w hsz hcl hn h
  have hl0:(List.range ops.size).filter (fun i=>!listed.getD i false)=[]:=List.eq_nil_of_length_eq_zero (by omega)
  have hD:∀ i,i<ops.size→listed.getD i false=true:=fun i hi=>by
   cases hl:listed.getD i false with
   | true=>rfl
   | false=>
    have:i∈(List.range ops.size).filter (fun i=>!listed.getD i false):=List.mem_filter.2 ⟨List.mem_range.2 hi,by rw[hl];rfl⟩
    rw[hl0] at this;cases this
  refine ⟨?_,hQ β a w (h.congr hlt fun i hi=>⟨fun _=>trivial,fun _=>hD i hi⟩)⟩
  cases hr:Region.ready .any ops listed with
  | nil=>rfl
  | cons i l=>
   have hi:i∈Region.ready .any ops listed:=by rw[hr];exact List.mem_cons_self ..
   obtain ⟨h1,o,ho,_⟩:=mem_ready.1 hi
   have hio:i<ops.size:=(Array.getElem?_eq_some_iff.1 ho).1
   have:=hD i hio
   have hlt':i<listed.size:=by omega
   simp[hlt'] at h1 this
   rw[h1] at this;cases this
 | succ fuel ih=>
  intro listed β a w hsz hcl hn h
  refine ⟨fun hr=>hQ β a w (h.congr hlt fun i hi=>⟨fun _=>trivial,fun _=>hall listed hsz hr (i+1) i (by omega) hi⟩),fun i hi=>?_⟩
  obtain ⟨h1,o,ho,he⟩:=mem_ready.1 hi
  have hio:i<ops.size:=(Array.getElem?_eq_some_iff.1 ho).1
  have hlt':i<listed.size:=by omega
  have hni:¬listed.getD i false=true:=by
   simp[hlt'] at h1 ⊢
   exact h1
  have hedge:∀ e∈o.after.toList,fa e=true→listed.getD e.on false=true:=fun e he' hu=>he e (by simpa using he') (by rw[hbinds];exact hu)
  have hclm:∀ k,k<ops.size→listed.getD k false=true→∀ b,Nat.testBit (mask ops k) b=true→listed.getD b false=true:=fun k hk hd=>mV (D:=fun i=>listed.getD i false=true) hcl (k+1) k (by omega) hk hd
  have hpm:=Em (D:=fun i=>listed.getD i false=true) hcl ho hedge
  refine take hE hrec hmon hc hbig hnt h0 (D:=fun i=>listed.getD i false=true) hclm hio hni hpm (fun k hk=>hf k (by omega)) h fun v w' _ ⟨β',h2⟩=>?_
  have hset:∀ k,k<ops.size→((listed.setIfInBounds i true).getD k false=true↔(listed.getD k false=true∨k=i)):=fun k hk=>by
   by_cases hki:k=i
   ·subst hki;simp[hlt']
   ·rw[getD_set_ne false (fun hh=>hki hh.symm)]
    simp[hki]
  refine ih (listed.setIfInBounds i true) β' _ w' (by simp[hsz]) (fun k ok hok hk e he' hu=>?_) ?_ (h2.congr hlt fun k hk=>(hset k hk).symm)
  ·have hko:k<ops.size:=(Array.getElem?_eq_some_iff.1 hok).1
   rcases (hset k hko).1 hk with hk|rfl
   ·exact getD_set_true (hcl k ok hok hk e he' hu)
   ·rw[ho] at hok
    cases hok
    exact getD_set_true (hedge e he' hu)
  ·
   have hlen:((List.range ops.size).filter fun k=>!(listed.setIfInBounds i true).getD k false).length<((List.range ops.size).filter fun k=>!listed.getD k false).length:=by
    have hsub:(List.range ops.size).filter (fun k=>!(listed.setIfInBounds i true).getD k false)=((List.range ops.size).filter fun k=>!listed.getD k false).filter fun k=>!Nat.beq k i:=by
     rw[List.filter_filter]
     refine List.filter_congr fun k hk=>?_
     have hk':=List.mem_range.1 hk
     have:=hset k hk'
     cases h1:(listed.setIfInBounds i true).getD k false <;> cases h2:listed.getD k false <;> cases h3:Nat.beq k i <;> simp_all
    rw[hsub]
    refine List.length_filter_lt_length_iff_exists.2 ⟨i,List.mem_filter.2 ⟨List.mem_range.2 hio,by simpa using hni⟩,by simp⟩
   omega
end
theorem Ek {E:Env} (hE:vR E):RI E:=by
 intro N rec hrec hmon m β H w A a id ops rB outs hm hR hA hstat h hb
 obtain ⟨l,hl,hk⟩:=R.dT h
 obtain ⟨S,T,hs0,hlink,hend⟩:=GN ops.toList 0 _ _ _ _ _ hl
 have hsz:ops.toList.length=ops.size:=by simp
 rw[hsz] at hend
 have hc:Er E rec ops S T:=⟨by rw[hs0],fun k o ho=>by
  have:=hlink k o (by simpa using ho)
  rw[Nat.zero_add] at this
  exact this,hstat⟩
 subst hend
 obtain ⟨o',ho',hs'⟩:=hk _ (List.mem_singleton.2 rfl)
 cases ho'
 have hx:=hs' _ (List.mem_singleton.2 rfl)
 have hnxm:(S ops.size).H.nx≤m:=hb _ hx
 have hbig:(S ops.size).H.nx≤(S ops.size).H.nx:=Nat.le_refl _
 have eA:(S 0).A=A:=by rw[hs0]
 have eH:(S 0).H=H:=by rw[hs0]
 have hnt:(S 0).A.nt≤1048576:=by rw[eA];exact hA.tm.2.1
 have h0:∀ id,(S 0).H.nx≤id→(S 0).H.get id=none:=by rw[eH];exact hR.wf
 have hlt:∀ k x,dst ops k=some x→x<x+1:=fun k x h=>Nat.lt_succ_self _
 have hR1:Rel m β H { w with drawn:=w.drawn+1 }:=hR.drew _
 have hov:∀ id,ovH S T (fun _=>False) ops.size id=H.get id:=fun id=>by
  rw[sN (k:=0) (by omega) fun i _ _ h=>h.elim,←eH];rfl
 have hovT:∀ t,(ovT ops S T (fun _=>False) ops.size).tm.get t=A.tm.get t:=fun t=>by
  rw[tl hlt (k:=0) (by omega) fun i _ _ h=>h.elim,←eA];rfl
 have hstart:St ops S T m β { w with drawn:=w.drawn+1 } (fun _=>False) β a { w with drawn:=w.drawn+1 }:=by
  refine { tm:=?_,df:=by rw[eA];exact hA.df,obj:=fun id o ho=>hR1.obj id o (by rw[←hov];exact ho),sep:=fun id id' o o' g g' p p' h1 h2=>hR1.sep id id' o o' g g' p p' (by rw[←hov];exact h1) (by rw[←hov];exact h2),
           fresh:=fun j hj _ id g h1 h2=>?_,free:=fun id g h1 h2=>?_,sub:=fun _ _ _ h=>h,loc:=fun _ _ _ h=>.inl h,size:=Nat.le_refl _,os:=rfl,tape:=rfl,output:=rfl,frame:=fun _ _ _=>rfl,
           prov:=fun id o g p h1 h2 h3=>?_,dom:=fun id o ho=>⟨o,by rw[hov,←eH];exact ho⟩,old:=fun id o ho=>.inl ⟨o,by rw[eH,←hov];exact ho⟩,far:=fun _ _ _=>rfl }
  ·rw[eA];exact hA.tm.ext hovT
  ·have h3:=ia hc hmon (i:=0) (k:=j) (by omega) (by omega)
   have h4:=An hc hmon hj (Nat.le_refl _)
   rw[eH] at h3
   exact hR1.free id g (by omega) (by omega)
  ·have h3:=ia hc hmon (i:=0) (k:=ops.size) (by omega) (Nat.le_refl _)
   rw[eH] at h3
   exact hR1.free id g (by omega) h2
  ·rw[hov] at h1
   exact .inr ⟨o,g,p,by rw[eH];exact h1,h2,h3,rfl,rfl⟩
 have hf:=(facts hE hrec hmon hc hbig hnt h0 ⟨a,hstart⟩ ops.size (Nat.le_refl _)).1
 refine wpIn_region_any hE.mixed ?_
 refine Ms hE hrec hmon hc hbig hnt h0 hf (m:=m) (β0:=β) (w0:={ w with drawn:=w.drawn+1 }) (fun β' a' w' hst=>?_) ops.size _ β a _ (by simp) (fun i o ho hl=>?_) ?_ (hstart.congr hlt fun i hi=>⟨False.elim,fun hh=>?_⟩)
 ·obtain ⟨hwf,hlaw⟩:=law hc hmon hbig (h0:=h0) (k:=ops.size) (Nat.le_refl _) hf
  have e:∀ id,ovH S T (fun _=>True) ops.size id=(S ops.size).H.get id:=fun id=>(hlaw id).symm
  have hact:=BS hc (k:=ops.size) (Nat.le_refl _)
  refine ⟨_,hx,trivial,β',⟨?_,?_⟩,⟨fun id o ho=>hst.obj id o (by rw[e];exact ho),fun id id' o o' g g' p p' h1 h2=>hst.sep id id' o o' g g' p p' (by rw[e];exact h1) (by rw[e];exact h2),hwf,hst.free⟩,?_⟩
  ·show TmR β' (S ops.size).A.tm (S ops.size).A.nt a'.tmps
   rw[hact,Bt]
   exact hst.tm
  ·show lK β' (S ops.size).A.dfr a'.defers
   rw[hact,Bo]
   exact hst.df
  ·have hmono:=ia hc hmon (i:=0) (k:=ops.size) (by omega) (Nat.le_refl _)
   rw[←eH]
   have hlog:∀ k,k≤ops.size→∃ l,(S k).H.log=l++(S 0).H.log∧(∀ id,id<(S 0).H.nx→id∉l→(S k).H.get id=(S 0).H.get id)∧∀ i,i<k→∀ id,id∈(T i).wr (S i)→id∈l:=by
    intro k
    induction k with
    | zero=>intro _;exact ⟨[],rfl,fun _ _ _=>rfl,fun i hi=>by omega⟩
    | succ k ih=>
     intro hk
     obtain ⟨l,hl1,hl2,hl3⟩:=ih (by omega)
     obtain ⟨o,ho⟩:=eY (ops:=ops) (k:=k) (by omega)
     have hls:=GM hc hmon hbig (k:=k) (by omega) (hf k (by omega)) (law hc hmon hbig (h0:=h0) (k:=k) (by omega) fun i hi=>hf i (by omega)).1
     have hm0:=ia hc hmon (i:=0) (k:=k) (by omega) (by omega)
     cases hr:(T k).ran with
     | false=>
      rw[(kR hc ho hr).2.2.1]
      refine ⟨l,hl1,hl2,fun i hi id hid=>?_⟩
      by_cases e:i=k
      ·subst e;exact absurd (.inl hid) (jz hc ho hr id)
      ·exact hl3 i (by omega) id hid
     | true=>
      obtain ⟨_,_,_,_,h5,_⟩:=(hc.link k o ho).yes hr
      refine ⟨(T k).wr (S k)++l,by rw[h5,List.append_assoc,←hl1],fun id hid hn=>?_,fun i hi id hid=>?_⟩
      ·rw[(hls id).2 ?_]
       ·exact hl2 id hid fun hh=>hn (List.mem_append_right _ hh)
       ·rintro (ht|ht)
        ·exact hn (List.mem_append_left _ ht)
        ·omega
      ·by_cases e:i=k
       ·subst e;exact List.mem_append_left _ hid
       ·exact List.mem_append_right _ (hl3 i (by omega) id hid)
   refine { sub:=hst.sub,loc:=hst.loc,size:=hst.size,os:=hst.os,tape:=hst.tape,output:=hst.output,frame:=hst.frame,prov:=fun id o g p h1 h2 h3=>hst.prov id o g p (by rw[e];exact h1) h2 h3,nx:=hmono,log:=?_,far:=?_,
            dom:=fun id o ho=>by obtain ⟨o',ho'⟩:=hst.dom id o ho;exact ⟨o',by rw[←e];exact ho'⟩,old:=fun id o ho=>hst.old id o (by rw[e];exact ho) }
   ·obtain ⟨l0,e0,f0,g0⟩:=hlog ops.size (Nat.le_refl _)
    exact ⟨l0,e0,f0⟩
   ·intro l hl b hb hn
    obtain ⟨l0,e0,f0,g0⟩:=hlog ops.size (Nat.le_refl _)
    have e:l=l0:=by
     have hl':(S ops.size).H.log=l++(S 0).H.log:=hl
     rw[e0] at hl'
     exact (List.append_cancel_right hl').symm
    subst e
    exact hst.far b hb fun id o g p ⟨i,h1,_,h3⟩=>hn id o g p (g0 i h1 id h3)
 ·exfalso
  have hio:i<ops.size:=(Array.getElem?_eq_some_iff.1 ho).1
  simp[hio] at hl
 ·exact Nat.le_trans (List.length_filter_le _ _) (by simp)
 ·simp[hi] at hh
end Go.Eng
