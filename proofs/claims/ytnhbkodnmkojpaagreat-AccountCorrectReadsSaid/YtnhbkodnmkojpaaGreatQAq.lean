/- A part of the proof: BkEv, BkRd1, BkRd2, BkRd3, BkRr1, BkRr2, BkRrEnd, BkRrHold. No conditions. -/
import Derived.Test.YtnhbkodnmkojpaaGreatQAp
set_option maxRecDepth 100000
set_option maxHeartbeats 64000000
set_option linter.unusedVariables false
set_option linter.unusedSimpArgs false
namespace Go.Proofs.YtnhbkodnmkojpaaGreat
open Go Go.Eng
def evH:List Pr→List Int→Int
 | _::y::l,d::ds=>d+y.2*evH (y::l) ds
 | _,d::_=>d
 | _,[]=>0
def PK (us:List Pr) (ds:List Int):Prop:=ds.length=us.length∧∀ i,i<us.length→0≤ds.getD i 0∧(i+1<us.length→ds.getD i 0<(us.getD (i+1) ([],0)).2)
theorem PK.cons {x y:Pr} {l:List Pr} {d:Int} {ds:List Int} (h0:0≤d) (h1:d<y.2) (h:PK (y::l) ds):PK (x::y::l) (d::ds):=by
 obtain ⟨h2,h3⟩:=h;refine ⟨by simpa using h2,fun i hi=>?_⟩;cases i with
 | zero=>exact ⟨h0,fun _=>h1⟩
 | succ i=>
  have:=h3 i (by simp at hi ⊢;omega);exact ⟨this.1,fun h=>this.2 (by simp at h ⊢;omega)⟩
theorem EM:∀ (us:List Pr) (n:Int),us≠[]→evH us (aL us n)=n
 | [],_,h=>absurd rfl h
 | [_],_,_=>rfl
 | x::y::l,n,_=>by
  rw[aL,evH,EM (y::l) _ (by simp)];have:=Int.emod_add_mul_ediv n y.2;omega
theorem yB:∀ (us:List Pr) (n:Int),0≤n→(∀ x∈us,1≤x.2)→PK us (aL us n)
 | [],_,_,_=>⟨rfl,fun i hi=>absurd hi (Nat.not_lt_zero i)⟩
 | [x],n,h,_=>⟨rfl,fun i hi=>by
  have:i=0:=by simp at hi;omega
  subst this;exact ⟨h,fun h=>absurd h (by simp)⟩⟩
 | x::y::l,n,h,hf=>by
  have hy:=hf y (by simp);rw[aL];exact PK.cons (Int.emod_nonneg _ (by omega)) (Int.emod_lt_of_pos _ (by omega)) (yB (y::l) _ (Int.ediv_nonneg h (by omega)) fun z hz=>hf z (List.mem_cons_of_mem _ hz))
theorem js (n:List UInt8) (us:List Pr) (b:Bool) (s t:Int) (x:Gp) (l:List Gp):cV n us b s t (x::l)=if (fO n us x.2.1).2≠0 then (0,0,(fO n us x.2.1).2) else if b=true∧t≤(fO n us x.2.1).1 then (0,0,22) else
  cV n us true (IntKind.i64.wrap (s+IntKind.i64.wrap (x.1*(fO n us x.2.1).1))) (fO n us x.2.1).1 l:=by rw[cV]
theorem DV (n:List UInt8) (us:List Pr) (g:Gp):∀ (l:List Gp) (b:Bool) (s t:Int),(cV n us b s t l).2.2=0→cV n us b s t (l++[g])=cV n us (b||!l.isEmpty) (cV n us b s t l).1 (cV n us b s t l).2.1 [g]
 | [],b,s,t,_=>by
  show cV n us b s t [g]=cV n us (b||false) s t [g];rw[Bool.or_false]
 | x::l,b,s,t,h=>by
  by_cases h1:(fO n us x.2.1).2≠0
  ·rw[js,zB0 h1] at h;exact absurd h h1
  by_cases h2:b=true∧t≤(fO n us x.2.1).1
  ·rw[js,zB1 h1,zB0 h2] at h;cases h
  rw[js,zB1 h1,zB1 h2] at h;have e:∀ l',cV n us b s t (x::l')=cV n us true (IntKind.i64.wrap (s+IntKind.i64.wrap (x.1*(fO n us x.2.1).1))) (fO n us x.2.1).1 l':=fun l'=>by rw[js,zB1 h1,zB1 h2]
  rw[List.cons_append,e,e,DV n us g l true _ _ h];show cV n us (true||_) _ _ _=cV n us (b||true) _ _ _;rw[Bool.true_or,Bool.or_true]
def vH:List (Pr×Int)→List Int→Int
 | y::ys,c::cs=>c*y.2+vH ys cs
 | _,_=>0
theorem Sk (v:Int) (u:Pr) (us:List Pr):yv v (u::us)=if u.2<1∨60<u.2∨1099511627776<v*u.2 then [] else (u,v*u.2)::yv (v*u.2) us:=by rw[yv]
theorem sY {v:Int} {u:Pr} {us:List Pr} (h:(yv v (u::us)).length=(u::us).length):yv v (u::us)=(u,v*u.2)::yv (v*u.2) us∧(yv (v*u.2) us).length=us.length∧1≤u.2:=by
 rw[Sk] at h ⊢;by_cases hb:u.2<1∨60<u.2∨1099511627776<v*u.2
 ·rw[zB0 hb] at h;cases h
 rw[zB1 hb] at h ⊢;exact ⟨rfl,Nat.succ.inj h,by omega⟩
theorem Ce {a b:Int} (ha:1≤a) (hb:1≤b):1≤a*b:=by
 have:=Int.mul_pos (show 0<a by omega) (show 0<b by omega);omega
theorem GN:∀ (v:Int) (us:List Pr),1≤v→∀ y∈yv v us,1≤y.2
 | _,[],_=>fun _ h=>absurd h List.not_mem_nil
 | v,u::us,hv=>fun y hy=>by
  unfold yv at hy;by_cases hb:u.2<1∨60<u.2∨1099511627776<v*u.2
  ·rw[zB0 hb] at hy;cases hy
  rw[zB1 hb] at hy;have h1:=Ce hv (show 1≤u.2 by omega);rcases List.mem_cons.1 hy with rfl|hy
  ·exact h1
  exact GN _ us h1 y hy
theorem TE:∀ (v:Int) (us:List Pr),1≤v→(∀ x∈us,2≤x.2)→∀ y∈yv v us,v<y.2
 | _,[],_,_=>fun _ h=>absurd h List.not_mem_nil
 | v,u::us,hv,hf=>fun y hy=>by
  unfold yv at hy;by_cases hb:u.2<1∨60<u.2∨1099511627776<v*u.2
  ·rw[zB0 hb] at hy;cases hy
  rw[zB1 hb] at hy;have h0:=hf u (List.mem_cons_self ..);have h1:v*2≤v*u.2:=Int.mul_le_mul_of_nonneg_left h0 (by omega);rcases List.mem_cons.1 hy with rfl|hy
  ·show v<v*u.2;omega
  have:=TE _ us (by omega) (fun x hx=>hf x (List.mem_cons_of_mem _ hx)) y hy;omega
theorem Fi:∀ (ys:List (Pr×Int)) (cs:List Int),(∀ y∈ys,1≤y.2)→(∀ c∈cs,0≤c)→0≤vH ys cs
 | [],_,_,_=>Int.le_refl _
 | _::_,[],_,_=>Int.le_refl _
 | y::ys,c::cs,hy,hc=>by
  have h1:=Fi ys cs (fun y h=>hy y (List.mem_cons_of_mem _ h)) fun c h=>hc c (List.mem_cons_of_mem _ h);have h2:=Int.mul_nonneg (hc c (List.mem_cons_self ..)) (show 0≤y.2 by have:=hy y (List.mem_cons_self ..);omega);show 0≤c*y.2+vH ys cs;omega
theorem Rc (nm:List UInt8) (U:List Pr):∀ (us:List Pr) (v:Int) (cs:List Int),(yv v us).length=us.length→us.length=cs.length→1≤v→(∀ x∈us.drop 1,2≤x.2)→(∀ y∈yv v us,fO nm U y.1.1=(y.2,0))→(∀ c∈cs,0≤c)→vH (yv v us) cs≤1099511627776 →
  ∃ L,cV nm U false 0 0 (wrN us cs)=(vH (yv v us) cs,L,0)∧(wrN us cs≠[]→∃ y∈yv v us,L=y.2)
 | [],_,[],_,_,_,_,_,_,_=>⟨0,rfl,fun h=>absurd rfl h⟩
 | [],_,_::_,_,h,_,_,_,_,_=>by cases h
 | _::_,_,[],_,h,_,_,_,_,_=>by cases h
 | u::us,v,c::cs,hy,hl,hv,hf,M3,hc,hd=>by
  obtain ⟨e1,e2,e3⟩:=sY hy;rw[e1] at M3 hd ⊢;have I2:=Ce hv e3;have b6:=hc c (List.mem_cons_self ..);have J':c*(v*u.2)+vH (yv (v*u.2) us) cs≤1099511627776:=hd;have hm:=Int.mul_nonneg b6 (show 0≤v*u.2 by omega);have hp:=Fi (yv (v*u.2) us) cs (GN _ us I2) fun c h=>hc c (List.mem_cons_of_mem _ h);have W8:∀ x∈us,2≤x.2:=hf;obtain ⟨L,h1,h2⟩:=Rc nm U us (v*u.2) cs e2 (Nat.succ.inj hl) I2 (fun x hx=>W8 x (List.mem_of_mem_drop hx)) (fun y hy=>M3 y (List.mem_cons_of_mem _ hy)) (fun c h=>hc c (List.mem_cons_of_mem _ h)) (by omega);rw[gz];show ∃ L,_=(c*(v*u.2)+vH (yv (v*u.2) us) cs,L,0)∧_;by_cases h:0<c
  ·rw[zB0 h,DV nm U _ _ _ _ _ (by rw[h1]),h1,js];have hv0:fO nm U u.1=(v*u.2,0):=M3 (u,v*u.2) (List.mem_cons_self ..);have Y1:fO nm U ((c,u.1,false):Gp).2.1=(v*u.2,0):=hv0;have hn:¬((false||!(wrN us cs).isEmpty)=true∧L≤v*u.2):=fun ⟨a,b⟩=>by
    have Y0:wrN us cs≠[]:=fun e=>by rw[e] at a;cases a
    obtain ⟨y,hy,rfl⟩:=h2 Y0;have:=TE (v*u.2) us I2 W8 y hy;omega
   rw[Y1];show ∃ L',(if (0:Int)≠0 then _ else if (false||!(wrN us cs).isEmpty)=true∧L≤v*u.2 then _ else _)=_∧_;rw[zB1 (fun h=>h rfl),zB1 hn];refine ⟨v*u.2,?_,fun _=>⟨_,List.mem_cons_self ..,rfl⟩⟩;show ((IntKind.i64.wrap (vH (yv (v*u.2) us) cs+IntKind.i64.wrap (c*(v*u.2))),v*u.2,0):Int×Int×Int)=_;rw[bx (n:=c*(v*u.2)) (by omega) (by omega),bx (by omega) (by omega),Int.add_comm]
  have h0:c=0:=by omega
  subst h0;rw[zB1 h,List.append_nil,Int.zero_mul,Int.zero_add];exact ⟨L,h1,fun h=>by obtain ⟨y,hy,e⟩:=h2 h;exact ⟨y,List.mem_cons_of_mem _ hy,e⟩⟩
theorem No:∀ (us:List Pr) (x:Pr) (v:Int) (cs:List Int),(yv v (x::us)).length=(x::us).length→cs.length=us.length+1→vH (yv v (x::us)) cs=v*x.2*evH (x::us) cs
 | [],x,v,cs,hy,hl=>by
  obtain ⟨e1,_,_⟩:=sY hy;match cs,hl with
  | [c],_=>
   rw[e1];show c*(v*x.2)+0=v*x.2*c;rw[Int.add_zero,Int.mul_comm]
 | y::us,x,v,cs,hy,hl=>by
  obtain ⟨e1,e2,_⟩:=sY hy;match cs,hl with
  | c::cs,hl=>
   rw[e1];show c*(v*x.2)+vH (yv (v*x.2) (y::us)) cs=v*x.2*(c+y.2*evH (y::us) cs);rw[No us y (v*x.2) cs e2 (Nat.succ.inj hl),Int.mul_add,Int.mul_comm c,Int.mul_assoc (v*x.2)]
theorem Ci:∀ (l:List (Pr×Int)),List.Pairwise (fun a b:Pr×Int=>a.1.1≠b.1.1) l→∀ y∈l,Hh l y.1.1=(y.2,0)
 | [],_=>fun _ h=>absurd h List.not_mem_nil
 | z::l,h=>fun y hy=>by
  obtain ⟨h1,h2⟩:=List.pairwise_cons.1 h;rw[Hh];rcases List.mem_cons.1 hy with rfl|hy
  ·rw[zB0 rfl]
  rw[zB1 (h1 y hy),Ci l h2 y hy]
theorem OM:∀ (v:Int) (us:List Pr),(yv v us).length=us.length→(yv v us).map Prod.fst=us
 | _,[],_=>rfl
 | v,u::us,h=>by
  obtain ⟨e1,e2,_⟩:=sY h;rw[e1,List.map_cons,OM _ us e2]
theorem Bn {nm:List UInt8} {us:List Pr} (h:aR nm us=0):List.Pairwise (fun a b:Pr=>a.1≠b.1) us∧(∀ x∈us,nmB x.1=true)∧∀ x∈us.drop 1,2≤x.2:=by
 have h3:=(hH h).2.2;unfold aR at h;cases hl:eD nm us with
 | false=>rw[hl,zB1 zA8] at h;cases h
 | true=>
  unfold eD at hl;simp only[Bool.and_eq_true] at hl;have P1:=List.all_eq_true.1 hl.2;have key:∀ i x,us[i]?=some x→okU us i x=true:=fun i x hx=>by
   have D0:=(List.getElem?_eq_some_iff.1 hx).1;have:=P1 i (List.mem_range.2 D0);rwa [List.getD_eq_getElem?_getD,hx] at this
  refine ⟨?_,fun x hx=>?_,fun x hx=>?_⟩
  ·rw[List.pairwise_iff_getElem];intro i j hi hj hij e;have hk:=key j us[j] (zB4 hj);unfold okU at hk;simp only[Bool.and_eq_true] at hk;have hany:((us.take j).any fun y=>y.1==us[j].1)=true:=List.any_eq_true.2 ⟨us[i],by
    rw[List.mem_iff_getElem?];exact ⟨i,by rw[List.getElem?_take,zB0 hij,zB4 hi]⟩,by rw[e];exact beq_self_eq_true _⟩
   rw[hany] at hk;exact absurd hk.1.2 (by decide)
  ·obtain ⟨i,hi⟩:=List.mem_iff_getElem?.1 hx;have hk:=key i x hi;unfold okU at hk;simp only[Bool.and_eq_true] at hk;exact hk.1.1
  obtain ⟨i,hi⟩:=List.mem_iff_getElem?.1 hx;rw[List.getElem?_drop] at hi;have hk:=key (1+i) x hi;have hb:=(h3 x (List.mem_of_getElem? hi)).1;unfold okU at hk;simp only[Bool.and_eq_true] at hk;have X3:=hk.2;have e0:(((1+i:Nat):Int)==0)=false:=zB5 (by omega);rw[e0] at X3;have Y0:(x.2==1)=false:=by
   cases K0:(x.2==1) with
   | false=>rfl
   | true=>rw[K0] at X3;cases X3
  have:x.2≠1:=fun e=>by rw[e] at Y0;cases Y0
  omega
theorem Aj:∀ (us:List Pr) (cs:List Int) (x:Gp),x∈wrN us cs→∃ u∈us,x.2.1=u.1∧0<x.1∧x.1∈cs∧x.2.2=false
 | [],cs,x,h=>by
  have:wrN [] cs=[]:=by simp[wrN]
  rw[this] at h;cases h
 | u::us,[],x,h=>by
  have:wrN (u::us) []=[]:=by simp[wrN]
  rw[this] at h;cases h
 | u::us,c::cs,x,h=>by
  rw[gz] at h;rcases List.mem_append.1 h with h|h
  ·obtain ⟨w,h1,h2,h3,h4,h5⟩:=Aj us cs x h;exact ⟨w,List.mem_cons_of_mem _ h1,h2,h3,List.mem_cons_of_mem _ h4,h5⟩
  by_cases hc:0<c
  ·rw[zB0 hc] at h;rw[List.mem_singleton.1 h];exact ⟨u,List.mem_cons_self ..,rfl,hc,List.mem_cons_self ..,rfl⟩
  rw[zB1 hc] at h;cases h
theorem Pq:∀ (us:List Pr) (cs:List Int),List.Pairwise (fun a b:Pr=>a.1≠b.1) us→List.Pairwise (fun a b:Gp=>a.2.1≠b.2.1) (wrN us cs)
 | [],cs,_=>by
  have:wrN [] cs=[]:=by simp[wrN]
  rw[this];exact List.Pairwise.nil
 | u::us,[],_=>by
  have:wrN (u::us) []=[]:=by simp[wrN]
  rw[this];exact List.Pairwise.nil
 | u::us,c::cs,h=>by
  obtain ⟨h1,h2⟩:=List.pairwise_cons.1 h;rw[gz,List.pairwise_append];refine ⟨Pq us cs h2,?_,fun a ha b hb=>?_⟩
  ·split
   ·exact List.pairwise_singleton _ _
   exact List.Pairwise.nil
  by_cases hc:0<c
  ·rw[zB0 hc] at hb;rw[List.mem_singleton.1 hb];obtain ⟨w,hw,e,_⟩:=Aj us cs a ha;rw[e];exact fun he=>h1 w hw he.symm
  rw[zB1 hc] at hb;cases hb
theorem BP:∀ (l acc:List Gp),(∀ x∈l,nmB x.2.1=true∧1≤x.1∧x.1≤99)→List.Pairwise (fun a b:Gp=>a.2.1≠b.2.1) (acc++l)→eE false acc l=0
 | [],_,_,_=>rfl
 | x::l,acc,h,hp=>by
  obtain ⟨h1,h2,h3⟩:=h x (List.mem_cons_self ..);have hg:pX x=false:=by
   unfold pX;rw[zB5 (show x.1≠0 by omega),Bool.false_and]
  have hh:Lz acc x.2.1=false:=by
   unfold Lz;rw[List.any_eq_false];intro y hy;have:=(List.pairwise_append.1 hp).2.2 y hy x (List.mem_cons_self ..);simp[this]
  rw[eE,zB1 (by rw[hg];exact zA8),zB1 (by rw[h1];exact Bool.noConfusion),zB1 (by omega),zB1 (by rw[hh];exact zA8),zB1 (by exact zA8)];exact BP l (acc++[x]) (fun y hy=>h y (List.mem_cons_of_mem _ hy)) (by rw[List.append_assoc];exact hp)
theorem UE {nm:List UInt8} {us:List Pr} {n:Int} (h:(iO nm us n).2=0):cC ((iO nm us n).1,[])=0∧jf (iO nm us n).1=false∧ff nm us ((iO nm us n).1,[])=(n,0)∧1≤(iO nm us n).1.length:=by
 unfold iO at h ⊢;by_cases Q2:aR nm us=0
 case neg=>rw[zB0 Q2] at h;exact absurd h Q2
 rw[zB1 (fun hh=>hh Q2)] at h ⊢;by_cases hr:1≤n∧n≤1099511627776
 case neg=>rw[zB1 hr] at h;cases h
 rw[zB0 hr] at h ⊢;by_cases hm:zr (aL us n)=true
 ·rw[zB0 hm] at h;cases h
 rw[zB1 hm];show cC (wrN us (aL us n),[])=0∧jf (wrN us (aL us n))=false∧ff nm us (wrN us (aL us n),[])=(n,0)∧1≤(wrN us (aL us n)).length;obtain ⟨k1,k2,k3⟩:=hH Q2;obtain ⟨x,l,hx,K0⟩:=kG Q2;obtain ⟨u1,u2,u3⟩:=Bn Q2;obtain ⟨g,gl,hg,_⟩:=Ev Q2 hr.1;have hdig:=yB us n (by omega) fun x hx=>(k3 x hx).1;have b6:∀ c∈aL us n,0≤c:=fun c hc=>by
  obtain ⟨i,hi⟩:=List.mem_iff_getElem?.1 hc;have D0:=(List.getElem?_eq_some_iff.1 hi).1;have:=(hdig.2 i (by rw[←dB us n];exact D0)).1;rwa [List.getD_eq_getElem?_getD,hi] at this
 have hc9:∀ c∈aL us n,c≤99:=fun c hc=>by
  rcases Int.lt_or_le 99 c with h9|h9
  ·exact absurd (List.any_eq_true.2 ⟨c,hc,decide_eq_true h9⟩) hm
  exact h9
 have G0:∀ y∈wrN us (aL us n),nmB y.2.1=true∧1≤y.1∧y.1≤99∧y.2.2=false:=fun y hy=>by
  obtain ⟨u,hu,e,hp,hc,hf⟩:=Aj us _ y hy;exact ⟨by rw[e];exact u2 u hu,by omega,hc9 _ hc,hf⟩
 have hlen:=tc us (aL us n);have T3:1≤(wrN us (aL us n)).length:=by rw[hg];exact Nat.succ_pos _
 have N4:cC (wrN us (aL us n),[])=0:=by
  unfold cC;have e1:eE false [] (wrN us (aL us n))=0:=BP _ [] (fun y hy=>⟨(G0 y hy).1,(G0 y hy).2.1,(G0 y hy).2.2.1⟩) (by rw[List.nil_append];exact Pq us _ u1);show (if (24:Int)<((wrN us (aL us n)).length:Int)∨(24:Int)<(([]:List Gp).length:Int) then (3:Int) else if (wrN us (aL us n)).length=0 then 5 else if eE false [] (wrN us (aL us n))≠0 then _ else if eE true [] ([]:List Gp)≠0 then _ else if 0<([]:List Gp).length∧_ then _ else _)=0;have e2:eE true [] ([]:List Gp)=0:=rfl;rw[zB1 (by rw[List.length_nil];omega),zB1 (by omega),e1,zB1 (fun h=>h rfl),e2,zB1 (fun h=>h rfl),zB1 (fun h=>absurd h.1 (Nat.lt_irrefl 0))]
 have hbrk:jf (wrN us (aL us n))=false:=by
  unfold jf;rw[List.any_eq_false];intro y hy;obtain ⟨_,h1,_,h2⟩:=G0 y hy;have Z':pX y=false:=by
   unfold pX;rw[zB5 (show y.1≠0 by omega),Bool.false_and]
  rw[Z',h2];decide
 refine ⟨N4,hbrk,?_,T3⟩;have hpw:List.Pairwise (fun a b:Pr×Int=>a.1.1≠b.1.1) (yv 1 us):=by
  have:=u1;rw[←OM 1 us k2,List.pairwise_map] at this;exact this
 have M3:∀ y∈yv 1 us,fO nm us y.1.1=(y.2,0):=fun y hy=>by
  unfold fO;rw[zB1 (fun hh=>hh Q2)];exact Ci _ hpw y hy
 have hdot:vH (yv 1 us) (aL us n)=n:=by
  have he:=EM us n (by rw[hx];simp);have l7:=dB us n;subst hx;rw[No l x 1 _ k2 (by rw[l7];rfl),he,K0];omega
 obtain ⟨L,a1,a2⟩:=Rc nm us us 1 (aL us n) k2 (dB us n).symm (Int.le_refl _) u3 M3 b6 (by rw[hdot];exact hr.2);obtain ⟨y,hy,hL⟩:=a2 (by rw[hg];simp);have F1:=GN 1 us (Int.le_refl _) y hy;rw[hdot] at a1;unfold ff;have a3:cV nm us false 0 0 ([]:List Gp)=(0,0,0):=rfl;show (if aR nm us≠0 then _ else if cC (wrN us (aL us n),[])≠0 then _ else if jf (wrN us (aL us n))=true then _ else if (cV nm us false 0 0 (wrN us (aL us n))).2.2≠0 then _ else if (1099511627776:Int)<(cV nm us false 0 0 (wrN us (aL us n))).1 then _ else if (cV nm us false 0 0 ([]:List Gp)).2.2≠0 then _ else if (cV nm us false 0 0 (wrN us (aL us n))).2.1≤(cV nm us false 0 0 ([]:List Gp)).1 then _ else (IntKind.i64.wrap ((cV nm us false 0 0 (wrN us (aL us n))).1 - (cV nm us false 0 0 ([]:List Gp)).1),(0:Int)))=(n,0);rw[zB1 (fun hh=>hh Q2),zB1 (fun hh=>hh N4),zB1 (by rw[hbrk];exact zA8),a1,a3];show (if (0:Int)≠0 then _ else if (1099511627776:Int)<n then _ else if (0:Int)≠0 then _ else if L≤0 then _ else (IntKind.i64.wrap (n - 0),(0:Int)))=(n,0);rw[zB1 (fun hh=>hh rfl),zB1 (by omega),zB1 (fun hh=>hh rfl),zB1 (by omega),Int.sub_zero,bx (by omega) (by omega)]
theorem Co {α:Type} (l:List α) (x:α):(l++[x]).getLast?=some x:=List.getLast?_concat
theorem IE {α:Type} {R:α→α→Prop} {acc:List α} {x:α} {l:List α} (h:List.Pairwise R (acc++x::l)) {y:α} (hy:acc.getLast?=some y):R y x:=
 (List.pairwise_append.1 h).2.2 y (List.mem_of_getLast? hy) x (List.mem_cons_self ..)
theorem Em {α:Type} {acc:List α} {p:α→Bool} (h:∀ y,acc.getLast?=some y→p y=false):acc.getLast?.any p=false:=by
 cases e:acc.getLast? with
 | none=>rfl
 | some y=>exact h y e
theorem DA:∀ (acc l:List Cs),goT acc l=0→∀ c∈l,gb c=true∧jl c.ws=0
 | _,[],_=>fun _ h=>absurd h List.not_mem_nil
 | acc,x::l,h=>fun c hc=>by
  rw[goT] at h;by_cases hn:fI acc x≠0
  ·rw[zB0 hn] at h;exact absurd h hn
  rw[zB1 hn] at h;rcases List.mem_cons.1 hc with rfl|hc
  ·have hn:fI acc c=0:=Classical.byContradiction hn;unfold fI at hn;by_cases h1:gb c=false
   ·rw[zB0 h1] at hn;cases hn
   rw[zB1 h1] at hn;by_cases h2:jl c.ws≠0
   ·rw[zB0 h2] at hn;cases hn
   exact ⟨by simpa using h1,Classical.byContradiction h2⟩
  exact DA (acc++[x]) l h c hc
theorem tK {t:Tb} (h:kE t=0):nmB t.1=true∧t.2.length≤256∧goT [] t.2=0:=by
 unfold kE at h;by_cases h1:nmB t.1=false
 ·rw[zB0 h1] at h;cases h
 rw[zB1 h1] at h;by_cases h2:(256:Int)<t.2.length
 ·rw[zB0 h2] at h;cases h
 rw[zB1 h2] at h;exact ⟨by simpa using h1,by omega,h⟩
theorem Mc {c:Cs} (h:gb c=true) (hk:c.kind≠4):cC c.num=0∧(c.aN≠[]→nmB c.aN=true):=by
 unfold gb at h;by_cases h1:c.face<1∨6<c.face∨c.col<1∨12<c.col∨c.line<1∨99<c.line
 ·rw[zB0 h1] at h;cases h
 rw[zB1 h1,zB1 hk] at h;by_cases h2:c.kind=1∨c.kind=2∨c.kind=3
 ·rw[zB0 h2,Bool.and_eq_true,decide_eq_true_eq,Bool.or_eq_true,cQ,beq_iff_eq] at h;exact ⟨h.1,fun hg=>h.2.resolve_left hg⟩
 rw[zB1 h2] at h;cases h
theorem kh (gs:List Gd):∀ (i:Nat) (cs:List Cs) (acc:List (Cl×Int)),(∀ x∈acc,x.1.1<(i:Int))→List.Pairwise (fun a b:Cl×Int=>a.1.1<b.1.1) acc→List.Pairwise (fun a b:Cl×Int=>a.1.1<b.1.1) (bQ gs i cs acc).1
 | _,[],acc,_,h=>h
 | i,c::cs,acc,hl,h=>by
  unfold bQ;split
  ·exact kh gs (i+1) cs acc (fun x hx=>by have:=hl x hx;omega) h
  split
  ·exact List.Pairwise.nil
  split
  ·exact List.Pairwise.nil
  split
  ·exact List.Pairwise.nil
  refine kh gs (i+1) cs _ (fun x hx=>?_) ?_
  ·rcases List.mem_append.1 hx with hx|hx
   ·have:=hl x hx;omega
   rw[List.mem_singleton.1 hx];show (i:Int)<_;omega
  rw[List.pairwise_append];refine ⟨h,List.pairwise_singleton _ _,fun a ha b hb=>?_⟩;rw[List.mem_singleton.1 hb];exact hl a ha
theorem NO (o:Option (List Lad)):∀ (l acc:List Cl),(∀ x∈l,0≤x.1∧x.1≤255∧nmB x.2.1=true∧fH o x.2.2.1=0∧cC x.2.2.2=0)→List.Pairwise (fun a b:Cl=>a.1<b.1) (acc++l)→goC o acc l=0
 | [],_,_,_=>rfl
 | x::l,acc,h,hp=>by
  obtain ⟨h1,h2,h3,h4,h5⟩:=h x (List.mem_cons_self ..);have hv:KS acc x=false:=Em fun y hy=>decide_eq_false (by have:=IE hp hy;omega);rw[goC,zB1 (by omega),zB1 (by omega),zB1 (by rw[hv];exact zA8),zB1 (by rw[h3];exact Bool.noConfusion),zB1 (fun hh=>hh h4),zB1 (fun hh=>hh h5)];exact NO o l (acc++[x]) (fun y hy=>h y (List.mem_cons_of_mem _ hy)) (by rw[List.append_assoc];exact hp)
theorem yh (lc:List Cl) (t:Int):∀ (l acc:List Int),(∀ m∈l,0≤m∧m<lc.length∧vT lc m=vT lc t)→List.Pairwise (·<·) (acc++l)→jg lc t acc l=true
 | [],_,_,_=>rfl
 | m::l,acc,h,hp=>by
  obtain ⟨h1,h2,h3⟩:=h m (List.mem_cons_self ..);have hv:II acc m=false:=Em fun y hy=>decide_eq_false (by have:=IE hp hy;omega);rw[jg,zB1 (by omega),zB1 (by omega),zB1 (by rw[hv];exact zA8),zB1 (fun hh=>hh h3)];exact yh lc t l (acc++[m]) (fun y hy=>h y (List.mem_cons_of_mem _ hy)) (by rw[List.append_assoc];exact hp)
theorem Qy (lc:List Cl):∀ (l:List Rl) (T S:List Int),(∀ x∈l,0≤x.1∧x.1<lc.length∧jg lc x.1 [] x.2=true)→List.Pairwise (·<·) (T++l.map Prod.fst)→(∀ j∈T++l.map Prod.fst,j∉S++l.flatMap Prod.snd)→goR lc T S l=true
 | [],T,S,_,_,hd=>by
  rw[goR,List.all_eq_true];intro j _;rw[List.map_nil,List.flatMap_nil,List.append_nil,List.append_nil] at hd;cases h1:T.any (fun x=>x==(j:Int)) with
  | false=>rfl
  | true=>
   cases h2:S.any (fun x=>x==(j:Int)) with
   | false=>rfl
   | true=>
    obtain ⟨a,ha,ha2⟩:=List.any_eq_true.1 h1;obtain ⟨b,hb,p6⟩:=List.any_eq_true.1 h2;rw[beq_iff_eq] at ha2 p6;subst ha2;subst p6;exact absurd hb (hd _ ha)
 | x::l,T,S,h,hp,hd=>by
  obtain ⟨h1,h2,h3⟩:=h x (List.mem_cons_self ..);have hT:T.any (fun y=>y==x.1)=false:=by
   rw[List.any_eq_false];intro y hy e;rw[beq_iff_eq] at e;have:=(List.pairwise_append.1 hp).2.2 y hy x.1 (List.mem_cons_self ..);omega
  rw[goR,zB1 (by omega),zB1 (by omega),zB1 (by rw[hT];exact zA8),zB1 (by rw[h3];exact Bool.noConfusion)];refine Qy lc l (T++[x.1]) (S++x.2) (fun y hy=>h y (List.mem_cons_of_mem _ hy)) (by rw[List.append_assoc];exact hp) fun j hj=>?_;rw[List.append_assoc] at hj ⊢;have:=hd j (by rw[List.map_cons];exact hj);rwa [List.flatMap_cons] at this
theorem nS (g:Gd) (fr:Nat):∀ (n:Nat) (l:List (Cl×Int)),(∀ m∈dw g fr n l,∃ (k:Nat) (y:Cl×Int),m=((n+k:Nat):Int)∧l[k]?=some y∧y.2=1∧eF g y.1.2.1=true)∧List.Pairwise (·<·) (dw g fr n l)
 | _,[]=>⟨fun _ h=>absurd h List.not_mem_nil,List.Pairwise.nil⟩
 | n,x::l=>by
  obtain ⟨h1,h2⟩:=nS g fr (n+1) l;have G4:∀ m∈dw g fr (n+1) l,∃ (k:Nat) (y:Cl×Int),m=((n+k:Nat):Int)∧(x::l)[k]?=some y∧y.2=1∧eF g y.1.2.1=true:=fun m hm=>by
   obtain ⟨k,y,e,hy,a,b⟩:=h1 m hm;exact ⟨k+1,y,by rw[e];omega,by rw[List.getElem?_cons_succ];exact hy,a,b⟩
  rw[dw];split
  ·rename_i c
   refine ⟨fun m hm=>?_,List.pairwise_cons.2 ⟨fun m hm=>?_,h2⟩⟩
   ·rcases List.mem_cons.1 hm with rfl|hm
    ·exact ⟨0,x,rfl,rfl,c.2⟩
    exact G4 m hm
   obtain ⟨k,y,e,_⟩:=h1 m hm;rw[e];omega
  exact ⟨G4,h2⟩
theorem nH (gs:List Gd):∀ (l pre:List (Cl×Int)),(∀ r∈dv gs pre l,∃ (k:Nat) (x:Cl×Int) (fr:Nat),l[k]?=some x∧x.2≠1∧r.1=((pre.length+k:Nat):Int)∧r.2=dw (fj gs x.1.2.1) fr 0 (pre++l.take k))∧List.Pairwise (fun a b:Rl=>a.1<b.1) (dv gs pre l)
 | [],_=>⟨fun _ h=>absurd h List.not_mem_nil,List.Pairwise.nil⟩
 | x::l,pre=>by
  obtain ⟨h1,h2⟩:=nH gs l (pre++[x]);have G4:∀ r∈dv gs (pre++[x]) l,∃ (k:Nat) (z:Cl×Int) (fr:Nat),(x::l)[k+1]?=some z∧z.2≠1∧r.1=((pre.length+(k+1):Nat):Int)∧r.2=dw (fj gs z.1.2.1) fr 0 (pre++(x::l).take (k+1)):=fun r hr=>by
   obtain ⟨k,z,fr,a,b,c,d⟩:=h1 r hr;refine ⟨k,z,fr,by rw[List.getElem?_cons_succ];exact a,b,by rw[c,List.length_append,List.length_singleton];omega,?_⟩;rw[d,List.append_assoc];rfl
  rw[dv];unfold jP;split
  ·rw[List.nil_append];exact ⟨fun r hr=>by obtain ⟨k,z,fr,a⟩:=G4 r hr;exact ⟨k+1,z,fr,a⟩,h2⟩
  rename_i c
  refine ⟨fun r hr=>?_,List.pairwise_cons.2 ⟨fun r hr=>?_,h2⟩⟩
  ·rcases List.mem_cons.1 hr with rfl|hr
   ·exact ⟨0,x,_,rfl,c,rfl,by rw[List.take_zero,List.append_nil]⟩
   obtain ⟨k,z,fr,a⟩:=G4 r hr;exact ⟨k+1,z,fr,a⟩
  obtain ⟨k,z,fr,_,_,e,_⟩:=G4 r hr;show (pre.length:Int)<r.1;rw[e];omega
theorem Ds:∀ (n:Nat) (bf rest:List Gd) (s:List UInt8),0≤dc n bf s→dc n (bf++rest) s=dc n bf s
 | _,[],_,_,h=>by
  have h':(0:Int)≤-1:=h;omega
 | n,x::bf,rest,s,h=>by
  rw[List.cons_append,dc,dc];rw[dc] at h;by_cases hx:x.1=s
  ·rw[zB0 hx,zB0 hx]
  rw[zB1 hx] at h;rw[zB1 hx,zB1 hx,Ds (n+1) bf rest s h]
theorem DB (ls:List Lad):∀ (gs acc:List Gd),goG ls acc gs=0→∀ g∈gs,∃ bf rest,acc++gs=bf++rest∧tG bf g=true
 | [],_,_=>fun _ h=>absurd h List.not_mem_nil
 | x::gs,acc,h=>fun g hg=>by
  unfold goG at h;split at h
  ·cases h
  split at h
  ·cases h
  split at h
  ·cases h
  split at h
  ·cases h
  rename_i c4
  rcases List.mem_cons.1 hg with rfl|hg
  ·exact ⟨acc,g::gs,rfl,by simpa using c4⟩
  obtain ⟨bf,rest,a,b⟩:=DB ls gs (acc++[x]) h g hg;exact ⟨bf,rest,by rw[←a,List.append_assoc];rfl,b⟩
theorem GO {o:Option (List Lad)} {gs:List Gd} (h:pV o gs=0) {s t:List UInt8} (ht:0≤dc 0 gs t) (hp:eF (fj gs t) s=true):(fj gs s).2.1=(fj gs t).2.1:=by
 obtain ⟨i,_,hi,hn⟩:=Bg ht;unfold eF at hp;by_cases hO:(fj gs t).2.2=[]
 ·rw[zB0 hO,beq_iff_eq,hn] at hp;rw[hp]
 rw[zB1 hO] at hp;have G0:s∈(fj gs t).2.2:=List.contains_iff_mem.1 hp;cases o with
 | none=>cases h
 | some ls=>
  have h':(if (32:Int)<gs.length then 3 else goG ls [] gs)=0:=h;by_cases c:(32:Int)<gs.length
  ·rw[zB0 c] at h';cases h'
  rw[zB1 c] at h';obtain ⟨bf,rest,e,hg⟩:=DB ls gs [] h' (fj gs t) (List.mem_of_getElem? hi);rw[List.nil_append] at e;obtain ⟨j,hj⟩:=List.mem_iff_getElem?.1 G0;have D0:=(List.getElem?_eq_some_iff.1 hj).1;have B1:=List.all_eq_true.1 hg j (List.mem_range.2 D0);rw[List.getD_eq_getElem?_getD,hj] at B1;have B1:gOK bf (fj gs t) j s=true:=B1;unfold gOK at B1;cases hb:bf[(dc 0 bf s).toNat]? with
  | none=>rw[hb] at B1;cases B1
  | some y=>
   rw[hb] at B1;simp only[Bool.and_eq_true] at B1;obtain ⟨h1,h2,_⟩:=B1;have h0:0≤dc 0 bf s:=by
    have:¬dc 0 bf s<0:=by simpa using h1
    omega
   have J_:fj gs s=y:=by
    unfold fj;rw[e,Ds 0 bf rest s h0,List.getElem?_append_left (List.getElem?_eq_some_iff.1 hb).1,hb];rfl
   rw[J_];rw[cQ,beq_iff_eq] at h2;exact h2
theorem RH {o:Option (List Lad)} {gs:List Gd} {t:Tb} (h:gE o gs t=0):kW o (cw o gs t)=0:=by
 obtain ⟨h1,h2,h3⟩:=kD h;obtain ⟨t1,t2,t3⟩:=tK h2;obtain ⟨a,b⟩:=mq h;have hasc:List.Pairwise (fun x y:Cl×Int=>x.1.1<y.1.1) (eG o gs t):=by
  have hk:eG o gs t=(bQ gs 0 t.2 []).1:=zB0 h;rw[hk];exact kh gs 0 t.2 [] (fun _ h=>absurd h List.not_mem_nil) List.Pairwise.nil
 cases o with
 | none=>cases h1
 | some ls=>
  have hr:=kC gs [] (eG (some ls) gs t);obtain ⟨r1,r2⟩:=nH gs (eG (some ls) gs t) [];have hlen:(cw (some ls) gs t).1.length=(eG (some ls) gs t).length:=by show ((eG (some ls) gs t).map Prod.fst).length=_;rw[List.length_map]
  have hC:goC (some ls) [] (cw (some ls) gs t).1=0:=by
   refine NO _ _ [] (fun x hx=>?_) ?_
   ·obtain ⟨y,hy,rfl⟩:=List.mem_map.1 hx;obtain ⟨⟨j,c,e1,e2,e3,e4,e5,e6,e7,e8,e9⟩,e10⟩:=a y hy;have hj:=(List.getElem?_eq_some_iff.1 e2).1;obtain ⟨n1,n2⟩:=Mc (DA [] t.2 t3 c (List.mem_of_getElem? e2)).1 (by rw[e3];exact e8);exact ⟨by rw[e1];omega,by rw[e1];omega,by rw[←e4];exact n2 (by rw[e4];exact e9),e10,by rw[e7];exact n1⟩
   show List.Pairwise _ (List.map Prod.fst _);rw[List.pairwise_map];exact hasc
  have J0:∀ (k:Nat) (y:Cl×Int),(eG (some ls) gs t)[k]?=some y→vT (cw (some ls) gs t).1 ((k:Nat):Int)=(fj gs y.1.2.1).2.1∧0≤dc 0 gs y.1.2.1:=fun k y hy=>by
   obtain ⟨⟨j,c,e1,e2,e3,e4,e5,e6,_⟩,_⟩:=a y (List.mem_of_getElem? hy);refine ⟨?_,e5⟩;unfold vT;have:(cw (some ls) gs t).1[((k:Int)).toNat]?=some y.1:=by
    show ((eG (some ls) gs t).map Prod.fst)[_]?=_;rw[Int.toNat_natCast,List.getElem?_map,hy];rfl
   rw[this];exact e6
  have hR:goR (cw (some ls) gs t).1 [] [] (cw (some ls) gs t).2=true:=by
   refine Qy _ _ [] [] (fun r hr=>?_) ?_ ?_
   ·obtain ⟨k,x,fr,e1,e2,e3,e4⟩:=r1 r hr;have hk:=(List.getElem?_eq_some_iff.1 e1).1;rw[List.length_nil,Nat.zero_add] at e3;obtain ⟨l1,l2⟩:=J0 k x e1;refine ⟨by rw[e3];omega,by rw[e3,hlen];omega,?_⟩;rw[e4];obtain ⟨m1,m2⟩:=nS (fj gs x.1.2.1) fr 0 ([]++(eG (some ls) gs t).take k);refine yh _ _ _ [] (fun m hm=>?_) m2;obtain ⟨q,y,f1,f2,f3,f4⟩:=m1 m hm;rw[Nat.zero_add] at f1;rw[List.nil_append,List.getElem?_take] at f2;by_cases hq:q<k
    ·rw[zB0 hq] at f2;have C4:=(List.getElem?_eq_some_iff.1 f2).1;refine ⟨by rw[f1];omega,by rw[f1,hlen];omega,?_⟩;rw[f1,(J0 q y f2).1,e3,l1];exact GO h1 l2 f4
    rw[zB1 hq] at f2;cases f2
   ·show List.Pairwise _ ((dv gs [] _).map Prod.fst);rw[List.pairwise_map];exact r2
   intro j hj hs;obtain ⟨r,hr,rfl⟩:=List.mem_map.1 hj;obtain ⟨r',L3,hm⟩:=List.mem_flatMap.1 hs;obtain ⟨k,x,fr,e1,e2,e3,e4⟩:=r1 r hr;obtain ⟨k',x',fr',e1',e2',e3',e4'⟩:=r1 r' L3;rw[e4'] at hm;obtain ⟨q,y,f1,f2,f3,f4⟩:=(nS _ fr' 0 _).1 r.1 hm;rw[Nat.zero_add] at f1;rw[List.length_nil,Nat.zero_add] at e3;have hqk:q=k:=by omega
   rw[List.nil_append,List.getElem?_take] at f2;by_cases hq:q<k'
   ·rw[zB0 hq,hqk,e1] at f2;cases f2
    exact e2 f3
   rw[zB1 hq] at f2;cases f2
  have hr64:(cw (some ls) gs t).2.length≤64:=zA2 hr b;show (if (64:Int)<(cw (some ls) gs t).1.length then (3:Int) else if (64:Int)<(cw (some ls) gs t).2.length then 3 else if goC (some ls) [] (cw (some ls) gs t).1≠0 then _ else if goR (cw (some ls) gs t).1 [] [] (cw (some ls) gs t).2=false then 53 else 0)=0;rw[zB1 (by rw[hlen];omega),zB1 (by omega),zB1 (fun hh=>hh hC),zB1 (by rw[hR];exact Bool.noConfusion)]
def Alt (c' c:Cs):Prop:=∃ y,c'=c.amt y∧(y=c.num∨c.kind≠4∧cC y=0∧jf y.1=false)
theorem Alt.Uw (c:Cs):Alt c c:=⟨c.num,rfl,.inl rfl⟩
theorem Alt.trans {a b c:Cs} (h:Alt b a) (k:Alt c b):Alt c a:=by
 obtain ⟨y,rfl,hy⟩:=h;obtain ⟨z,rfl,hz⟩:=k;refine ⟨z,rfl,?_⟩;rcases hz with hz|hz
 ·have e:z=y:=hz;rw[e];exact hy
 exact .inr hz
theorem Alt.kind {c' c:Cs} (h:Alt c' c):c'.kind=c.kind:=by obtain ⟨y,rfl,_⟩:=h;rfl
theorem Alt.aN {c' c:Cs} (h:Alt c' c):c'.aN=c.aN:=by obtain ⟨y,rfl,_⟩:=h;rfl
theorem Alt.ws {c' c:Cs} (h:Alt c' c):c'.ws=c.ws:=by obtain ⟨y,rfl,_⟩:=h;rfl
theorem Al.Jz {α:Type} {R:α→α→Prop} (hR:∀ x,R x x):∀ l:List α,Al R l l
 | []=>trivial
 | x::l=>⟨hR x,Al.Jz hR l⟩
theorem Al.trans' {α:Type} {R:α→α→Prop} (hR:∀ a b c,R b a→R c b→R c a):∀ {a b c:List α},Al R b a→Al R c b→Al R c a
 | [],[],[],_,_=>trivial
 | _::_,_::_,_::_,h,k=>⟨hR _ _ _ h.1 k.1,Al.trans' hR h.2 k.2⟩
 | [],_::_,_,h,_=>h.elim
 | _::_,[],_,h,_=>h.elim
 | [],[],_::_,_,k=>k.elim
 | _::_,_::_,[],_,k=>k.elim
theorem Al.at' {α β:Type} {R:β→α→Prop}:∀ {i:Nat} {cs:List β} {xs:List α} {c:β},Al R cs xs→cs[i]?=some c→∃ x,xs[i]?=some x∧R c x
 | _,[],[],_,_,h=>by cases h
 | 0,_::_,x::_,_,h,hx=>by cases hx;exact ⟨x,rfl,h.1⟩
 | i+1,_::_,_::_,_,h,hx=>by
  obtain ⟨x,a,b⟩:=Al.at' (i:=i) h.2 (by simpa using hx);exact ⟨x,by simpa using a,b⟩
 | _,[],_::_,_,h,_=>h.elim
 | _,_::_,[],_,h,_=>h.elim
theorem Hk {cs:List Cs} {j:Nat} {c:Cs} {y:Nm} (hc:cs[j]?=some c) (hy:y=c.num∨c.kind≠4∧cC y=0∧jf y.1=false):Al Alt (dA cs j y) cs:=by
 rw[qw hc];have h:=Al.setAt j (R':=Alt) (c':=c.amt y) (x':=c) (Al.Jz Alt.Uw cs) (fun _ _ h=>h) ⟨y,rfl,hy⟩;have e:cs.set j c=cs:=by
  obtain ⟨h1,h2⟩:=List.getElem?_eq_some_iff.1 hc;rw[←h2];exact List.set_getElem_self h1
 rwa [e] at h
def LW (x:Cl) (y:Nm):Cl:=(x.1,x.2.1,x.2.2.1,y)
theorem Mq (x:Cl):LW x x.2.2.2=x:=rfl
def PH (cs:List Cs) (x:Cl):Prop:=∃ (j:Nat) (c:Cs),x.1=(j:Int)∧cs[j]?=some c∧c.kind≠4∧x.2.2.2=c.num
theorem xT {cs:List Cs} {i j:Nat} {y:Nm} (h:i≠j):(dA cs i y)[j]?=cs[j]?:=by
 unfold dA;split
 ·rw[List.getElem?_set_ne h]
 rfl
theorem PH.set {cs:List Cs} {x:Cl} (h:PH cs x) {i:Nat} (hi:x.1≠(i:Int)) (y:Nm):PH (dA cs i y) x:=by
 obtain ⟨j,c,a,b,d⟩:=h;exact ⟨j,c,a,by rw[xT (fun e=>hi (by rw[a,e]))];exact b,d⟩
theorem AN (o:Option (List Lad)):∀ (l:List Cl) (vs:List Int) (cs cs':List Cs),(∀ x∈l,PH cs x)→List.Pairwise (fun a b:Cl=>a.1<b.1) l→gK o l vs cs=(cs',0) →
  Al Alt cs' cs∧(∀ j,(∀ x∈l,x.1≠((j:Nat):Int))→cs'[j]?=cs[j]?)∧∀ (k:Nat) (x:Cl) (v:Int),l[k]?=some x→vs[k]?=some v→∃ c',cs'[x.1.toNat]?=some c'∧okV o (LW x c'.num) v=true
 | [],vs,cs,cs',_,_,h=>by
  rw[oZ] at h;cases h
  exact ⟨Al.Jz Alt.Uw cs,fun _ _=>rfl,fun k x v hx=>by cases hx⟩
 | x::l,[],cs,cs',_,_,h=>by
  have:gK o (x::l) [] cs=(cs,0):=by unfold gK;rfl
  rw[this] at h;cases h
  exact ⟨Al.Jz Alt.Uw cs,fun _ _=>rfl,fun k x v _ hv=>by cases hv⟩
 | x::l,v::vs,cs,cs',U2,hp,h=>by
  rw[mI] at h;obtain ⟨p1,p2⟩:=List.pairwise_cons.1 hp;obtain ⟨j,c,j1,j2,j3,j4⟩:=U2 x (List.mem_cons_self ..);have o9:∀ y∈l,y.1≠((j:Nat):Int):=fun y hy e=>by have:=p1 y hy;omega
  by_cases B1:okV o x v=true
  ·rw[zB0 B1] at h;obtain ⟨a,b,d⟩:=AN o l vs cs cs' (fun y hy=>U2 y (List.mem_cons_of_mem _ hy)) p2 h;refine ⟨a,fun i hi=>b i fun y hy=>hi y (List.mem_cons_of_mem _ hy),fun k y w hy hw=>?_⟩;cases k with
   | zero=>
    cases hy;cases hw
    refine ⟨c,by rw[j1,Int.toNat_natCast,b j o9];exact j2,?_⟩;rw[←j4,Mq];exact B1
   | succ k=>exact d k y w (by simpa using hy) (by simpa using hw)
  rw[zB1 B1] at h;by_cases he:(iO (bq o x.2.2.1).1 (bq o x.2.2.1).2 v).2≠0
  ·rw[zB0 he] at h;exact absurd (congrArg Prod.snd h) he
  rw[zB1 he,j1,Int.toNat_natCast] at h;obtain ⟨w1,w2,w3,w4⟩:=UE (Classical.byContradiction he);generalize hw:(iO (bq o x.2.2.1).1 (bq o x.2.2.1).2 v).1=w at h w1 w2 w3 w4;have halt:Al Alt (dA cs j (w,[])) cs:=Hk j2 (.inr ⟨j3,w1,w2⟩);obtain ⟨a,b,d⟩:=AN o l vs _ cs' (fun y hy=>(U2 y (List.mem_cons_of_mem _ hy)).set (o9 y hy) _) p2 h;refine ⟨Al.trans' (R:=Alt) (fun _ _ _ h k=>Alt.trans h k) halt a,fun i hi=>?_,fun k y z hy hz=>?_⟩
  ·rw[b i fun y hy=>hi y (List.mem_cons_of_mem _ hy)];exact xT fun e=>hi x (List.mem_cons_self ..) (by rw[j1,e])
  cases k with
  | zero=>
   cases hy;cases hz
   refine ⟨c.amt (w,[]),?_,?_⟩
   ·rw[j1,Int.toNat_natCast,b j o9,qw j2,List.getElem?_set_self (List.getElem?_eq_some_iff.1 j2).1]
   show okV o (LW x (w,[])) v=true;unfold okV LW;rw[w3];simp
  | succ k=>exact d k y z (by simpa using hy) (by simpa using hz)
def uW (cs:List Cs) (j:Int):Nm:=(cs[j.toNat]?).elim ([],[]) Cs.num
def rnK (cs:List Cs) (x:Cl×Int):Cl×Int:=(LW x.1 (uW cs x.1.1),x.2)
theorem tu (gs:List Gd) (all:List Cs):∀ (i:Nat) (cs cs':List Cs) (acc:List (Cl×Int)),all.drop i=cs'→Al Alt cs' cs→bQ gs i cs' (acc.map (rnK all))=((bQ gs i cs acc).1.map (rnK all),(bQ gs i cs acc).2)
 | _,[],[],acc,_,_=>rfl
 | i,c::cs,c'::cs',acc,hd,h=>by
  have hc:all[i]?=some c':=by
   have h1:(all.drop i)[0]?=some c':=by rw[hd];rfl
   rw[List.getElem?_drop] at h1;exact h1
  have hd2:all.drop (i+1)=cs':=by
   rw[←List.drop_drop,hd];rfl
  have ih:=fun acc=>tu gs all (i+1) cs cs' acc hd2 h.2;rw[bQ,bQ,h.1.kind,h.1.aN,List.length_map];split
  ·exact ih acc
  split
  ·rfl
  split
  ·rfl
  split
  ·rfl
  have:=ih (acc++[(((i:Int),c.aN,(fj gs c.aN).2.1,c.num),c.kind)]);rw[←this,List.map_append];have e:uW all ((i:Nat):Int)=c'.num:=by
   unfold uW;rw[Int.toNat_natCast,hc];rfl
  show _=bQ gs (i+1) cs' (acc.map (rnK all)++[(((i:Int),c.aN,(fj gs c.aN).2.1,uW all (i:Int)),c.kind)]);rw[e]
 | _,[],_::_,_,_,h=>h.elim
 | _,_::_,[],_,_,h=>h.elim
theorem JE:∀ (cs cs' acc acc':List Cs),Al Alt cs' cs→(∀ c c',Alt c' c→(acc'.getLast?.any fun y=>!pP y c')=(acc.getLast?.any fun y=>!pP y c))→goT acc cs=0→goT acc' cs'=0
 | [],[],_,_,_,_,_=>rfl
 | c::cs,c'::cs',acc,acc',h,hl,hg=>by
  rw[goT] at hg ⊢;by_cases hn:fI acc c≠0
  ·rw[zB0 hn] at hg;exact absurd hg hn
  rw[zB1 hn] at hg;have D4:fI acc c=0:=Classical.byContradiction hn;have U8:fI acc' c'=0:=by
   unfold fI at D4 ⊢;rw[hl c c' h.1,h.1.ws];by_cases h1:gb c=false
   ·rw[zB0 h1] at D4;cases D4
   rw[zB1 h1] at D4;have G4:¬gb c'=false:=by
    have hc:gb c=true:=by simpa using h1
    obtain ⟨y,rfl,rfl|⟨hk,hy,_⟩⟩:=h.1
    ·exact h1
    unfold gb at hc ⊢;show ¬(if c.face<1∨6<c.face∨c.col<1∨12<c.col∨c.line<1∨99<c.line then false else if c.kind=4 then _ else if c.kind=1∨c.kind=2∨c.kind=3 then (decide (cC y=0)&&(lEq c.aN []||nmB c.aN)) else false)=false;rw[zB1 hk] at hc ⊢;by_cases q1:c.face<1∨6<c.face∨c.col<1∨12<c.col∨c.line<1∨99<c.line
    ·rw[zB0 q1] at hc;cases hc
    rw[zB1 q1] at hc ⊢;by_cases q2:c.kind=1∨c.kind=2∨c.kind=3
    ·rw[zB0 q2,Bool.and_eq_true] at hc;rw[zB0 q2,hc.2,decide_eq_true hy];decide
    rw[zB1 q2] at hc;cases hc
   rw[zB1 G4];exact D4
  rw[zB1 (fun hh=>hh U8)];refine JE cs cs' (acc++[c]) (acc'++[c']) h.2 (fun d d' hd=>?_) hg;rw[Co,Co];show (!pP c' d')=(!pP c d);obtain ⟨y,rfl,_⟩:=h.1;obtain ⟨z,rfl,_⟩:=hd;rfl
 | [],_::_,_,_,h,_,_=>h.elim
 | _::_,[],_,_,h,_,_=>h.elim
theorem RD {o:Option (List Lad)} {gs:List Gd} {nm:List UInt8} {cs cs':List Cs} (h:gE o gs (nm,cs)=0) (ha:Al Alt cs' cs):gE o gs (nm,cs')=0∧eG o gs (nm,cs')=(eG o gs (nm,cs)).map (rnK cs'):=by
 obtain ⟨h1,h2,h3⟩:=kD h;obtain ⟨t1,t2,t3⟩:=tK h2;have hc:=tu gs cs' 0 cs cs' [] rfl ha;have hc:bQ gs 0 cs' []=((bQ gs 0 cs []).1.map (rnK cs'),(bQ gs 0 cs []).2):=hc;have hlen:=ha.len;have ht:kE (nm,cs')=0:=by
  have g:=JE cs cs' [] [] ha (fun _ _ _=>rfl) t3;unfold kE;have t1:nmB nm=true:=t1;have t2:cs.length≤256:=t2;show (if nmB nm=false then (40:Int) else if (256:Int)<cs'.length then 3 else goT [] cs')=0;rw[zB1 (by rw[t1];exact Bool.noConfusion),zB1 (by omega),g]
 have hE:gE o gs (nm,cs')=0:=by
  unfold gE;rw[zB1 (fun hh=>hh h1),zB1 (fun hh=>hh ht)];show (bQ gs 0 cs' []).2=0;rw[hc];exact h3
 refine ⟨hE,?_⟩;unfold eG;rw[zB0 hE,zB0 h];show (bQ gs 0 cs' []).1=_;rw[hc]
theorem wv (o:Option (List Lad)):∀ (l:List Cl) (vs acc:List Int),vs.length=l.length→(∀ x∈l,fH o x.2.2.1=0)→(∀ (k:Nat) (x:Cl) (v:Int),l[k]?=some x→vs[k]?=some v→okV o x v=true)→kA o acc l=(acc++vs,0)
 | [],[],acc,_,_,_=>by rw[kA,List.append_nil]
 | [],_::_,_,h,_,_=>by cases h
 | _::_,[],_,h,_,_=>by cases h
 | x::l,v::vs,acc,hl,i_,h=>by
  have h0:=h 0 x v rfl rfl;unfold okV at h0;rw[Bool.and_eq_true,decide_eq_true_eq,decide_eq_true_eq] at h0;have hr:gM o x=(v,0):=by
   unfold gM;rw[zB1 (fun hh=>hh (i_ x (List.mem_cons_self ..)))];exact Prod.ext h0.2 h0.1
  rw[kA,hr];show (if (0:Int)≠0 then _ else kA o (acc++[v]) l)=_;rw[zB1 (fun h=>h rfl),wv o l vs (acc++[v]) (Nat.succ.inj hl) (fun x hx=>i_ x (List.mem_cons_of_mem _ hx)) fun k x w hx hw=>h (k+1) x w (by simpa using hx) (by simpa using hw)];rw[List.append_assoc];rfl
theorem KO (o:Option (List Lad)):∀ (l:List Cl) (vs:List Int) (cs:List Cs),(∀ (k:Nat) (x:Cl) (v:Int),l[k]?=some x→vs[k]?=some v→okV o x v=true)→gK o l vs cs=(cs,0)
 | [],vs,cs,_=>oZ o vs cs
 | x::l,[],cs,_=>by unfold gK;rfl
 | x::l,v::vs,cs,h=>by
  rw[mI,zB0 (h 0 x v rfl rfl)];exact KO o l vs cs fun k x w hx hw=>h (k+1) x w (by simpa using hx) (by simpa using hw)
theorem LA {o:Option (List Lad)} {gs:List Gd} {nm:List UInt8} {cs:List Cs} {vs:List Int} (h:(jN o gs (nm,cs) vs).2=0):
  ∃ cs',(jN o gs (nm,cs) vs).1=(nm,cs')∧gE o gs (nm,cs')=0∧qI o (cw o gs (nm,cs'))=(vs,0)∧jN o gs (nm,cs') vs=((nm,cs'),0)∧Al Alt cs' cs:=by
 unfold jN at h;by_cases hb:gE o gs (nm,cs)≠0
 ·rw[zB0 hb] at h;exact absurd h hb
 rw[zB1 hb] at h;have m7:gE o gs (nm,cs)=0:=Classical.byContradiction hb;by_cases hv:qq (cw o gs (nm,cs)).1 vs=false
 ·rw[zB0 hv] at h;cases h
 rw[zB1 hv] at h;by_cases hc:(gK o (cw o gs (nm,cs)).1 vs cs).2≠0
 ·rw[zB0 hc] at h;exact absurd h hc
 have b6:(gK o (cw o gs (nm,cs)).1 vs cs).2=0:=Classical.byContradiction hc;refine ⟨(gK o (cw o gs (nm,cs)).1 vs cs).1,?_,?_⟩
 ·unfold jN;rw[zB1 hb,zB1 hv,zB1 hc]
 have Y1:qq (cw o gs (nm,cs)).1 vs=true:=by simpa using hv
 have I4:=Fm Y1;obtain ⟨a,b⟩:=mq m7;have hasc:List.Pairwise (fun x y:Cl×Int=>x.1.1<y.1.1) (eG o gs (nm,cs)):=by
  have hk:eG o gs (nm,cs)=(bQ gs 0 cs []).1:=zB0 m7;rw[hk];exact kh gs 0 cs [] (fun _ h=>absurd h List.not_mem_nil) List.Pairwise.nil
 have V0:(cw o gs (nm,cs)).1=(eG o gs (nm,cs)).map Prod.fst:=rfl;have U2:∀ x∈(cw o gs (nm,cs)).1,PH cs x:=fun x hx=>by
  rw[V0] at hx;obtain ⟨y,hy,rfl⟩:=List.mem_map.1 hx;obtain ⟨⟨j,c,e1,e2,e3,e4,e5,e6,e7,e8,e9⟩,e10⟩:=a y hy;exact ⟨j,c,e1,e2,by rw[e3];exact e8,e7⟩
 obtain ⟨k1,k2,k3⟩:=AN o (cw o gs (nm,cs)).1 vs cs (gK o (cw o gs (nm,cs)).1 vs cs).1 U2 (by rw[V0,List.pairwise_map];exact hasc) (Prod.ext rfl b6);generalize (gK o (cw o gs (nm,cs)).1 vs cs).1=cs' at k1 k2 k3 ⊢;obtain ⟨m1,m2⟩:=RD m7 k1;have hcl':(cw o gs (nm,cs')).1=(eG o gs (nm,cs')).map Prod.fst:=rfl;have J0:∀ (k:Nat) (x:Cl),(cw o gs (nm,cs')).1[k]?=some x→∃ y,(cw o gs (nm,cs)).1[k]?=some y∧x=LW y (uW cs' y.1):=fun k x hx=>by
  rw[hcl',m2,List.map_map,List.getElem?_map] at hx;cases hy:(eG o gs (nm,cs))[k]? with
  | none=>rw[hy] at hx;cases hx
  | some y=>
   rw[hy] at hx;refine ⟨y.1,by rw[V0,List.getElem?_map,hy];rfl,?_⟩;exact (Option.some.inj hx).symm
 have hlen:(cw o gs (nm,cs')).1.length=(cw o gs (nm,cs)).1.length:=by rw[hcl',V0,m2,List.length_map,List.length_map,List.length_map]
 have B1:∀ (k:Nat) (x:Cl) (v:Int),(cw o gs (nm,cs')).1[k]?=some x→vs[k]?=some v→okV o x v=true:=fun k x v hx hw=>by
  obtain ⟨y,hy,rfl⟩:=J0 k x hx;obtain ⟨c',L_,hk⟩:=k3 k y v hy hw;have:uW cs' y.1=c'.num:=by unfold uW;rw[L_];rfl
  rw[this];exact hk
 have i_:∀ x∈(cw o gs (nm,cs')).1,fH o x.2.2.1=0:=fun x hx=>((ox m1).1 x hx).2.1;refine ⟨m1,?_,?_,k1⟩
 ·unfold qI;rw[zB1 (fun hh=>hh (RH m1)),wv o _ vs [] (by rw[hlen];exact I4) i_ B1,List.nil_append]
 have N2:qq (cw o gs (nm,cs')).1 vs=true:=by
  unfold qq at Y1 ⊢;rw[hlen];exact Y1
 unfold jN;rw[zB1 (fun hh=>hh m1),zB1 (by rw[N2];exact Bool.noConfusion)];rw[KO o _ vs cs' B1];rfl
theorem Tg {o:Option (List Lad)} {gs:List Gd} {t:Tb} {vs:List Int} (h:(jN o gs t vs).2≠0):(jN o gs t vs).1=([],[]):=by
 unfold jN at h ⊢;split
 ·rfl
 rename_i c1
 rw[zB1 c1] at h;split
 ·rfl
 rename_i c2
 rw[zB1 c2] at h;split
 ·rfl
 rename_i c3
 rw[zB1 c3] at h;exact absurd rfl h
theorem GR:al Tryz.prog 113=true:=by kernel_rfl
theorem Dp:al Tryz.prog 64=true:=by kernel_rfl
theorem tE:al Tryz.prog 26=true:=by kernel_rfl
theorem GH:al Tryz.prog 27=true:=by kernel_rfl
theorem AS:al Tryz.prog 62=true:=by kernel_rfl
theorem Hf:al Tryz.prog 61=true:=by kernel_rfl
theorem nD:al Tryz.prog 23=true:=by kernel_rfl
theorem Fw (H:Hp) (v w:AC) (l:List Pr) (hv:SlP H v l) (hw:SlP H w l) (hL:l.length≤4611686018427387904):
  Con E2 113 [.one v,.one w] H (fun _=>False) fun r _=>r=.one (.b true):=by
 refine Con.of rfl fun lg=>?_;have hv:SlP ⟨H.t,H.nx,lg⟩ v l:=hv;have hw:SlP ⟨H.t,H.nx,lg⟩ w l:=hw;generalize (⟨H.t,H.nx,lg⟩:Hp)=H at hv hw ⊢;refine C1.body (E:=E2) (nt:=26) (res:=[.tmp 4]) Tryz.func113 rfl rfl rfl rfl rfl fun tm A0=>?_;have h0:=A0 0 _ rfl;have h1:=A0 1 _ rfl;clear A0;have l1:=hv.len;have l2:=hw.len;have l3:=hv.lt;have l4:=hw.lt;have Y0:((l.length:Int)==(l.length:Int))=true:=beq_self_eq_true _;refine zW tyF ?_;refine R1.dp fun K k1 k2 k3 k4=>?_;refine R1.loop (fun k A H2=>∃ i:Nat,k=l.length - i∧i≤l.length∧Gr H H2∧slot A.tm 0=.one (v)∧slot A.tm 1=.one (w)∧slot A.tm 12=.one (.i .i64 (l.length:Int))∧slot A.tm 13=.one (.i .i64 (i:Int))∧A.nt=26∧A.dfr=[]) ?_ l.length ⟨0,rfl,Nat.zero_le _,Fr.refl _,zL⟩;clear h0 h1 tm l1 l2 l3 l4 k3;rintro k A H2 ⟨i,rfl,hi,g2,t0,t1,t12,t13,B0,C0⟩;have N2:=hv.gr g2;have Z8:=hw.gr g2;refine zW tyF ?_;refine zI tyF (fun hc=>?_) (fun hc=>?_)
 ·have D0:i<l.length:=by omega
  have ex:=zB4 D0;have O0:=zC1 D0;have Z0:=zC2 D0;have G0:l[i]∈l:=List.getElem_mem D0;generalize l[i]=x at ex O0 Z0 G0;have Q1:=zC0 i (by omega);clear O0 Z0 G0;obtain ⟨id,g,off,cells,rfl,hid,R0,J0⟩:=N2.open (by omega);obtain ⟨id',g',off',cells',rfl,J1,v3,N3⟩:=Z8.open (by omega);have K0:=J0 i x ex;have F3:=N3 i x ex;have y1:=K0.all;have y2:=K0.le;have y3:=F3.all;have y4:=F3.le;rw[dS] at y1 y3;obtain ⟨x1,x2⟩:=x;have c1:(x1==x1)=true:=beq_self_eq_true _;have c2:(x2==x2)=true:=beq_self_eq_true _;clear J0 N3 K0 F3 ex Y0;refine zW tyF ?_;refine R1.dp fun K2 q1 q2 q3 q4=>?_;refine zW tyF ?_;repeat refine R1.au ?_
  (first|refine R1.Nv (by kernel_rfl) fun K hK=>?_|refine R1.OD (by kernel_rfl) fun K hK=>?_)
  simp only[qB,ay,Nat.reduceLT,ae,t0,t1,B0,pH,zA,bD D0,hid,R0,J1,v3,y1,y2,y3,y4,qu RO,beq_self_eq_true,Bool.and_self];refine hK _ _ ?_;clear hK K;refine qY ?_;refine zW tyF ?_;refine q1.out _ _ ?_;refine zW tyF ?_;exact ⟨l.length - (i+1),by omega,i+1,rfl,D0,g2,zL⟩
 refine zW tyF ?_;refine k2.out _ _ ?_;refine zW tyF ?_;exact ⟨_,_,aj (.b true) (.inr rfl) qe qp,g2,fun _=>rfl⟩
def nf (l k:List Gp):Bool:=decide (l=k)
theorem xq (H:Hp) (v w:AC) (l k:List Gp) (hv:aO H v l) (hw:aO H w k) (hL:l.length≤4611686018427387904):
  Con E2 64 [.one v,.one w] H (fun _=>False) fun r _=>r=.one (.b (nf l k)):=by
 refine Con.of rfl fun lg=>?_;have hv:aO ⟨H.t,H.nx,lg⟩ v l:=hv;have hw:aO ⟨H.t,H.nx,lg⟩ w k:=hw;generalize (⟨H.t,H.nx,lg⟩:Hp)=H at hv hw ⊢;refine C1.body (E:=E2) (nt:=26) (res:=[.tmp 4]) Tryz.func64 rfl rfl rfl rfl rfl fun tm A0=>?_;have h0:=A0 0 _ rfl;have h1:=A0 1 _ rfl;clear A0;have fin:∀ (b:Bool) (A:ab) (H3:Hp),slot A.tm 4=.one (.b b)→A.dfr=[]→Gr H H3→b=nf l k→∃ w H4,aC E2 [.tmp 4] (.ret,A,H3)=.ok [(w,H4)]∧Gr H H4∧∀ _:List Nat,w=.one (.b (nf l k)):=fun b A H3 h1 hd hg hb=>
  ⟨_,H3,aj (.b b) (.inr rfl) hd h1,hg,fun _=>by rw[hb]⟩
 have l1:=hv.len;have l2:=hw.len;have l3:=hv.lt;have l4:=hw.lt;by_cases hlen:l.length=k.length
 case neg=>
  have Y0:((l.length:Int)==(k.length:Int))=false:=zB5 (by omega);have S3:false=nf l k:=(decide_eq_false (fun e=>hlen (by rw[e]))).symm;replace hlen:Hd _:=hlen;replace S3:Hd _:=S3;replace fin:Hd _:=fin;refine zW tyF ?_;exact fin.out false _ _ qp qe (Fr.refl _) S3.out
 have Y0:((l.length:Int)==(k.length:Int))=true:=by rw[hlen];exact beq_self_eq_true _
 replace hlen:Hd (l.length=k.length):=hlen;replace fin:Hd _:=fin;refine zW tyF ?_;refine R1.dp fun K k1 k2 k3 k4=>?_;refine R1.loop (fun m A H2=>∃ i:Nat,m=l.length - i∧i≤l.length∧l.take i=k.take i∧Gr H H2∧slot A.tm 0=.one (v)∧slot A.tm 1=.one (w)∧slot A.tm 12=.one (.i .i64 (l.length:Int))∧slot A.tm 13=.one (.i .i64 (i:Int))∧A.nt=26∧A.dfr=[]) ?_ l.length ⟨0,rfl,Nat.zero_le _,rfl,Fr.refl _,zL⟩;clear h0 h1 tm l1 l2 l3 l4 k3 Y0;rintro m A H2 ⟨i,rfl,hi,G2,g2,t0,t1,t12,t13,B0,C0⟩;replace G2:Hd _:=G2;have N2:=hv.gr g2;have Z8:=hw.gr g2;refine zW tyF ?_;refine zI tyF (fun hc=>?_) (fun hc=>?_)
 ·have D0:i<l.length:=by omega
  have ex:=zB4 D0;have O0:=zC1 D0;have Z0:=zC2 D0;have G0:l[i]∈l:=List.getElem_mem D0;generalize l[i]=x at ex O0 Z0 G0;have Q1:=zC0 i (by omega);have hltk:i<k.length:=by rw[←hlen.out];exact D0
  have ey:k[i]?=some k[i]:=zB4 hltk;generalize hyk:k[i]=y at ey;clear hyk;obtain ⟨id,g,off,cells,rfl,hid,R0,J0⟩:=N2.open (by omega);obtain ⟨id',g',off',cells',rfl,J1,v3,N3⟩:=Z8.open (by omega);have K0:=J0 i x ex;have F3:=N3 i y ey;have y1:=K0.all;have y2:=K0.le;have y3:=F3.all;have y4:=F3.le;rw[du] at y1 y3;clear J0 N3 K0 F3 O0 Z0 G0;replace ex:Hd _:=ex;replace ey:Hd _:=ey;refine zW tyF ?_;refine R1.dp fun K2 q1 q2 q3 q4=>?_;refine zW tyF ?_;by_cases s_:x=y
  ·subst s_;obtain ⟨x1,x2,x3⟩:=x;have F9:l.take (i+1)=k.take (i+1):=by rw[List.take_add_one,List.take_add_one,G2.out,ex.out,ey.out]
   replace F9:Hd _:=F9;have hK4:Hd (Gr H H2):=g2;repeat refine R1.au ?_
   (first|refine R1.Nv (by kernel_rfl) fun K hK=>?_|refine R1.OD (by kernel_rfl) fun K hK=>?_)
   simp only[qB,ay,Nat.reduceLT,ae,t0,t1,B0,eS,fl,bD D0,bD hltk,hid,R0,J1,v3,y1,y2,y3,y4,qu Hu,beq_self_eq_true,Bool.and_self];refine hK _ _ ?_;clear hK K;refine qY ?_;refine zW tyF ?_;refine q1.out _ _ ?_;refine zW tyF ?_;exact ⟨l.length - (i+1),by omega,i+1,rfl,D0,F9.out,g2,zL⟩
  have hb:(x.1==y.1&&(x.2.1==y.2.1&&(x.2.2==y.2.2&&true)))=false:=by
   obtain ⟨x1,x2,x3⟩:=x;obtain ⟨z1,z2,z3⟩:=y;by_cases a1:x1=z1
   ·by_cases a2:x2=z2
    ·by_cases a3:x3=z3
     ·exact absurd (by rw[a1,a2,a3]) s_
     show (x1==z1&&(x2==z2&&(x3==z3&&true)))=false;rw[zB5 a3];simp
    show (x1==z1&&(x2==z2&&(x3==z3&&true)))=false;rw[zB5 a2];simp
   show (x1==z1&&(x2==z2&&(x3==z3&&true)))=false;rw[zB5 a1];simp
  have S3:false=nf l k:=(decide_eq_false (fun e=>s_ (by
   have h1:=ex.out;have h2:=ey.out;rw[e,h2] at h1;exact (Option.some.inj h1).symm))).symm
  replace S3:Hd _:=S3;replace s_:Hd _:=s_;repeat refine R1.au ?_
  (first|refine R1.Nv (by kernel_rfl) fun K hK=>?_|refine R1.OD (by kernel_rfl) fun K hK=>?_)
  simp only[qB,ay,Nat.reduceLT,ae,t0,t1,B0,eS,fl,bD D0,bD hltk,hid,R0,J1,v3,y1,y2,y3,y4,qu Hu,hb];refine hK _ _ ?_;clear hK K;refine qY ?_;refine zW tyF ?_;refine q4.out _ _ ?_;refine k4.out _ _ ?_;exact fin.out false _ _ qp qe g2 S3.out
 have S3:true=nf l k:=(decide_eq_true (by
  have h1:=G2.out;have e:i=l.length:=by omega
  rw[e,List.take_length,hlen.out,List.take_length] at h1;exact h1)).symm
 replace S3:Hd _:=S3;refine zW tyF ?_;refine k2.out _ _ ?_;refine zW tyF ?_;exact fin.out true _ _ qp qe g2 S3.out
theorem sy (H:Hp) (a b c d:AC) (x y:Nm) (ha:aO H a x.1) (hb:aO H b x.2) (hc:aO H c y.1) (hd:aO H d y.2) (hL1:x.1.length≤4611686018427387904) (hL2:x.2.length≤4611686018427387904):
  Con E2 26 [.agg [a,b],.agg [c,d]] H (fun _=>False) fun r _=>r=.one (.b (nf x.1 y.1&&nf x.2 y.2)):=by
 refine Con.of rfl fun lg=>?_;have ha:aO ⟨H.t,H.nx,lg⟩ a x.1:=ha;have hb:aO ⟨H.t,H.nx,lg⟩ b x.2:=hb;have hc:aO ⟨H.t,H.nx,lg⟩ c y.1:=hc;have hd:aO ⟨H.t,H.nx,lg⟩ d y.2:=hd;generalize (⟨H.t,H.nx,lg⟩:Hp)=H at ha hb hc hd ⊢;refine C1.body (E:=E2) (nt:=17) (res:=[.tmp 4]) Tryz.func26 rfl rfl rfl rfl rfl fun tm A0=>?_;have h0:=A0 0 _ rfl;have h1:=A0 1 _ rfl;clear A0;have la:=ha.lt;have lb:=hb.lt;have lc:=hc.lt;have ld:=hd.lt;refine zG tyF fun K hK=>?_;refine hK.out _ _ ?_;refine R1.gen (fun A1 H1=>Gr H H1∧H.nx+1<H1.nx∧H1.get H.nx=some (.arr [a,b] 66 0 0)∧H1.get (H.nx+1)=some (.arr [c,d] 66 0 0)∧slot A1.tm 2=.one ((.o (.ptr H.nx 0 0 2)))∧slot A1.tm 3=.one ((.o (.ptr (H.nx+1) 0 0 2)))∧A1.nt=17∧A1.dfr=[])
  ⟨((Fr.refl _).new _).new _,by show H.nx+1<H.nx+1+1;omega,by rw[aM (by show H.nx<H.nx+1;omega)];exact az rfl,az rfl,zL⟩ ?_
 clear h0 h1 tm hK K la lb lc ld;rintro A1 H1 ⟨g1,n1,ra,rb,t2,t3,B0,C0⟩;have m1:H.nx<H1.nx:=by omega
 have ha:=ha.gr g1;have hb:=hb.gr g1;have hc:=hc.gr g1;have hd:=hd.gr g1;refine zG (qA tyF Dp) fun K hK=>?_;refine WE.con (xq H1 a c x.1 y.1 ha hc hL1) fun v H2 g2 hv=>?_;subst hv;have ra:=(g2.get _ m1 zB2).trans ra;have m1:=zA0 m1 g2.nx;have rb:=(g2.get _ n1 zB2).trans rb;have n1:=zA0 n1 g2.nx;have hb:=hb.gr g2;have hd:=hd.gr g2;have g2:=g1.gr g2;cases e1:nf x.1 y.1 with
 | false=>
  replace e1:Hd _:=e1;refine zK tyF ?_;exact ⟨_,_,aj (.b false) (.inr rfl) qe qp,g2,fun _=>by rw[e1.out,Bool.false_and]⟩
 | true=>
  replace e1:Hd _:=e1;refine zS (qA tyF Dp) ?_;refine WE.con (xq H2 b d x.2 y.2 hb hd hL2) fun v H3 g3 hv=>?_;subst hv;refine zK tyF ?_;exact ⟨_,_,aj (.b (nf x.2 y.2)) (.inr rfl) qe qp,g2.gr g3,fun _=>by rw[e1.out,Bool.true_and]⟩
theorem Ed (H:Hp) (a b:AC) (x:Nm) (ha:aO H a x.1) (hb:aO H b x.2):
  Con E2 27 [.agg [a,b]] H (fun _=>False) fun r _=>r=.one (.b (decide (cC x=0)&&jf x.1)):=by
 refine Con.of rfl fun lg=>?_;have ha:aO ⟨H.t,H.nx,lg⟩ a x.1:=ha;have hb:aO ⟨H.t,H.nx,lg⟩ b x.2:=hb;generalize (⟨H.t,H.nx,lg⟩:Hp)=H at ha hb ⊢;refine C1.body (E:=E2) (nt:=11) (res:=[.tmp 2]) Tryz.func27 rfl rfl rfl rfl rfl fun tm A0=>?_;have h0:=A0 0 _ rfl;clear A0;have la:=ha.lt;have lb:=hb.lt;refine zG tyF fun K hK=>?_;refine hK.out _ _ ?_;refine R1.gen (fun A1 H1=>Gr H H1∧H.nx<H1.nx∧H1.get H.nx=some (.arr [a,b] 66 0 0)∧slot A1.tm 1=.one ((.o (.ptr H.nx 0 0 2)))∧A1.nt=11∧A1.dfr=[])
  ⟨(Fr.refl _).new _,zA6 _,az rfl,zL⟩ ?_
 clear h0 tm hK K la lb;rintro A1 H1 ⟨g1,m1,ra,t1,B0,C0⟩;have ha:=ha.gr g1;have hb:=hb.gr g1;refine zG (qA tyF jc) fun K hK=>?_;refine WE.con (hG H1 a b x ha hb) fun v H2 g2 hv=>?_;subst hv;have ra:=(g2.get _ m1 zB2).trans ra;have m1:=zA0 m1 g2.nx;have ha:=ha.gr g2;have g2:=g1.gr g2;have hlen:=@yE x;obtain ⟨e0,hce⟩:∃ e,e=cC x:=⟨_,rfl⟩;rw[←hce] at hlen ⊢;replace hce:Hd _:=hce;by_cases he:e0=0
 ·subst he;have hlen:=(hlen rfl).1;have b6:((0:Int)==0)=true:=rfl;have M9:x.1.length≤1000000:=by omega
  refine zS (qA tyF qt) ?_;refine WE.con (oe H2 a x.1 ha M9) fun v H3 g3 hv=>?_;subst hv;refine zK tyF ?_;exact ⟨_,_,aj (.b (jf x.1)) (.inr rfl) qe qp,g2.gr g3,fun _=>by rw[←hce.out,decide_eq_true rfl,Bool.true_and]⟩
 have b6:(e0==0)=false:=zB5 he;replace he:Hd _:=he;clear hlen;refine zK tyF ?_;exact ⟨_,_,aj (.b false) (.inr rfl) qe qp,g2,fun _=>by rw[←hce.out,decide_eq_false he.out,Bool.false_and]⟩
theorem vQ (H:Hp) (c:Cs) (p q w p' q' w':AC) (hp:aO H p c.num.1) (hq:aO H q c.num.2) (hw:SlP H w c.ws) (F2:aO H p' c.num.1) (J3:aO H q' c.num.2) (U1:SlP H w' c.ws) (G4:c.num.1.length≤4611686018427387904) (o7:c.num.2.length≤4611686018427387904) (h3':c.ws.length≤4611686018427387904):
  Con E2 62 [.agg (csC c p q w),.agg (csC c p' q' w')] H (fun _=>False) fun r _=>r=.one (.b true):=by
 rw[JQ,JQ];refine Con.of rfl fun lg=>?_;have hp:aO ⟨H.t,H.nx,lg⟩ p c.num.1:=hp;have hq:aO ⟨H.t,H.nx,lg⟩ q c.num.2:=hq;have hw:SlP ⟨H.t,H.nx,lg⟩ w c.ws:=hw;have F2:aO ⟨H.t,H.nx,lg⟩ p' c.num.1:=F2;have J3:aO ⟨H.t,H.nx,lg⟩ q' c.num.2:=J3;have U1:SlP ⟨H.t,H.nx,lg⟩ w' c.ws:=U1;generalize (⟨H.t,H.nx,lg⟩:Hp)=H at hp hq hw F2 J3 U1 ⊢;refine C1.body (E:=E2) (nt:=52) (res:=[.tmp 4]) Tryz.func62 rfl rfl rfl rfl rfl fun tm A0=>?_;have h0:=A0 0 _ rfl;have h1:=A0 1 _ rfl;clear A0;obtain ⟨fc,cl,ln,kd,nu,gd,ws⟩:=c;have lp:=hp.lt;have lq:=hq.lt;have lw:=hw.lt;have lp':=F2.lt;have lq':=J3.lt;have lw':=U1.lt;refine zG tyF fun K hK=>?_;refine hK.out _ _ ?_;refine R1.gen (fun A1 H1=>Gr H H1∧H.nx+1<H1.nx∧H1.get H.nx=some (.arr [.i .i64 fc,.i .i64 cl,.i .i64 ln,.i .i64 kd,p,q,.o (.str gd),w] 69 0 0)∧H1.get (H.nx+1)=some (.arr [.i .i64 fc,.i .i64 cl,.i .i64 ln,.i .i64 kd,p',q',.o (.str gd),w'] 69 0 0)∧slot A1.tm 2=.one ((.o (.ptr H.nx 0 0 8)))∧slot A1.tm 3=.one ((.o (.ptr (H.nx+1) 0 0 8)))∧A1.nt=52∧A1.dfr=[])
  ⟨((Fr.refl _).new _).new _,by show H.nx+1<H.nx+1+1;omega,by rw[aM (by show H.nx<H.nx+1;omega)];exact az rfl,az rfl,zL⟩ ?_
 clear h0 h1 tm hK K lp lq lw lp' lq' lw';rintro A1 H1 ⟨g1,n1,ra,rb,t2,t3,B0,C0⟩;have m1:H.nx<H1.nx:=by omega
 have hp:=hp.gr g1;have hq:=hq.gr g1;have hw:=hw.gr g1;have F2:=F2.gr g1;have J3:=J3.gr g1;have U1:=U1.gr g1;have c1:(fc==fc)=true:=beq_self_eq_true _;have c2:(cl==cl)=true:=beq_self_eq_true _;have c3:(ln==ln)=true:=beq_self_eq_true _;have c4:(kd==kd)=true:=beq_self_eq_true _;have c5:lEq gd gd=true:=CP gd;have c6:(gd==gd)=true:=beq_self_eq_true _;have hs:=sy H1 p q p' q' nu nu hp hq F2 J3 G4 o7;have ea:(nf nu.1 nu.1&&nf nu.2 nu.2)=true:=by unfold nf;simp
 rw[ea] at hs;clear ea;replace hs:Hd (Con E2 _ _ _ _ _):=hs;refine zG (qA tyF tE) fun K hK=>?_;refine WE.con hs.out fun v H2 g2 hv=>?_;subst hv;clear hs;have ra:=(g2.get _ m1 zB2).trans ra;have m1:=zA0 m1 g2.nx;have rb:=(g2.get _ n1 zB2).trans rb;have n1:=zA0 n1 g2.nx;have hw:=hw.gr g2;have U1:=U1.gr g2;refine zS (qA tyF GR) ?_;refine WE.con (Fw H2 w w' ws hw U1 h3') fun v H3 g3 hv=>?_;subst hv;refine zK tyF ?_;exact ⟨_,_,aj (.b true) (.inr rfl) qe qp,(g1.gr g2).gr g3,fun _=>rfl⟩
theorem El (H:Hp) (v w:AC) (l:List Cs) (hv:ca H v l) (hw:ca H w l) (hB:TbB l):
  Con E2 61 [.one v,.one w,.one (.o (.clo 62 []))] H (fun _=>False) fun r _=>r=.one (.b true):=by
 refine Con.of rfl fun lg=>?_;have hv:ca ⟨H.t,H.nx,lg⟩ v l:=hv;have hw:ca ⟨H.t,H.nx,lg⟩ w l:=hw;generalize (⟨H.t,H.nx,lg⟩:Hp)=H at hv hw ⊢;refine C1.body (E:=E2) (nt:=32) (res:=[.tmp 6]) Tryz.func61 rfl rfl rfl rfl rfl fun tm A0=>?_;have h0:=A0 0 _ rfl;have h1:=A0 1 _ rfl;have h2:=A0 2 _ rfl;clear A0;have hl:l.length*120≤140737488355328:=hB.c;have l1:=hv.len;have l2:=hw.len;have l3:=hv.lt;have l4:=hw.lt;have Y0:((l.length:Int)==(l.length:Int))=true:=beq_self_eq_true _;refine zW tyF ?_;refine R1.dp fun K k1 k2 k3 k4=>?_;refine R1.loop (fun k A H2=>∃ i:Nat,k=l.length - i∧i≤l.length∧Gr H H2∧slot A.tm 1=.one (w)∧slot A.tm 2=.one ((.o (.clo 62 [])))∧slot A.tm 15=.one (v)∧slot A.tm 16=.one (.i .i64 (l.length:Int))∧slot A.tm 17=.one (.i .i64 (i:Int))∧A.nt=32∧A.dfr=[]) ?_ l.length ⟨0,rfl,Nat.zero_le _,Fr.refl _,zL⟩;clear h0 h1 h2 tm l1 l2 l3 l4 k3 Y0;rintro k A H2 ⟨i,rfl,hi,g2,t1,t2,t15,t16,t17,B0,C0⟩;have N2:=hv.gr g2;have Z8:=hw.gr g2;refine zW tyF ?_;refine zI tyF (fun hc=>?_) (fun hc=>?_)
 ·have D0:i<l.length:=by omega
  have ex:=zB4 D0;have O0:=zC1 D0;have Z0:=zC2 D0;have G0:l[i]∈l:=List.getElem_mem D0;generalize l[i]=x at ex O0 Z0 G0;have Q1:=zC0 i (by omega);have hBn:=hB.n x G0;have hBw:=hB.w x G0;obtain ⟨id,g,off,cells,rfl,hid,R0,J0⟩:=N2.open (by omega);obtain ⟨id',g',off',cells',rfl,J1,v3,N3⟩:=Z8.open (by omega);obtain ⟨p,q,u,K0⟩:=J0 i x ex;obtain ⟨p',q',u',F3⟩:=N3 i x ex;have y1:=K0.all;have y2:=K0.le;have y3:=F3.all;have y4:=F3.le;have o1:=K0.of1;have o2:=K0.of2;have o3:=K0.of3;have o4:=F3.of1;have o5:=F3.of2;have o6:=F3.of3;have z1:=o1.lt;have z2:=o2.lt;have z3:=o3.lt;have z4:=o4.lt;have z5:=o5.lt;have z6:=o6.lt;clear J0 N3 K0 F3 ex O0 Z0 G0;refine zW tyF ?_;refine R1.dp fun K2 q1 q2 q3 q4=>?_;refine zW (qA tyF (ixC D0)) ?_;refine R1.gen (fun A3 H3=>Gr H2 H3∧H2.nx+1<H3.nx∧H3.get H2.nx=some (.arr [.i .i64 x.face,.i .i64 x.col,.i .i64 x.line,.i .i64 x.kind,p,q,.o (.str x.aN),u] 69 0 0)∧H3.get (H2.nx+1)=some (.arr [.i .i64 x.face,.i .i64 x.col,.i .i64 x.line,.i .i64 x.kind,p',q',.o (.str x.aN),u'] 69 0 0)∧slot A3.tm 1=.one ((.o (.sl id' g' off' l.length 8)))∧slot A3.tm 2=.one ((.o (.clo 62 [])))∧slot A3.tm 15=.one ((.o (.sl id g off l.length 8)))∧slot A3.tm 16=.one (.i .i64 (l.length:Int))∧slot A3.tm 17=.one (.i .i64 (i:Int))∧slot A3.tm 8=.one ((.o (.ptr H2.nx 0 0 8)))∧slot A3.tm 9=.one ((.o (.ptr (H2.nx+1) 0 0 8)))∧A3.nt=32∧A3.dfr=[])
   ⟨((((Fr.refl _).new _).mod _ (.inl (zA1 _))).new _).mod _ (.inl (Nat.le_succ _)),by show H2.nx+1<H2.nx+1+1;omega,by rw[aq (by show H2.nx≠H2.nx+1;omega),aM (by show H2.nx<H2.nx+1;omega)];exact ak rfl,ak rfl,zL⟩ ?_
  clear t1 t2 t15 t16 t17 B0 C0 A z1 z2 z3 z4 z5 z6 hid R0 J1 v3 y1 y2 y3 y4;rintro A H3 ⟨g3,n3,rx,ry,t1,t2,t15,t16,t17,t8,t9,B0,C0⟩;have n3':H2.nx<H3.nx:=by omega
  have o1:=o1.gr g3;have o2:=o2.gr g3;have o3:=o3.gr g3;have o4:=o4.gr g3;have o5:=o5.gr g3;have o6:=o6.gr g3;have z7:=vQ H3 x p q u p' q' u' o1 o2 o3 o4 o5 o6 (by omega) (by omega) (by omega);rw[JQ,JQ] at z7;replace z7:Hd (Con E2 _ _ _ _ _):=z7;refine zG (qA tyF AS) fun K3 T4=>?_;refine WE.con z7.out fun w3 H4 g4 T8=>?_;subst T8;have g14:=(g2.gr g3).gr g4;clear z7 rx ry;refine zK tyF ?_;refine q1.out _ _ ?_;refine zW tyF ?_;exact ⟨l.length - (i+1),by omega,i+1,rfl,D0,g14,zL⟩
 refine zW tyF ?_;refine k2.out _ _ ?_;refine zW tyF ?_;exact ⟨_,_,aj (.b true) (.inr rfl) qe qp,g2,fun _=>rfl⟩
theorem lZ (H:Hp) (nm:List UInt8) (v w:AC) (l:List Cs) (hv:ca H v l) (hw:ca H w l) (hB:TbB l):
  Con E2 23 [.agg [.o (.str nm),v],.agg [.o (.str nm),w]] H (fun _=>False) fun r _=>r=.one (.b true):=by
 refine Con.of rfl fun lg=>?_;have hv:ca ⟨H.t,H.nx,lg⟩ v l:=hv;have hw:ca ⟨H.t,H.nx,lg⟩ w l:=hw;generalize (⟨H.t,H.nx,lg⟩:Hp)=H at hv hw ⊢;refine C1.body (E:=E2) (nt:=17) (res:=[.tmp 4]) Tryz.func23 rfl rfl rfl rfl rfl fun tm A0=>?_;have h0:=A0 0 _ rfl;have h1:=A0 1 _ rfl;clear A0;have l3:=hv.lt;have l4:=hw.lt;refine zG tyF fun K hK=>?_;refine hK.out _ _ ?_;refine R1.gen (fun A1 H1=>Gr H H1∧H.nx+1<H1.nx∧H1.get H.nx=some (.arr [.o (.str nm),v] 26 0 0)∧H1.get (H.nx+1)=some (.arr [.o (.str nm),w] 26 0 0)∧slot A1.tm 2=.one ((.o (.ptr H.nx 0 0 2)))∧slot A1.tm 3=.one ((.o (.ptr (H.nx+1) 0 0 2)))∧A1.nt=17∧A1.dfr=[])
  ⟨((Fr.refl _).new _).new _,by show H.nx+1<H.nx+1+1;omega,by rw[aM (by show H.nx<H.nx+1;omega)];exact az rfl,az rfl,zL⟩ ?_
 clear h0 h1 tm hK K l3 l4;rintro A1 H1 ⟨g1,n1,ra,rb,t2,t3,B0,C0⟩;have m1:H.nx<H1.nx:=by omega
 have hv:=hv.gr g1;have hw:=hw.gr g1;have c5:lEq nm nm=true:=CP nm;have c6:(nm==nm)=true:=beq_self_eq_true _;refine zG (qA tyF Hf) fun K hK=>?_;refine WE.con (El H1 v w l hv hw hB) fun v2 H2 g2 hq=>?_;subst hq;refine zK tyF ?_;exact ⟨_,_,aj (.b true) (.inr rfl) qe qp,g1.gr g2,fun _=>rfl⟩
theorem Ns (gs:List Gd):∀ (l pre:List (Cl×Int)),pre.length+l.length≤64→∀ r∈dv gs pre l,r.2.length≤64:=fun l pre h r hr=>by
 obtain ⟨k,x,fr,_,_,_,e⟩:=(nH gs l pre).1 r hr;rw[e];have h1:=tT (fj gs x.1.2.1) fr 0 (pre++l.take k);rw[List.length_append,List.length_take] at h1;omega
theorem Ul {o:Option (List Lad)} {gs:List Gd} {t:Tb} (hB:TbB t.2):PzB (cw o gs t):=by
 by_cases h:gE o gs t=0
 ·obtain ⟨a,b⟩:=ox h;obtain ⟨_,c⟩:=mq h;have hr:=kC gs [] (eG o gs t);refine ⟨by omega,?_,fun x hx=>?_,fun r hr=>?_⟩
  ·show (dv gs [] (eG o gs t)).length*32≤_;omega
  ·obtain ⟨_,_,c,hc,e⟩:=a x hx;rw[e];exact hB.n c hc
  have:=Ns gs (eG o gs t) [] (by rw[List.length_nil];omega) r hr;omega
 have e:eG o gs t=[]:=zB1 h;have e2:cw o gs t=([],[]):=by unfold cw;rw[e];rfl
 rw[e2];exact ⟨by decide,by decide,fun _ h=>absurd h List.not_mem_nil,fun _ h=>absurd h List.not_mem_nil⟩
theorem ca.nil0 {H:Hp}:ca H (.o .nilS) []:=⟨[],⟨by simp,.inl ⟨rfl,rfl⟩⟩,trivial⟩
theorem ca.one {H:Hp} {id:Nat} {c:List AC} {x:Cs} {e:TypeId} (hg:H.get id=some (.arr c e 0 0)) (hid:id<H.nx) (hl:c.length=8) (hc:CsR H c x):ca H (.o (.sl id 0 0 1 8)) [x]:=by
 refine ⟨[c],⟨by show (c++[]).length=1*8;rw[List.append_nil,hl],.inr ⟨id,0,0,rfl,hid,c,by rw[hg];exact bX (zA1 _) (zA1 _),by rw[hl];show 0+1*8≤8;decide,?_⟩⟩,⟨hl,hc⟩,trivial⟩;show (c.drop 0).take 8=c++[];rw[List.drop_zero,List.append_nil,List.take_of_length_le (by omega)]
theorem Alt.B {cs' cs:List Cs} (h:Al Alt cs' cs) {i:Nat} {x':Cs} (hx:cs'[i]?=some x'):∃ x y,cs[i]?=some x∧x'=x.amt y∧(y=x.num∨cC y=0∧jf y.1=false):=by
 obtain ⟨x,hx,y,hy,hh⟩:=Al.at' h hx;exact ⟨x,y,hx,hy,hh.imp_right fun h=>h.2⟩
theorem Gw (H:Hp) (lv gv tv w:AC) (ls:List Lad) (gs:List Gd) (nm:List UInt8) (cs:List Cs) (vs:List Int) (hl:eL H lv ls) (hg:SlG H gv gs) (ht:ca H tv cs) (hw:SlI H w vs) (hGB:∀ x∈gs,x.2.2.length*16≤140737488355328) (hB:TbB cs) (hV:vs.length*8≤140737488355328):
  C1 E2 6 [.agg [lv,gv,.o (.str nm),tv],.one w] H fun r _=>r=.one (.b true):=by
 refine C1.body (E:=E2) (nt:=138) (res:=[.tmp 4]) Tryz.func6 rfl rfl rfl rfl rfl fun tm A0=>?_;have h0:=A0 0 _ rfl;have h1:=A0 1 _ rfl;clear A0;have hO:∀ x∈gs,x.2.2.length≤4611686018427387904:=fun x hx=>by have:=hGB x hx;omega
 have hV2:vs.length≤4611686018427387904:=by omega
 have lll:=hl.lt;have llg:=hg.lt;have llt:=ht.lt;refine zG tyF fun K hK=>?_;refine hK.out _ _ ?_;refine R1.gen (fun A1 H1=>Gr H H1∧H.nx<H1.nx∧H1.get H.nx=some (.arr [lv,gv,.o (.str nm),tv] 28 0 0)∧slot A1.tm 1=.one (w)∧slot A1.tm 2=.one ((.o (.ptr H.nx 0 0 4)))∧A1.nt=138∧A1.dfr=[])
  ⟨(Fr.refl _).new _,zA6 _,az rfl,zL⟩ ?_
 clear h0 h1 tm hK K lll llg llt;rintro A1 H1 ⟨g1,m1,r1,t1,t2,B0,C0⟩;obtain ⟨N,hN⟩:∃ N,N=H.nx:=⟨_,rfl⟩;rw[←hN] at m1 r1 t2;clear hN;have hl:=hl.gr g1;have hg:=hg.gr g1;have ht:=ht.gr g1;have hw:=hw.gr g1;clear g1;refine zG (qA tyF PC) fun K hK=>?_;refine WE.con (Me H1 lv ls hl) fun w2 H2 g2 ⟨p1,p2,C4,hp,_⟩=>?_;subst C4;have r1:=(g2.get _ m1 zB2).trans r1;have m1:=zA0 m1 g2.nx;have hg:=hg.gr g2;have ht:=ht.gr g2;have hw:=hw.gr g2;clear g2 hl;have S2:∀ l,bkO ls=some l→(∀ x∈l,x.2.length≤1000000):=fun l h x hx=>by have:=(Ui h).2 x hx;omega
 generalize bkO ls=o at hp S2;refine zK tyF ?_;refine zG (qA tyF ue) fun K hK=>?_;refine WE.con (rN H2 p1 gv tv w o gs nm cs vs hp S2 hg ht hB hO hw hV2) fun w5 H5 g5 ⟨va,Y6,Q3⟩=>?_;subst Y6;have r1:=(g5.get _ m1 zB2).trans r1;have m1:=zA0 m1 g5.nx;have hg:=hg.gr g5;have ht:=ht.gr g5;have hw:=hw.gr g5;have hp:=hp.gr g5;clear g5;have lva:=Q3.lt;refine zE tyF ?_;refine R1.gen (fun A6 H6=>Gr H5 H6∧H5.nx<H6.nx∧H6.get H5.nx=some (.arr [.o (.str (jN o gs (nm,cs) vs).1.1),va] 26 0 0)∧slot A6.tm 1=.one (w)∧slot A6.tm 2=.one ((.o (.ptr N 0 0 4)))∧slot A6.tm 5=.one (p1)∧slot A6.tm 7=.one ((.o (.ptr H5.nx 0 0 2)))∧slot A6.tm 8=.one ((.i .i64 (jN o gs (nm,cs) vs).2))∧A6.nt=138∧A6.dfr=[])
  ⟨((Fr.refl _).new _).mod _ (.inl (zA1 _)),zA6 _,ak rfl,zL⟩ ?_
 clear t1 t2 B0 C0 A1 lva hK K;rintro A H6 ⟨g6,m2,r2,t1,t2,t5,t7,t8,B0,C0⟩;have r1:=(g6.get _ m1 zB2).trans r1;have m1:=zA0 m1 g6.nx;have hg:=hg.gr g6;have ht:=ht.gr g6;have hw:=hw.gr g6;have hp:=hp.gr g6;have Q3:=Q3.gr g6;obtain ⟨M,hM⟩:∃ M,M=H5.nx:=⟨_,rfl⟩;rw[←hM] at m2 r2 t7;clear hM g6;have d_:TbB (jN o gs (nm,cs) vs).1.2:=UC o gs (nm,cs) vs hB;have Q5:=@LA o gs nm cs vs;have O4:=@Tg o gs (nm,cs) vs;generalize jN o gs (nm,cs) vs=ce at Q3 r2 t8 d_ Q5 O4;obtain ⟨⟨n',cs'⟩,e0⟩:=ce;replace Q3:ca H6 va cs':=Q3;replace r2:H6.get M=some (.arr [.o (.str n'),va] 26 0 0):=r2;replace t8:slot A.tm 8=.one (.i .i64 e0):=t8;replace d_:TbB cs':=d_;by_cases he:e0=0
 case neg=>
  have hnil:=O4 he;cases hnil
  have Y0:(e0==0)=false:=zB5 he;clear Q5 O4 he;refine zW tyF ?_;refine zG (qA tyF nD) fun K hK=>?_;refine WE.con (lZ H6 [] va (.o .nilS) [] Q3 ca.nil0 TbB.nil) fun w7 H7 g7 j8=>?_;subst j8;refine zS (qA tyF FX) ?_;refine WE.con (yI (X:=fun _=>False) H7) fun w11 H11 g11 hq11=>?_;subst hq11;refine zK tyF ?_;exact ⟨_,_,aj (.b true) (.inr rfl) qe qp,rfl⟩
 subst he;obtain ⟨cs2,h1,h2,h3,h4,h5⟩:=Q5 rfl;cases h1
 clear Q5 O4;have Y0:((0:Int)==0)=true:=rfl;have l7:cs'.length*120≤140737488355328:=d_.c;have hlen:cs'.length=cs.length:=h5.len;replace hlen:Hd _:=hlen;have hPB:PzB (cw o gs (nm,cs')):=Ul (t:=(nm,cs')) d_;replace h5:Hd _:=h5;refine zW tyF ?_;refine zG (qA tyF Dd) fun K hK=>?_;refine WE.con (tP H6 p1 gv va o gs nm cs' hp S2 hg Q3 d_ hO) fun w7 H7 g7 ⟨a,b,j8,hsa,hsb⟩=>?_;rw[h2] at j8;subst j8;clear h2;have r1:=(g7.get _ m1 zB2).trans r1;have m1:=zA0 m1 g7.nx;have r2:=(g7.get _ m2 zB2).trans r2;have m2:=zA0 m2 g7.nx;have hg:=hg.gr g7;have ht:=ht.gr g7;have hw:=hw.gr g7;have hp:=hp.gr g7;have Q3:=Q3.gr g7;clear g7;have la:=hsa.lt;have lb:=hsb.lt;refine zE tyF ?_;refine R1.gen (fun A8 H8=>Gr H7 H8∧H7.nx<H8.nx∧H8.get H7.nx=some (.arr [a,b] 37 0 0)∧slot A8.tm 1=.one (w)∧slot A8.tm 2=.one ((.o (.ptr N 0 0 4)))∧slot A8.tm 5=.one (p1)∧slot A8.tm 7=.one ((.o (.ptr M 0 0 2)))∧slot A8.tm 9=.one ((.o (.ptr H7.nx 0 0 2)))∧slot A8.tm 10=.one (.i .i64 (0:Int))∧A8.nt=138∧A8.dfr=[])
  ⟨((Fr.refl _).new _).mod _ (.inl (zA1 _)),zA6 _,ak rfl,zL⟩ ?_
 clear t1 t2 t5 t7 t8 B0 C0 A la lb hK K Y0;rintro A H8 ⟨g8,m3,r3,t1,t2,t5,t7,t9,t10,B0,C0⟩;have r1:=(g8.get _ m1 zB2).trans r1;have m1:=zA0 m1 g8.nx;have r2:=(g8.get _ m2 zB2).trans r2;have m2:=zA0 m2 g8.nx;have hg:=hg.gr g8;have ht:=ht.gr g8;have hw:=hw.gr g8;have hp:=hp.gr g8;have Q3:=Q3.gr g8;have hsa:=hsa.gr g8;have hsb:=hsb.gr g8;obtain ⟨P,hP⟩:∃ P,P=H7.nx:=⟨_,rfl⟩;rw[←hP] at m3 r3 t9;clear hP g8;refine zG (qA tyF Mv) fun K hK=>?_;refine WE.con (HG H8 p1 a b o (cw o gs (nm,cs')) hp S2 hsa hsb hPB) fun w9 H9 g9 ⟨c,hq9,hc⟩=>?_;rw[h3] at hq9 hc;replace hc:SlI H9 c vs:=hc;subst hq9;clear h3 hsa hsb hPB r3 m3;have r1:=(g9.get _ m1 zB2).trans r1;have m1:=zA0 m1 g9.nx;have r2:=(g9.get _ m2 zB2).trans r2;have m2:=zA0 m2 g9.nx;have hg:=hg.gr g9;have ht:=ht.gr g9;have hw:=hw.gr g9;have hp:=hp.gr g9;have Q3:=Q3.gr g9;clear g9;refine zK tyF ?_;refine zG (qA tyF ue) fun K hK=>?_;refine WE.con (rN H9 p1 gv va w o gs nm cs' vs hp S2 hg Q3 d_ hO hw hV2) fun w10 H10 g10 ⟨vb,p7,J4⟩=>?_;rw[h4] at p7 J4;replace J4:ca H10 vb cs':=J4;subst p7;clear h4;have r1:=(g10.get _ m1 zB2).trans r1;have m1:=zA0 m1 g10.nx;have r2:=(g10.get _ m2 zB2).trans r2;have m2:=zA0 m2 g10.nx;have ht:=ht.gr g10;have hw:=hw.gr g10;have Q3:=Q3.gr g10;have hc:=hc.gr g10;clear g10 hg hp S2;have lvb:=J4.lt;refine zE tyF ?_;refine R1.gen (fun A11 H11=>Gr H10 H11∧H10.nx<H11.nx∧H11.get H10.nx=some (.arr [.o (.str nm),vb] 26 0 0)∧slot A11.tm 1=.one (w)∧slot A11.tm 2=.one ((.o (.ptr N 0 0 4)))∧slot A11.tm 7=.one ((.o (.ptr M 0 0 2)))∧slot A11.tm 10=.one (.i .i64 (0:Int))∧slot A11.tm 11=.one (c)∧slot A11.tm 12=.one (.i .i64 (0:Int))∧slot A11.tm 13=.one ((.o (.ptr H10.nx 0 0 2)))∧slot A11.tm 14=.one (.i .i64 (0:Int))∧A11.nt=138∧A11.dfr=[])
  ⟨((Fr.refl _).new _).mod _ (.inl (zA1 _)),zA6 _,ak rfl,zL⟩ ?_
 clear t1 t2 t5 t7 t9 t10 B0 C0 A lvb hK K;rintro A H11 ⟨g11,m4,r4,t1,t2,t7,t10,t11,t12,t13,t14,B0,C0⟩;have r1:=(g11.get _ m1 zB2).trans r1;have m1:=zA0 m1 g11.nx;have r2:=(g11.get _ m2 zB2).trans r2;have m2:=zA0 m2 g11.nx;have ht:=ht.gr g11;have hw:=hw.gr g11;have Q3:=Q3.gr g11;have hc:=hc.gr g11;have J4:=J4.gr g11;obtain ⟨Q,hQ⟩:∃ Q,Q=H10.nx:=⟨_,rfl⟩;rw[←hQ] at m4 r4 t13;clear hQ g11;have Y0:((0:Int)==0)=true:=rfl;have hlenE:((cs'.length:Int)==(cs.length:Int))=true:=by rw[hlen.out];exact beq_self_eq_true _
 refine zG (qA tyF Lt) fun K hK=>?_;refine WE.con (Hl H11 w c vs hw hc hV2) fun w12 H12 g12 hq12=>?_;subst hq12;have r1:=(g12.get _ m1 zB2).trans r1;have m1:=zA0 m1 g12.nx;have r2:=(g12.get _ m2 zB2).trans r2;have m2:=zA0 m2 g12.nx;have r4:=(g12.get _ m4 zB2).trans r4;have m4:=zA0 m4 g12.nx;have ht:=ht.gr g12;have Q3:=Q3.gr g12;have J4:=J4.gr g12;clear g12 hw hc;refine zS (qA tyF nD) ?_;refine WE.con (lZ H12 nm va vb cs' Q3 J4 d_) fun w13 H13 g13 hq13=>?_;subst hq13;have r1:=(g13.get _ m1 zB2).trans r1;have m1:=zA0 m1 g13.nx;have r2:=(g13.get _ m2 zB2).trans r2;have m2:=zA0 m2 g13.nx;have ht:=ht.gr g13;have Q3:=Q3.gr g13;clear g13 J4 r4 m4;have l1:=ht.len;have l2:=Q3.len;have l3:=ht.lt;have l4:=Q3.lt;refine zK tyF ?_;refine zW tyF ?_;refine R1.dp fun K k1 k2 k3 k4=>?_;refine R1.loop (fun k A H2=>∃ i:Nat,k=cs'.length - i∧i≤cs'.length∧Gr H13 H2∧slot A.tm 2=.one ((.o (.ptr N 0 0 4)))∧slot A.tm 7=.one ((.o (.ptr M 0 0 2)))∧slot A.tm 15=.one (.i .i64 (i:Int))∧A.nt=138∧A.dfr=[]) ?_ cs'.length ⟨0,rfl,Nat.zero_le _,Fr.refl _,zL⟩;clear t1 t2 t7 t10 t11 t12 t13 t14 B0 C0 A hK l1 l2 l3 l4 hlenE Y0 k3;rintro k A H2 ⟨i,rfl,hi,g2,t2,t7,t15,B0,C0⟩;have r1:=(g2.get _ m1 zB2).trans r1;have m1:=zA0 m1 g2.nx;have r2:=(g2.get _ m2 zB2).trans r2;have m2:=zA0 m2 g2.nx;have ht2:=ht.gr g2;have f_:=Q3.gr g2;have l2:=f_.len;have l4:=f_.lt;refine zW tyF ?_;refine zI tyF (fun hc=>?_) (fun hc=>?_)
 ·have D0:i<cs'.length:=by omega
  have ex:cs'[i]?=some cs'[i]:=zB4 D0;have O0:cs'.drop i=cs'[i]::cs'.drop (i+1):=List.drop_eq_getElem_cons D0;have Z0:cs'.take (i+1)=cs'.take i++[cs'[i]]:=List.take_succ_eq_append_getElem D0;have G0:cs'[i]∈cs':=List.getElem_mem D0;generalize cs'[i]=x' at ex O0 Z0 G0;have Q1:=zC0 i (by omega);obtain ⟨x,y,ex2,rfl,hy⟩:=Alt.B h5.out ex;have hBn:=hB.n x (List.mem_of_getElem? ex2);have hBw:=hB.w x (List.mem_of_getElem? ex2);have hBn':=d_.n _ G0;replace hBn':y.1.length*32≤140737488355328∧y.2.length*32≤140737488355328:=hBn';have X5:i<cs.length:=(List.getElem?_eq_some_iff.1 ex2).1;obtain ⟨id,g,off,cells,rfl,hid,R0,J0⟩:=f_.open (by omega);obtain ⟨id',g',off',cells',rfl,J1,v3,N3⟩:=ht2.open (by omega);obtain ⟨p',q',u',K0⟩:=J0 i _ ex;obtain ⟨p,q,u,F3⟩:=N3 i x ex2;have y1:=K0.all;replace y1:(cells.drop (off+i*8)).take 8=[.i .i64 x.face,.i .i64 x.col,.i .i64 x.line,.i .i64 x.kind,p',q',.o (.str x.aN),u']:=y1;have y2:=K0.le;have y3:=F3.all;have y4:=F3.le;have o1:aO H2 p' y.1:=K0.of1;have o2:aO H2 q' y.2:=K0.of2;have o3:SlP H2 u' x.ws:=K0.of3;have o4:=F3.of1;have o5:=F3.of2;have o6:=F3.of3;have z1:=o1.lt;have z2:=o2.lt;have z3:=o3.lt;have z4:=o4.lt;have z5:=o5.lt;have z6:=o6.lt;clear J0 N3 K0 F3 ex ex2 O0 Z0 G0;replace hy:Hd _:=hy;refine zW tyF ?_;refine R1.dp fun K2 q1 q2 q3 q4=>?_;repeat refine R1.au ?_
  (first|refine R1.lU (ms:=[0,1,0,7,15,0,32,96,0,480,992,0,0,6175,16383]) (by kernel_rfl) (by kernel_rfl) fun K hK=>?_|refine R1.e_drw (ms:=[0,1,0,7,15,0,32,96,0,480,992,0,0,6175,16383]) (by kernel_rfl) (by kernel_rfl) fun K hK=>?_)
  simp (config:={decide:=true}) only [qB,ay,Nat.reduceLT,Nat.reduceLeDiff,Nat.reduceAdd,Nat.reduceSub,qD,bK,bS,aS,ae,t2,t7,t15,B0,r1,m1,r2,m2,ot,ic,ij,gy,tf,zV,sV,bD D0,bD X5,hid,R0,y1,y2,J1,v3,y3,y4]
  refine hK _ _ ?_;clear hK K;refine R1.gen (fun A3 H3=>Gr H2 H3∧H2.nx+1<H3.nx∧H3.get H2.nx=some (.arr [.i .i64 x.face,.i .i64 x.col,.i .i64 x.line,.i .i64 x.kind,p',q',.o (.str x.aN),u'] 69 0 0)∧H3.get (H2.nx+1)=some (.arr [.i .i64 x.face,.i .i64 x.col,.i .i64 x.line,.i .i64 x.kind,p,q,.o (.str x.aN),u] 69 0 0)∧slot A3.tm 2=.one ((.o (.ptr N 0 0 4)))∧slot A3.tm 7=.one ((.o (.ptr M 0 0 2)))∧slot A3.tm 15=.one (.i .i64 (i:Int))∧slot A3.tm 16=.one ((.o (.ptr H2.nx 0 0 8)))∧slot A3.tm 17=.one ((.o (.ptr (H2.nx+1) 0 0 8)))∧A3.nt=138∧A3.dfr=[])
   ⟨((((Fr.refl _).new _).new _).mod _ (.inl (zA1 _))).mod _ (.inl (Nat.le_succ _)),by show H2.nx+1<H2.nx+1+1;omega,by rw[aq (by show H2.nx≠H2.nx+1;omega)];exact ak rfl,ak rfl,zL⟩ ?_
  clear t2 t7 t15 B0 C0 A z1 z2 z3 z4 z5 z6 hid R0 J1 v3 y1 y2 y3 y4 l2 l4;rintro A H3 ⟨g3,n3,rx,ry,t2,t7,t15,t16,t17,B0,C0⟩;have n3':H2.nx<H3.nx:=by omega
  clear f_ ht2 r1 r2 m1 m2;repeat refine R1.au ?_
  refine R1.s_h (by kernel_rfl) fun K6 N_=>?_;have key:Hd (∀ (A:ab) (H4:Hp),Gr H2 H4→H2.nx+1<H4.nx→H4.get H2.nx=some (.arr [.i .i64 x.face,.i .i64 x.col,.i .i64 x.line,.i .i64 x.kind,p',q',.o (.str x.aN),u'] 69 0 0)→H4.get (H2.nx+1)=some (.arr [.i .i64 x.face,.i .i64 x.col,.i .i64 x.line,.i .i64 x.kind,p,q,.o (.str x.aN),u] 69 0 0)→slot A.tm 2=.one ((.o (.ptr N 0 0 4)))∧slot A.tm 7=.one ((.o (.ptr M 0 0 2)))∧slot A.tm 15=.one (.i .i64 (i:Int))∧slot A.tm 16=.one ((.o (.ptr H2.nx 0 0 8)))∧slot A.tm 17=.one ((.o (.ptr (H2.nx+1) 0 0 8)))∧slot A.tm 125=.one ((.b false))∧A.nt=138∧A.dfr=[]→K6 A H4):=by
   clear t2 t7 t15 t16 t17 B0 C0 A rx ry n3 n3' g3 H3;rintro A H4 g4 n4 rx ry ⟨t2,t7,t15,t16,t17,t125,B0,C0⟩;refine N_.out _ _ ?_;clear N_ K6;have n4':H2.nx<H4.nx:=by omega
   have z4:=(o4.gr g4).lt;have z5:=(o5.gr g4).lt;refine zW tyF ?_;refine R1.gen (fun A5 H5=>Gr H2 H5∧H2.nx+1<H5.nx∧H5.get H2.nx=some (.arr [.i .i64 x.face,.i .i64 x.col,.i .i64 x.line,.i .i64 x.kind,p,q,.o (.str x.aN),u'] 69 0 0)∧H5.get (H2.nx+1)=some (.arr [.i .i64 x.face,.i .i64 x.col,.i .i64 x.line,.i .i64 x.kind,p,q,.o (.str x.aN),u] 69 0 0)∧slot A5.tm 2=.one ((.o (.ptr N 0 0 4)))∧slot A5.tm 7=.one ((.o (.ptr M 0 0 2)))∧slot A5.tm 15=.one (.i .i64 (i:Int))∧slot A5.tm 16=.one ((.o (.ptr H2.nx 0 0 8)))∧slot A5.tm 17=.one ((.o (.ptr (H2.nx+1) 0 0 8)))∧A5.nt=138∧A5.dfr=[])
    ⟨g4.mod _ (.inl (zA1 _)),n4,ak rfl,by rw[aq (by show H2.nx+1≠H2.nx;omega)];exact ry,zL⟩ ?_
   clear t2 t7 t15 t16 t17 t125 B0 C0 A rx ry n4 n4' g4 H4 z4 z5;rintro A H5 ⟨g5,n5,rx,ry,t2,t7,t15,t16,t17,B0,C0⟩;have n5':H2.nx<H5.nx:=by omega
   have z3:=(o3.gr g5).lt;have z4:=(o4.gr g5).lt;have z5:=(o5.gr g5).lt;have z6:=(o6.gr g5).lt;have hB1:TbB [x]:=⟨by show 1*120≤_;decide,fun z hz=>by rw[List.mem_singleton.1 hz];exact hBn,fun z hz=>by rw[List.mem_singleton.1 hz];exact hBw⟩;refine zG (qA tyF (qA jQ nD)) fun K8 hK8=>?_;refine WE.con (lZ _ [] _ _ [x] (ca.one (by rw[aM (by show H5.nx<H5.nx+1;omega)];exact az rfl) (by show H5.nx<H5.nx+1+1;omega) rfl ⟨p,q,u',rfl,o4.gr ((g5.new _).new _),o5.gr ((g5.new _).new _),o3.gr ((g5.new _).new _)⟩) (ca.one (az rfl) (by show H5.nx+1<H5.nx+1+1;omega) rfl ⟨p,q,u,rfl,o4.gr ((g5.new _).new _),o5.gr ((g5.new _).new _),o6.gr ((g5.new _).new _)⟩) hB1) fun w8 H8 g8 Y9=>?_;subst Y9;have g18:Gr H13 H8:=(g2.gr ((g5.new _).new _)).gr g8;clear rx ry n5 n5' g5 z3 z4 z5 z6 g8 hB1;refine zK tyF ?_;refine q1.out _ _ ?_;refine zW tyF ?_;exact ⟨cs'.length - (i+1),by omega,i+1,rfl,D0,g18,zL⟩
  have hs:=sy H3 p' q' p q y x.num (o1.gr g3) (o2.gr g3) (o4.gr g3) (o5.gr g3) (by omega) (by omega);generalize hbe:(nf y.1 x.num.1&&nf y.2 x.num.2)=bb at hs;replace hs:Hd (Con E2 _ _ _ _ _):=hs;replace hbe:Hd _:=hbe;have z1:=(o1.gr g3).lt;have z2:=(o2.gr g3).lt;have z4:=(o4.gr g3).lt;have z5:=(o5.gr g3).lt;refine zS (qA tyF tE) ?_;refine WE.con hs.out fun w4 H4 g4 Z9=>?_;subst Z9;clear hs z1 z2 z4 z5;have g34:=g3.gr g4;have n4:=zA0 n3 g4.nx;have n4':=zA0 n3' g4.nx;replace rx:=(g4.get _ n3' zB2).trans rx;replace ry:=(g4.get _ n3 zB2).trans ry;clear n3 n3';have z1:=(o1.gr g34).lt;have z2:=(o2.gr g34).lt;cases bb with
  | true=>
   replace rx:Hd _:=rx;replace ry:Hd _:=ry;refine zS tyF ?_;exact key.out _ _ g34 n4 rx.out ry.out zL
  | false=>
   have hy2:cC y=0∧jf y.1=false:=by
    rcases hy.out with h|h
    ·have hb:=hbe.out;rw[h] at hb;unfold nf at hb;simp at hb
    exact h
   have hd:=Ed H4 p' q' y (o1.gr g34) (o2.gr g34);rw[decide_eq_true hy2.1,hy2.2] at hd;replace hd:Hd (Con E2 _ _ _ _ fun r _=>r=.one (.b false)):=hd;clear hy2;refine zS (qA tyF GH) ?_;refine WE.con hd.out fun w5 H5 g5 Y6=>?_;subst Y6;clear hd;have g35:=g34.gr g5;have n5:=zA0 n4 g5.nx;replace rx:=(g5.get _ n4' zB2).trans rx;replace ry:=(g5.get _ n4 zB2).trans ry;replace rx:Hd _:=rx;replace ry:Hd _:=ry;refine zS tyF ?_;exact key.out _ _ g35 n5 rx.out ry.out zL
 refine zW tyF ?_;refine k2.out _ _ ?_;refine zG (qA tyF FX) fun K hK=>?_;refine WE.con (yI (X:=fun _=>False) H2) fun w11 H11 g11 hq11=>?_;subst hq11;refine zK tyF ?_;exact ⟨_,_,aj (.b true) (.inr rfl) qe qp,rfl⟩
open Go.ChangeShapes Go.WideShapes Go.ChangeAt Go.RowKit Go.Eng
theorem Rr:∀ t∈[28,57],Tryz.prog.readableRec t=true∧t<Tryz.prog.types.size:=by
 have h1:Tryz.prog.readableRec 28=true:=by kernel_rfl
 have h2:Tryz.prog.readableRec 57=true:=by kernel_rfl
 have k1:decide (28<Tryz.prog.types.size)=true:=by kernel_rfl
 have k2:decide (57<Tryz.prog.types.size)=true:=by kernel_rfl
 intro t ht;simp only[List.mem_cons,List.not_mem_nil,or_false] at ht;rcases ht with rfl|rfl
 ·exact ⟨h1,of_decide_eq_true k1⟩
 exact ⟨h2,of_decide_eq_true k2⟩
theorem sE (os:Os) (started:os.Started) (H:Type) (enc:TypeId×Value→H):
  ReturnsInHanded {} Tryz.checked os 6 .any (Rows.accountCorrectReadsSpec.pre6 enc Tryz.prog Tryz.f6 Rows.accountCorrectReadsRow.domain false) (Rows.accountCorrectReadsSpec.post enc Tryz.prog Tryz.f6 false true false false):=by
 refine returnsInHanded_of_change_sized (C:=Tryz.checked) Tryz.own started (by kernel_rfl) Tryz.func6
  (ChangeSpec.witness6 (enc:=enc) (C:=Tryz.checked) false ⟨#[],#[.agg #[.slice none 0 0,.slice none 0 0,.string ⟨#[]⟩,.slice none 0 0],.slice none 0 0],[]⟩ 8 (by kernel_rfl) (by kernel_rfl) (by kernel_rfl) (by kernel_rfl)) ?_
 intro W base args ds gs before P_ hW hcnd0 G1 _;clear hcnd0;have M3:∀ (j:Nat) t v,Tryz.f6.params[j]?=some t→args[j]?=some v→Value.okWide Tryz.prog W .any base t v:=P_;have hW':=hW;obtain ⟨p,q,hA0,hV,rfl,hfz,M5⟩:=hW;have hA:DataW.TrodAll enc Tryz.prog W 0 (fun _=>true) true Tryz.f6.params.toList args.toList ds p:=hA0;rw[Tryz.params6] at hA M3 G1;have hAll:=hA;obtain ⟨v0,v1,d0,d1,p0,p1,rfl,rfl,rfl,h0,h1⟩:=trodAll_two hA;obtain ⟨rfl,rfl⟩:=trodVars_none hV;clear hA0 P_;simp only[List.append_nil] at hW' hfz;have hw:∀ (j:Nat) (t:TypeId) (d:DataW H),[28,57][j]?=some t→[d0,d1][j]?=some d→∀ n∈d.weights Tryz.prog t,n≤reachBytes:=fun j t d ht hd n hn=>by
  have:=List.all_eq_true.1 G1 n (DataW.weights_mem_each (j:=j) (by rw[List.getElem?_append_left (by have:=(List.getElem?_eq_some_iff.1 ht).1;exact this)];exact ht) (by rw[List.getElem?_append_left (by have:=(List.getElem?_eq_some_iff.1 hd).1;exact this)];exact hd) n hn);simpa using this
 obtain ⟨y0,u0,l0,a0,b0,_,c0⟩:=Ot Tryz.underlying28 (fun hB=>LF hB) HW (M3 0 _ v0 rfl rfl) h0 (hw 0 _ _ rfl rfl) [] Pv;obtain ⟨y1,u1,l1,a1,b1,c1⟩:=RR Tryz.underlying57 (fun hB=>MW hB) (M3 1 _ v1 rfl rfl) h1 (hw 1 _ _ rfl rfl) _ a0;obtain ⟨lv,gv,tv,rfl,e1,e2,e3,e4,e5⟩:=Rm FR c0;obtain ⟨w,e6,e7,e8⟩:=Sj c1;cases e6
 have X1:=Fa (E:=E2) Vc (f:=6) (args:=[.agg [lv,gv,.o (.str l0.2.2.1),tv],.one u1]) (vs:=[v0,v1]) (w:=W) (l:=[]++y0++y1) a1
  ⟨AR.mono (jM _ _) b0,b1,trivial⟩
  (Gw _ lv gv tv u1 l0.1 l0.2.1 l0.2.2.1 _ l1 (eL.gr e1 (jZ _ _)) (SlG.gr e2 (jZ _ _)) (ca.gr e4 (jZ _ _)) e7 e3 e5 (zA2 e8 FR))
 refine X1.mono fun e W' ⟨he,hw⟩=>?_;subst he;have D0:∀ x∈p0++p1,x.block<W.heap.size:=fun x hx=>hW'.lt x (by simpa using hx);exact ⟨_,rfl,NW rfl hW' rfl (by kernel_rfl) rfl rfl rfl (si hw) fun sp W6=>nj Tryz.laidOut (si hw) Rr (by simpa using hAll) (by simpa using D0) W6⟩
theorem corReads_holds:Rows.AccountCorrectReadsSaid:=
 OpenClaim.holds_of_wide 6 Tryz.f6 rfl rfl rfl rfl rfl rfl rfl ⟨rfl,rfl,rfl,rfl,rfl⟩ rfl rfl rfl rfl rfl (by kernel_rfl) Tryz.func6 (by kernel_rfl)
  (of_decide_eq_true (by kernel_rfl)) (by unfold Func.isWrapper;first|(rw[zB0 (by decide +kernel)];kernel_rfl)|(rw[zB1 (by decide +kernel)];exact ⟨rfl,rfl⟩))
  (fun os started H enc _=>sE os started H enc)
end Go.Proofs.YtnhbkodnmkojpaaGreat
