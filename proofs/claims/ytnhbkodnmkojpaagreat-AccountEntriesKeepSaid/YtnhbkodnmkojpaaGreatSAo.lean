/- A part of the proof: BkTb14, BkTb15, BkCo1, BkCo2, BkCo6, BkTArg, BkFacts7, BkSw1, BkSw2, BkSw3. No conditions. -/
import Derived.Test.YtnhbkodnmkojpaaGreatSAn
import Derived.KernelRfl
import Derived.Sort.Defs
import Derived.Sort.Lot0
set_option maxRecDepth 100000
set_option maxHeartbeats 64000000
set_option linter.unusedVariables false
set_option linter.unusedSimpArgs false
noncomputable section
namespace Go.Proofs.YtnhbkodnmkojpaaGreat
open Go Go.Eng
def Hz (_:Hp) (c:List AC) (x:Int):Prop:=c=[.i .i64 x]
theorem ui:FrR Hz:=fun _ _ _ _ _ h _ _=>h
theorem pM:LtR Hz:=fun H c x h i hi=>by
 have h:c=[.i .i64 x]:=h;subst h;cases hi
theorem Yn:∀ (H:Hp) (lg:List Nat) (c:List AC) (x:Rl),RlR H c x→RlR ⟨H.t,H.nx,lg⟩ c x:=fun _ _ _ _ h=>h
theorem Ru {H:Hp} {Q:List AC→Prop}:∀ {css:List (List AC)} {l:List Int},Al (fun c x=>c.length=1∧Hz H c x∧Q c) css l→css.flatMap id=l.flatMap CK
 | [],[],_=>rfl
 | c::css,x::l,⟨⟨_,h,_⟩,h2⟩=>by
  have h:c=[.i .i64 x]:=h;subst h;rw[List.flatMap_cons,List.flatMap_cons,Ru h2];rfl
theorem bx.sli {e:TypeId} {X:Nat→Prop} {H:Hp} {v:AC} {l:List Int} {r:Option Nat} (h:bx Hz 1 e X H v l r):SlI H v l:=by
 obtain ⟨css,a,b⟩:=h.own;have:=a.slc;rw[Ru b] at this;exact this
section
variable {α:Type}
theorem bx.Gv {R:Hp→List AC→α→Prop} (hl:LtR R) {sz:Nat} {e:TypeId} {X X':Nat→Prop} {H:Hp} {v:AC} {l:List α} {r:Option Nat} (h:bx R sz e X H v l r) (hx:∀ i,X' i→X i∨H.nx≤i):bx R sz e X' H v l r:=(h.WW hl).less hx
def si (X:Nat→Prop) (col:Nat→Nat) (k:Nat):Nat→Prop:=fun j=>X j∨col j≠k
def Nq (n:Nat) (col:Nat→Nat) (k:Nat):Nat→Nat:=fun j=>if j<n then col j else k
theorem Uw {n:Nat} {col:Nat→Nat} {k j:Nat} (h:j<n):Nq n col k j=col j:=zB0 h
theorem Lg {n:Nat} {col:Nat→Nat} {k j:Nat} (h:n≤j):Nq n col k j=k:=zB1 (by omega)
theorem Ry {X:Nat→Prop} {col:Nat→Nat} {n k k2 j:Nat} (h:si X (Nq n col k) k2 j):si X col k2 j∨n≤j:=by
 by_cases hj:j<n
 ·rcases h with h|h
  ·exact .inl (.inl h)
  exact .inl (.inr (by rw[←Uw (col:=col) (k:=k) hj];exact h))
 exact .inr (by omega)
theorem bx.EF {P:Program} {R:Hp→List AC→α→Prop} (hR:FrR R) (hl:LtR R) {H8 H:Hp} {t e:TypeId} {sz by_:Nat} {z:Value} {X:Nat→Prop} {col:Nat→Nat} {k:Nat} {v:AC} {l:List α} {r:Option Nat} (he:bm P t=some (e,sz)) (hb:cB P e=some by_) (hz:aB P e=some z) (L1:(ofValue z).cells.length=sz) (G1:sz≠0)
  (ho:bx R sz e (si X col k) H8 v l r) (g:Gr H8 H) (hX:∀ i,X i→i<H.nx) {c0:List AC} {x:α} (B6:c0.length=sz) (hx:R H c0 x) (hi:∀ id∈jB c0,H8.nx≤id∧¬X id) (hL:l.length+1≤140737488355328∧(l.length+1)*by_≤140737488355328):
  ltV (.one v) (H.new (.arr c0 e 0 0)).nx∧∃ v' H' r',aV P (H.new (.arr c0 e 0 0)) t (.one v) (.one (.o (.sl H.nx 0 0 1 sz)))=.val (.one v') H' ∧
   bx R sz e (si X (Nq H8.nx col k) k) H' v' (l++[x]) (some r')∧Fr (fun i=>¬X i) H H'∧(∀ i,H.nx≤i→X i→False) ∧
   ∀ k2,k2≠k→∀ {β:Type} {R2:Hp→List AC→β→Prop} (_:FrR R2) (_:LtR R2) {sz2:Nat} {e2:TypeId} {v2:AC} {l2:List β} {r2:Option Nat},bx R2 sz2 e2 (si X col k2) H8 v2 l2 r2→bx R2 sz2 e2 (si X (Nq H8.nx col k) k2) H' v2 l2 r2:=by
 have ho1:bx R sz e (si X (Nq H8.nx col k) k) H8 v l r:=bx.Gv hl ho fun i h=>Ry h;have hg:=g.nx;obtain ⟨D0,v',H',r',Q1,Z1,hf,hr⟩:=(ho1.gr hR hl g).push hR hl he hb hz L1 G1 (fun i h=>by
  rcases h with h|h
  ·exact hX i h
  ·by_cases hj:i<H8.nx
   ·omega
   exact absurd (Lg (by omega)) h) B6 hx (fun id hid=>by
  obtain ⟨h1,h2⟩:=hi id hid;refine ⟨fun h=>?_,fun e=>?_⟩
  ·rcases h with h|h
   ·exact h2 h
   exact h (Lg h1)
  have:=(ho.row id e.symm).2;omega) hL
 refine ⟨D0,v',H',r',Q1,Z1,hf.mono fun i e h=>(ho.row i e).1 (.inl h),fun i h1 h2=>by have:=hX i h2;omega,fun k2 hk β R2 m8 O8 sz2 e2 v2 l2 r2 h2=>?_⟩;refine ((bx.Gv O8 h2 fun i h=>Ry h).gr m8 O8 g).fr m8 O8 hf fun i e=>.inl (.inr fun h3=>?_);have h4:=(ho1.row i e).1;exact h4 (.inr fun h5=>hk (h3.symm.trans h5))
end
structure dv (X:Nat→Prop) (H:Hp) (cl:List Cl) (rl:List Rl) (el:List Int) (cv rv ev:AC):Prop where
 own:∃ col r1 r2 r3,bx ClR 5 84 (si X col 0) H cv cl r1∧bx RlR 2 86 (si X col 1) H rv rl r2∧bx Hz 1 3 (si X col 2) H ev el r3
section
variable {X X' Y:Nat→Prop} {H H8 H':Hp} {cl:List Cl} {rl:List Rl} {el:List Int} {cv rv ev:AC}
theorem dv.nil:dv X H [] [] [] (.o .nilS) (.o .nilS) (.o .nilS):=⟨fun _=>0,none,none,none,bx.nil,bx.nil,bx.nil⟩
theorem dv.c (h:dv X H cl rl el cv rv ev):xF H cv cl:=let ⟨_,_,_,_,h1,_,_⟩:=h.own;h1.slr
theorem dv.r (h:dv X H cl rl el cv rv ev):Ex H rv rl:=let ⟨_,_,_,_,_,h1,_⟩:=h.own;h1.slr
theorem dv.e (h:dv X H cl rl el cv rv ev):SlI H ev el:=let ⟨_,_,_,_,_,_,h1⟩:=h.own;bx.sli h1
theorem dv.fr (h:dv X H cl rl el cv rv ev) (hf:Fr Y H H') (hy:∀ i,Y i→X i∨H.nx≤i):dv X H' cl rl el cv rv ev:=by
 obtain ⟨col,r1,r2,r3,h1,h2,h3⟩:=h.own;have hy:∀ (k i:Nat),Y i→si X col k i∨H.nx≤i:=fun k i h=>(hy i h).elim (fun h=>.inl (.inl h)) .inr;exact ⟨col,r1,r2,r3,h1.fr CU uU hf (hy 0),h2.fr Co uH hf (hy 1),h3.fr ui pM hf (hy 2)⟩
theorem dv.gr (h:dv X H cl rl el cv rv ev) (hf:Gr H H'):dv X H' cl rl el cv rv ev:=h.fr hf fun _ h=>h.elim
theorem dv.less (h:dv X H cl rl el cv rv ev) (hx:∀ i,X' i→X i∨H.nx≤i):dv X' H cl rl el cv rv ev:=by
 obtain ⟨col,r1,r2,r3,h1,h2,h3⟩:=h.own;have hy:∀ (k i:Nat),si X' col k i→si X col k i∨H.nx≤i:=fun k i h=>h.elim (fun h=>(hx i h).elim (fun h=>.inl (.inl h)) .inr) fun h=>.inl (.inr h);exact ⟨col,r1,r2,r3,bx.Gv uU h1 (hy 0),bx.Gv uH h2 (hy 1),bx.Gv pM h3 (hy 2)⟩
theorem dv.EF (h:dv X H8 cl rl el cv rv ev) (g:Gr H8 H) (hX:∀ i,X i→i<H.nx) {c0:List AC} {x:Cl} (B6:c0.length=5) (hx:ClR H c0 x) (hi:∀ id∈jB c0,H8.nx≤id∧¬X id) (hL:cl.length≤64):
  ltV (.one cv) (H.new (.arr c0 84 0 0)).nx∧∃ v' H',aV Tryz.prog (H.new (.arr c0 84 0 0)) 34 (.one cv) (.one (.o (.sl H.nx 0 0 1 5)))=.val (.one v') H'∧dv X H' (cl++[x]) rl el v' rv ev∧Fr (fun i=>¬X i) H H':=by
 obtain ⟨col,r1,r2,r3,h1,h2,h3⟩:=h.own;obtain ⟨z,hz,L1⟩:=Vk;obtain ⟨D0,v',H',r',Q1,ho,hf,_,hk⟩:=bx.EF CU uU xk Wd hz L1 (by decide) h1 g hX B6 hx hi (by omega);exact ⟨D0,v',H',Q1,⟨_,_,_,_,ho,hk 1 (by decide) Co uH h2,hk 2 (by decide) ui pM h3⟩,hf⟩
theorem dv.Zc (h:dv X H8 cl rl el cv rv ev) (g:Gr H8 H) (hX:∀ i,X i→i<H.nx) {c0:List AC} {x:Rl} (B6:c0.length=2) (hx:RlR H c0 x) (hi:∀ id∈jB c0,H8.nx≤id∧¬X id) (hL:rl.length≤64):
  ltV (.one rv) (H.new (.arr c0 86 0 0)).nx∧∃ v' H',aV Tryz.prog (H.new (.arr c0 86 0 0)) 35 (.one rv) (.one (.o (.sl H.nx 0 0 1 2)))=.val (.one v') H'∧dv X H' cl (rl++[x]) el cv v' ev∧Fr (fun i=>¬X i) H H':=by
 obtain ⟨col,r1,r2,r3,h1,h2,h3⟩:=h.own;obtain ⟨z,hz,L1⟩:=Uu;obtain ⟨D0,v',H',r',Q1,ho,hf,_,hk⟩:=bx.EF Co uH wJ UQ hz L1 (by decide) h2 g hX B6 hx hi (by omega);exact ⟨D0,v',H',Q1,⟨_,_,_,_,hk 0 (by decide) CU uU h1,ho,hk 2 (by decide) ui pM h3⟩,hf⟩
theorem dv.YA (h:dv X H8 cl rl el cv rv ev) (g:Gr H8 H) (hX:∀ i,X i→i<H.nx) {x:Int} (hL:el.length≤64):
  ltV (.one ev) (H.new (.arr [.i .i64 x] 3 0 0)).nx∧∃ v' H',aV Tryz.prog (H.new (.arr [.i .i64 x] 3 0 0)) 57 (.one ev) (.one (.o (.sl H.nx 0 0 1 1)))=.val (.one v') H'∧dv X H' cl rl (el++[x]) cv rv v'∧Fr (fun i=>¬X i) H H':=by
 obtain ⟨col,r1,r2,r3,h1,h2,h3⟩:=h.own;obtain ⟨z,hz,L1⟩:=BZ;obtain ⟨D0,v',H',r',Q1,ho,hf,_,hk⟩:=bx.EF (R:=Hz) ui pM jL BX hz L1 (by decide) h3 g hX (c0:=[.i .i64 x]) (x:=x) rfl rfl (fun id hid=>by cases hid) (by omega);exact ⟨D0,v',H',Q1,⟨_,_,_,_,hk 0 (by decide) CU uU h1,hk 1 (by decide) Co uH h2,ho⟩,hf⟩
end
def isP (g:Gd) (kl:List (Cl×Int)) (fr:Nat) (n:Int):Bool:=decide ((fr:Int) - 1<n)&&jt g (((kl[n.toNat]?).map fun x=>x.1.2.1).getD [])
theorem tI (g:Gd) (fr:Nat):∀ (pre l:List (Cl×Int)),(bt pre.length l).filter (isP g (pre++l) fr)=jY g fr pre.length l
 | _,[]=>rfl
 | pre,x::l=>by
  have ih:=tI g fr (pre++[x]) l;rw[List.length_append,List.append_assoc] at ih;have ih:(bt (pre.length+1) l).filter (isP g (pre++x::l) fr)=jY g fr (pre.length+1) l:=ih;have hx:isP g (pre++x::l) fr (pre.length:Int)=(decide (fr≤pre.length)&&jt g x.1.2.1):=by
   unfold isP;rw[Int.toNat_natCast,List.getElem?_append_right (zA1 _),Nat.sub_self];congr 1
   exact decide_eq_decide.2 (by omega)
  show (if x.2=1 then (pre.length:Int)::bt (pre.length+1) l else bt (pre.length+1) l).filter _=(if fr≤pre.length∧x.2=1∧jt g x.1.2.1=true then (pre.length:Int)::jY g fr (pre.length+1) l else jY g fr (pre.length+1) l);by_cases h1:x.2=1
  ·rw[zB0 h1,List.filter_cons,hx,ih];exact ite_congr (propext (by simp[h1])) (fun _=>rfl) (fun _=>rfl)
  rw[zB1 h1,zB1 (fun h=>h1 h.2.1),ih]
theorem sQ:∀ (k:Nat) (l:List (Cl×Int)) (n:Int),n∈bt k l→∃ (m:Nat) (x:Cl×Int),n=((k+m:Nat):Int)∧l[m]?=some x
 | _,[],_,h=>by cases h
 | k,x::l,n,h=>by
  have h:n∈(if x.2=1 then (k:Int)::bt (k+1) l else bt (k+1) l):=h;have go:n∈bt (k+1) l→∃ (m:Nat) (y:Cl×Int),n=((k+m:Nat):Int)∧(x::l)[m]?=some y:=fun h=>by
   obtain ⟨m,y,h1,h2⟩:=sQ (k+1) l n h;exact ⟨m+1,y,by rw[h1];congr 1;omega,h2⟩
  split at h
  ·rcases List.mem_cons.1 h with h|h
   ·exact ⟨0,x,h,rfl⟩
   exact go h
  exact go h
theorem sZ:∀ (k:Nat) (l:List (Cl×Int)),(bt k l).length≤l.length
 | _,[]=>zA1 _
 | k,x::l=>by
  have:=sZ (k+1) l;show (if x.2=1 then (k:Int)::bt (k+1) l else bt (k+1) l).length≤l.length+1;split
  ·rw[List.length_cons];omega
  omega
abbrev kvT:List UInt8×Int→AV:=fun x=>.agg [.o (.str x.1),.i .i64 x.2]
theorem WS:Sf Tryz.prog 152 kvT:=XL IS TT fun _ _ _=>by kernel_rfl
def wT (l:List ((List UInt8×Int)×AC)) (kl:List (Cl×Int)):Prop:=∀ key:List UInt8×Int,key.2≠1→atG l key=if fW key 0 0 kl=0 then none else some (.i .i64 ((fW key 0 0 kl:Nat) - 1:Int))
theorem wT.nil:wT [] []:=fun _ _=>rfl
theorem wT.entry {l:List ((List UInt8×Int)×AC)} {kl:List (Cl×Int)} (h:wT l kl) {x:Cl×Int} (hx:x.2=1):wT l (kl++[x]):=fun key hk=>by
 have e:fW key 0 0 (kl++[x])=fW key 0 0 kl:=by rw[nT,zB1 (fun h=>hk (h.2.symm.trans hx))]
 rw[e];exact h key hk
theorem wT.total {l:List ((List UInt8×Int)×AC)} {kl:List (Cl×Int)} (h:wT l kl) (x:Cl×Int):wT (hG l (x.1.2.1,x.2) (.i .i64 (kl.length:Int))) (kl++[x]):=fun key hk=>by
 rw[Kh];by_cases hh:x.1.2.1=key.1∧x.2=key.2
 ·have e:(x.1.2.1,x.2)=key:=by rw[hh.1,hh.2]
  have e2:fW key 0 0 (kl++[x])=kl.length+1:=by rw[nT,zB0 hh,Nat.zero_add]
  rw[zB0 e,e2,zB1 (by omega)];congr 2;omega
 have e:¬(x.1.2.1,x.2)=key:=fun e=>hh ⟨by rw[←e],by rw[←e]⟩;have e2:fW key 0 0 (kl++[x])=fW key 0 0 kl:=by rw[nT,zB1 hh]
 rw[zB1 e,e2];exact h key hk
theorem Px:al Tryz.prog 31=true:=by kernel_rfl
theorem As:al Tryz.prog 79=true:=by kernel_rfl
theorem Eu:al Tryz.prog 78=true:=by kernel_rfl
theorem Xw:∀ (H:Hp) (lg:List Nat) (c:List AC) (x:Int),Hz H c x→Hz ⟨H.t,H.nx,lg⟩ c x:=fun _ _ _ _ h=>h
theorem dv.lg {X:Nat→Prop} {H:Hp} {cl:List Cl} {rl:List Rl} {el:List Int} {cv rv ev:AC} (h:dv X H cl rl el cv rv ev) (l:List Nat):dv X ⟨H.t,H.nx,l⟩ cl rl el cv rv ev:=by
 obtain ⟨col,r1,r2,r3,h1,h2,h3⟩:=h.own;exact ⟨col,r1,r2,r3,bx.lg YZ h1 l,bx.lg Yn h2 l,bx.lg Xw h3 l⟩
theorem OB (H:Hp) (k gv v:AC) (o:Option (List Lad)) (gs:List Gd) (nm:List UInt8) (cs:List Cs) (hk:cQ H k o) (N3:∀ ls,o=some ls→∀ x∈ls,x.2.length≤1000000) (hg:SlG H gv gs) (hv:dg H v cs) (hB:TbB cs) (hO:∀ x∈gs,x.2.2.length≤4611686018427387904):
  Con E2 31 [.one k,.one gv,.agg [.o (.str nm),v]] H (fun _=>False) fun r H'=>∃ a b ev,r=.tup [(true,[a,b]),(false,[ev]),(false,[.i .i64 (jl o gs (nm,cs))])]∧dv (fun j=>j<H.nx) H' (Nw o gs (nm,cs)).1 (Nw o gs (nm,cs)).2 (bt 0 (ig o gs (nm,cs))) a b ev:=by
 refine Con.of rfl fun lg=>?_;have hk:cQ ⟨H.t,H.nx,lg⟩ k o:=cQ.same (H:=H) rfl rfl hk;have hg:SlG ⟨H.t,H.nx,lg⟩ gv gs:=hg;have hv:dg ⟨H.t,H.nx,lg⟩ v cs:=hv;have e0:H.nx=(⟨H.t,H.nx,lg⟩:Hp).nx:=rfl;rw[e0];clear e0;generalize (⟨H.t,H.nx,lg⟩:Hp)=H at hk hg hv ⊢;refine C1.body (E:=E2) (nt:=165) (res:=[.cell 6 37,.tmp 7,.tmp 8]) Tryz.func31 rfl rfl rfl rfl rfl fun tm A0=>?_;have h0:=A0 0 _ rfl;have h1:=A0 1 _ rfl;have h2:=A0 2 _ rfl;clear A0;have hl:cs.length*120≤140737488355328:=hB.c;generalize U9:Nw o gs (nm,cs)=p0;generalize T2:jl o gs (nm,cs)=e0;generalize s_:bt 0 (ig o gs (nm,cs))=q0;have fin:∀ (a b ev:AC) (A:ab) (H9:Hp) (M:Nat),slot A.tm 6=.one (.o (.ptr M 0 0 2))→slot A.tm 7=.one ev→slot A.tm 8=.one (.i .i64 e0)→closeAll H9 A.dfr=some H9→H9.get M=some (.arr [a,b] 37 0 0)→Gr H H9→dv (fun j=>j<H.nx) H9 p0.1 p0.2 q0 a b ev →
   ∃ w H4,aC E2 [.cell 6 37,.tmp 7,.tmp 8] (.ret,A,H9)=.ok [(w,H4)]∧Gr H H4∧∀ lg:List Nat,∃ a b ev,w=.tup [(true,[a,b]),(false,[ev]),(false,[.i .i64 e0])]∧dv (fun j=>j<H.nx) ⟨H4.t,H4.nx,lg⟩ p0.1 p0.2 q0 a b ev:=fun a b ev A H9 M s6 s7 s8 hd r1 T0 h1=>
  ⟨_,H9,cE (.inr rfl) hd (qN sB s6 (by rw[r1];exact Nd) (zA1 _) rfl (BT s7 (BT s8 Jl))),T0,fun lg=>⟨a,b,ev,rfl,h1.lg lg⟩⟩
 have bad:∀ (e:Int),e≠0→e0=e→∀ H9:Hp,dv (fun j=>j<H.nx) H9 p0.1 p0.2 q0 (.o .nilS) (.o .nilS) (.o .nilS):=fun e Y0 he H9=>by
  have hk0:ig o gs (nm,cs)=[]:=zB1 (by rw[T2,he];exact Y0);rw[←U9,←s_];unfold Nw;rw[hk0];exact dv.nil
 have lv:=hv.lt;replace U9:Hd _:=U9;replace T2:Hd _:=T2;replace s_:Hd _:=s_;refine zG tyF fun K hK=>?_;refine hK.out _ _ ?_;refine R1.gen (fun A1 H1=>Gr H H1∧H.nx+1<H1.nx∧H1.get H.nx=some (.arr [.o (.str nm),v] 26 0 0)∧H1.get (H.nx+1)=some (.arr [.o .nilS,.o .nilS] 37 0 0)∧slot A1.tm 0=.one (k)∧slot A1.tm 1=.one (gv)∧slot A1.tm 5=.one ((.o (.ptr H.nx 0 0 2)))∧slot A1.tm 6=.one ((.o (.ptr (H.nx+1) 0 0 2)))∧slot A1.tm 7=.one ((.o .nilS))∧A1.nt=165∧A1.dfr=[])
  ⟨((Fr.refl _).new _).new _,by show H.nx+1<H.nx+1+1;omega,by rw[aZ (by show H.nx<H.nx+1;omega)];exact aG rfl,aG rfl,zL⟩ ?_
 clear h0 h1 h2 tm hK K lv;rintro A1 H1 ⟨g1,n1,r0,r1,t0,t1,t5,t6,t7,B0,C0⟩;obtain ⟨N,hN⟩:∃ N,N=H.nx:=⟨_,rfl⟩;rw[←hN] at n1 r0 r1 t5 t6;have hNl:H.nx≤N:=Nat.le_of_eq hN.symm;replace hN:Hd _:=hN;have n0:N<H1.nx:=by omega
 have E4:=hk.gr g1;have C5:=hg.gr g1;refine zG (qA tyF xr) fun K hK=>?_;refine WE.con (vW H1 k gv o gs E4 N3 C5 hO) fun w2 H2 g2 P2=>?_;subst P2;have r0:=(g2.get _ n0 zB2).trans r0;have n0:=zA0 n0 g2.nx;have r1:=(g2.get _ n1 zB2).trans r1;have n1:=zA0 n1 g2.nx;have g2:=g1.gr g2;clear g1 E4 C5;by_cases c1:mF o gs=0
 case neg=>
  have he:e0=mF o gs:=by rw[←T2.out];exact zB0 c1
  have b1:=bad _ c1 he ((H2.mod (N+1) (.arr [.o .nilS,.o .nilS] 37 0 0)));have e1:(mF o gs==0)=false:=zB5 c1;rw[←he] at e1 ⊢;have g9:=g2.mod (i:=N+1) (.arr [.o .nilS,.o .nilS] 37 0 0) (.inl (by omega));replace b1:Hd _:=b1;replace g9:Hd _:=g9;clear c1 he bad;refine zK tyF ?_;exact fin _ _ _ _ _ (N+1) (by simp only[aa,Nat.reduceEqDiff,reduceIte,t6]) qp qp (by simp only[ak,C0];rfl) (aj rfl) g9.out b1.out
 have hL:gs.length≤1000000:=QK c1;rw[c1];have N2:=hv.gr g2;have lv:=N2.lt;refine zK tyF ?_;refine zG (qA tyF pf) fun K hK=>?_;refine WE.con (np H2 nm v cs N2 hB) fun w3 H3 g3 O5=>?_;subst O5;have r0:=(g3.get _ n0 zB2).trans r0;have n0:=zA0 n0 g3.nx;have r1:=(g3.get _ n1 zB2).trans r1;have n1:=zA0 n1 g3.nx;have g3:=g2.gr g3;clear g2 lv N2;by_cases c2:gM (nm,cs)=0
 case neg=>
  have he:e0=gM (nm,cs):=by
   rw[←T2.out];unfold jl;rw[zB1 (fun h=>h c1),zB0 c2]
  have b1:=bad _ c2 he ((H3.mod (N+1) (.arr [.o .nilS,.o .nilS] 37 0 0)));have e1:(gM (nm,cs)==0)=false:=zB5 c2;rw[←he] at e1 ⊢;have g9:=g3.mod (i:=N+1) (.arr [.o .nilS,.o .nilS] 37 0 0) (.inl (by omega));replace b1:Hd _:=b1;replace g9:Hd _:=g9;clear c1 c2 he bad;refine zK tyF ?_;exact fin _ _ _ _ _ (N+1) (by simp only[aa,Nat.reduceEqDiff,reduceIte,t6]) qp qp (by simp only[ak,C0];rfl) (aj rfl) g9.out b1.out
 rw[c2];have F6:=hv.gr g3;have lv:=F6.lt;have ll:=F6.len;have hee:e0=(aL gs 0 cs []).2:=by
  rw[←T2.out];unfold jl;rw[zB1 (fun h=>h c1),zB1 (fun h=>h c2)]
 have G3:e0=0→ig o gs (nm,cs)=(aL gs 0 cs []).1:=fun h=>zB0 (by rw[T2.out];exact h);clear c1 c2;refine zK tyF ?_;refine R1.gen (fun A5 H5=>Gr H H5∧H3.nx+1=H5.nx∧H5.get N=some (.arr [.o (.str nm),v] 26 0 0)∧H5.get (N+1)=some (.arr [.o .nilS,.o .nilS] 37 0 0)∧H5.get H3.nx=some (hS kvT [])∧slot A5.tm 1=.one (gv)∧slot A5.tm 5=.one ((.o (.ptr N 0 0 2)))∧slot A5.tm 6=.one ((.o (.ptr (N+1) 0 0 2)))∧slot A5.tm 7=.one ((.o .nilS))∧slot A5.tm 11=.one ((.o (.mp H3.nx)))∧A5.nt=165∧A5.dfr=[])
  ⟨g3.new _,rfl,by rw[aZ n0];exact r0,by rw[aZ n1];exact r1,aG rfl,zL⟩ ?_
 clear t0 t1 t5 t6 t7 B0 C0 A1 r0 r1 lv ll;rintro A5 H5 ⟨g5,nB,r0,r1,rMM,t1,t5,t6,t7,t11,B0,C0⟩;obtain ⟨MM,hMM⟩:∃ MM,MM=H3.nx:=⟨_,rfl⟩;have n0:N<H5.nx:=by omega
 have hNM:N+1<MM:=by omega
 rw[←hMM] at nB rMM t11;obtain ⟨B,hBB⟩:∃ B,B=H5.nx:=⟨_,rfl⟩;have hMB:MM<B:=by omega
 have hB5:B≤H5.nx:=Nat.le_of_eq hBB;clear hMM hBB nB g3 F6 n1;have hv5:=hv.gr g5;have lv:=hv5.lt;have ll:=hv5.len;replace hee:Hd _:=hee;replace G3:Hd _:=G3;refine zW tyF ?_;clear lv ll hv5;generalize E0:aL gs 0 cs []=r9 at hee G3;replace E0:Hd _:=E0;refine R1.dS fun K k1 k2 k3 k4=>?_;refine R1.loop (fun z A H6=>∃ (i:Nat) (kl:List (Cl×Int)) (ml:List ((List UInt8×Int)×AC)) (cv rv ev:AC),z=cs.length - i∧i≤cs.length∧kl.length≤64∧Gr H H6∧B≤H6.nx∧H6.get (N+1)=some (.arr [cv,rv] 37 0 0)∧H6.get MM=some (hS kvT ml)∧Hd (wT ml kl)∧Hd (aL gs i (cs.drop i) kl=r9)∧Hd (dv (fun j=>j<B) H6 (kl.map Prod.fst) (ir gs [] kl) (bt 0 kl) cv rv ev) ∧
   slot A.tm 1=.one (gv)∧slot A.tm 6=.one ((.o (.ptr (N+1) 0 0 2)))∧slot A.tm 7=.one (ev)∧slot A.tm 11=.one ((.o (.mp MM)))∧slot A.tm 36=.one (v)∧slot A.tm 37=.one (.i .i64 (cs.length:Int))∧slot A.tm 38=.one (.i .i64 (i:Int))∧A.nt=165∧A.dfr=[]) ?_ cs.length
  ⟨0,[],[],.o .nilS,.o .nilS,.o .nilS,rfl,Nat.zero_le _,Nat.zero_le _,g5,hB5,r1,rMM,wT.nil,E0,dv.nil,zL⟩
 clear t1 t5 t6 t7 t11 B0 C0 A5 r0 r1 rMM k3 g5 E0 hB5 n0 H5;rintro z A H6 ⟨i,kl,ml,cv,rv,ev,rfl,hi,G6,g6,nB,rP,rM,R3,hr,R5,t1,t6,t7,t11,t36,t37,t38,B0,C0⟩;have nP6:N+1<H6.nx:=by omega
 have nM6:MM<H6.nx:=by omega
 have hv6:=hv.gr g6;have l2:=hv6.lt;refine zW tyF ?_;refine zI tyF (fun hc=>?_) (fun hc=>?_)
 ·have D0:i<cs.length:=by omega
  have ex:cs[i]?=some cs[i]:=zB4 D0;have Z0:cs.drop i=cs[i]::cs.drop (i+1):=List.drop_eq_getElem_cons D0;have U2:cs.take (i+1)=cs.take i++[cs[i]]:=List.take_succ_eq_append_getElem D0;have N0:cs[i]∈cs:=List.getElem_mem D0;generalize cs[i]=x at ex Z0 U2 N0;have J1:=zC0 i (by omega);obtain ⟨id,g,off,cells,rfl,hid,T0,O0⟩:=hv6.open (by omega);obtain ⟨p,q,w,hx⟩:=O0 i x ex;have y1:=hx.all;have y2:=hx.le;have hp:=hx.of1;have hq:=hx.of2;have hBn:=hB.n x N0;have F0:=hr.out;rw[Z0,aL] at F0;clear hx O0 Z0 ex N0 U2 hr;replace F0:Hd _:=F0;refine zW tyF ?_;refine R1.dS fun K2 p1 p2 p3 p4=>?_;refine zG (qA tyF (ixC D0)) fun K3 Y4=>?_;refine Y4.out _ _ ?_;refine R1.gen (fun A7 H7=>Gr H6 H7∧H6.nx<H7.nx∧H7.get H6.nx=some (.arr [.i .i64 x.face,.i .i64 x.col,.i .i64 x.line,.i .i64 x.kind,p,q,.o (.str x.good),w] 69 0 0)∧slot A7.tm 1=.one (gv)∧slot A7.tm 6=.one ((.o (.ptr (N+1) 0 0 2)))∧slot A7.tm 7=.one (ev)∧slot A7.tm 11=.one ((.o (.mp MM)))∧slot A7.tm 12=.one (.i .i64 (i:Int))∧slot A7.tm 13=.one ((.o (.ptr H6.nx 0 0 8)))∧slot A7.tm 36=.one ((.o (.sl id g off cs.length 8)))∧slot A7.tm 37=.one (.i .i64 (cs.length:Int))∧slot A7.tm 38=.one (.i .i64 (i:Int))∧A7.nt=165∧A7.dfr=[])
   ⟨((Fr.refl _).new _).mod _ (.inl (zA1 _)),zA6 _,aj rfl,zL⟩ ?_
  clear t1 t6 t7 t11 t36 t37 t38 B0 C0 A y1 y2 Y4 K3 T0 hid l2;rintro A H7 ⟨g7,mC,rC,t1,t6,t7,t11,t12,t13,t36,t37,t38,B0,C0⟩;obtain ⟨M,hM⟩:∃ M,M=H6.nx:=⟨_,rfl⟩;have hBM:B≤M:=by omega
  have C8:dv (fun j=>j<B∨j=M) H7 (kl.map Prod.fst) (ir gs [] kl) (bt 0 kl) cv rv ev:=(R5.out.less fun i h=>h.elim .inl fun h=>.inr (by omega)).gr g7;rw[←hM] at mC rC t13;clear hM R5;have rP:=(g7.get _ nP6 zB2).trans rP;have nP6:=zA0 nP6 g7.nx;have rM:=(g7.get _ nM6 zB2).trans rM;have nM6:=zA0 nM6 g7.nx;have g67:=g6.gr g7;have hg7:=hg.gr g67;have hp7:=hp.gr g7;have hq7:=hq.gr g7;have nB7:B≤H7.nx:=by have:=g7.nx;omega
  clear g6 hv6 hp hq g7 nB;replace C8:Hd _:=C8;have go:Hd (∀ (kl':List (Cl×Int)) (ml':List ((List UInt8×Int)×AC)) (cv' rv' ev':AC) (A:ab) (H5:Hp),slot A.tm 1=.one (gv)∧slot A.tm 6=.one ((.o (.ptr (N+1) 0 0 2)))∧slot A.tm 7=.one (ev')∧slot A.tm 11=.one ((.o (.mp MM)))∧slot A.tm 36=.one ((.o (.sl id g off cs.length 8)))∧slot A.tm 37=.one (.i .i64 (cs.length:Int))∧slot A.tm 38=.one (.i .i64 (i:Int))∧A.nt=165∧A.dfr=[]→kl'.length≤64→Gr H H5→B≤H5.nx→H5.get (N+1)=some (.arr [cv',rv'] 37 0 0)→H5.get MM=some (hS kvT ml')→wT ml' kl'→aL gs (i+1) (cs.drop (i+1)) kl'=r9→dv (fun j=>j<B∨j=M) H5 (kl'.map Prod.fst) (ir gs [] kl') (bt 0 kl') cv' rv' ev'→K2 (.exit 1) A H5∧K2 .normal A H5):=by
   clear t1 t6 t7 t11 t12 t13 t36 t37 t38 B0 C0 F0 C8 g67 hg7 hp7 hq7 rC mC rP rM A G6 R3 nP6 nM6 nB7;rintro kl' ml' cv' rv' ev' A H5 ⟨t1,t6,t7,t11,t36,t37,t38,B0,C0⟩ G6 g5 nB rP rM R3 P3 S9;have S9:=S9.less (X':=fun j=>j<B) fun j h=>.inl (.inl h);replace P3:Hd _:=P3;replace S9:Hd _:=S9;replace R3:Hd _:=R3;constructor
   ·refine p2.out _ _ ?_;refine zW tyF ?_;exact ⟨cs.length - (i+1),by omega,i+1,kl',ml',cv',rv',ev',rfl,D0,G6,g5,nB,rP,rM,R3,P3,S9,zL⟩
   refine p1.out _ _ ?_;refine zW tyF ?_;exact ⟨cs.length - (i+1),by omega,i+1,kl',ml',cv',rv',ev',rfl,D0,G6,g5,nB,rP,rM,R3,P3,S9,zL⟩
  by_cases c1:x.kind=4∨x.good=[]
  ·have I0:=F0.out;rw[zB0 c1] at I0;replace I0:Hd _:=I0;clear F0;by_cases c4:x.kind=4
   ·have e1:(x.kind==4)=true:=beq_iff_eq.2 c4;clear c1 c4;refine zW tyF ?_;exact (go.out kl ml cv rv ev _ _ zL G6 g67 nB7 rP rM R3.out I0.out C8.out).1
   have e1:(x.kind==4)=false:=zB5 c4;have e2:lEq x.good []=true:=by rw[cM,c1.resolve_left c4];rfl
   clear c1 c4;refine zW tyF ?_;exact (go.out kl ml cv rv ev _ _ zL G6 g67 nB7 rP rM R3.out I0.out C8.out).1
  have I0:=F0.out;rw[zB1 c1] at I0;have e1:(x.kind==4)=false:=zB5 fun h=>c1 (.inl h);have e2:lEq x.good []=false:=by rw[cM];exact zB5 fun h=>c1 (.inr h)
  replace I0:Hd _:=I0;clear F0 c1;refine zW tyF ?_;refine zG (qA tyF ss) fun K3 Y4=>?_;refine WE.con (pC H7 gv gs x.good hg7 hL) fun w8 H8 g8 hq8=>?_;subst hq8;have rP:=(g8.get _ nP6 zB2).trans rP;have nP6:=zA0 nP6 g8.nx;have rM:=(g8.get _ nM6 zB2).trans rM;have nM6:=zA0 nM6 g8.nx;have rC:=(g8.get _ mC zB2).trans rC;have mC:=zA0 mC g8.nx;have R9:=C8.out.gr g8;have g68:=g67.gr g8;have hg8:=hg7.gr g8;have hp8:=hp7.gr g8;have hq8:=hq7.gr g8;have nB8:B≤H8.nx:=by have:=g8.nx;omega
  replace R9:Hd _:=R9;clear C8 g67 hg7 hp7 hq7 g8 nB7;have badE:Hd (∀ (e:Int) (A:ab),slot A.tm 6=.one ((.o (.ptr (N+1) 0 0 2)))∧slot A.tm 7=.one ((.o .nilS))∧slot A.tm 8=.one ((.i .i64 e))∧A.nt=165∧A.dfr=[]→closeAll (H8.mod (N+1) (.arr [.o .nilS,.o .nilS] 37 0 0)) A.dfr=some (H8.mod (N+1) (.arr [.o .nilS,.o .nilS] 37 0 0))→(([]:List (Cl×Int)),e)=r9→e≠0→K2 .ret A (H8.mod (N+1) (.arr [.o .nilS,.o .nilS] 37 0 0))):=by
   clear t1 t6 t7 t11 t12 t13 t36 t37 t38 B0 C0 go I0 A Y4 K3;rintro e A ⟨t6,t7,t8,B0,C0⟩ R0 hn Y0;have he:e0=e:=by rw[hee.out,←hn]
   have b1:=bad e Y0 he (H8.mod (N+1) (.arr [.o .nilS,.o .nilS] 37 0 0));subst he;exact p4.out _ _ (k4.out _ _ (fin _ _ _ _ _ (N+1) t6 t7 t8 R0 (aj rfl) (g68.mod _ (.inl (by omega))) b1))
  clear bad fin;by_cases c2:dO 0 gs x.good<0
  ·have hn:(([]:List (Cl×Int)),(4:Int))=r9:=by rw[←I0.out];exact (zB0 c2).symm
   replace hn:Hd _:=hn;clear I0 go;refine zK tyF ?_;refine R1.dS fun K5 m1 m2 m3 m4=>?_;refine zW tyF ?_;exact m4.out _ _ (badE.out 4 _ zL (by simp only[ak,C0];rfl) hn.out (by decide))
  have P3:=I0.out;rw[zB1 c2] at P3;replace P3:Hd _:=P3;clear I0;obtain ⟨gi,hgi,Q9,hgn⟩:=KC (by omega:0≤dO 0 gs x.good);rw[hgi] at c2 ⊢;have P9:=(List.getElem?_eq_some_iff.1 Q9).1;obtain ⟨gid,gg,goff,gcells,rfl,Z8,a9,hgat2⟩:=hg.open (by omega);have hgid:=zA0 Z8 g68.nx;have hggr:rowOf (H8.get gid) gg=some gcells:=by rw[g68.get _ Z8 zB2];exact a9
  obtain ⟨gu,u_⟩:=hgat2 gi _ Q9;have z1:=u_.le;have T_:=u_.of;have hgu:=T_.gr g68;have lu:=hgu.len;have lu2:=hgu.lt;have z2:(gcells.drop (goff+gi*3+2)).headD (.b false)=gu:=u_.f3;have z3:(gcells.drop (goff+gi*3+1)).headD (.b false)=.o (.str (ke gs x.good).2.1):=u_.f2;have z4:=u_.le2;have z5:=u_.le3;have z0:(gcells.drop (goff+gi*3)).take 3=[.o (.str (ke gs x.good).1),.o (.str (ke gs x.good).2.1),gu]:=u_.all;have hBg:=hO _ (List.mem_of_getElem? Q9);clear Q9 hgat2 u_ hgi hgn;replace hBg:Hd _:=hBg;replace a9:Hd _:=a9;replace T_:Hd _:=T_;generalize W7:ke gs x.good=gd at *;replace W7:Hd _:=W7;have ll8:cG H8 1 (.one cv)=.val (.one (.i .i64 (kl.length:Int))) H8:=by
   have:=R9.out.c.len;rwa [List.length_map] at this
  have lv8:ltV (.one cv) H8.nx:=R9.out.c.lt;refine zK tyF ?_;refine R1.dS fun K5 m1 m2 m3 m4=>?_;refine zW tyF ?_;repeat refine R1.aA ?_
  refine R1.s_h (by kernel_rfl) fun K6 hK6=>?_;have key:Hd (∀ (b:Bool) (A:ab),slot A.tm 1=.one ((.o (.sl gid gg goff gs.length 3)))∧slot A.tm 6=.one ((.o (.ptr (N+1) 0 0 2)))∧slot A.tm 7=.one (ev)∧slot A.tm 11=.one ((.o (.mp MM)))∧slot A.tm 12=.one (.i .i64 (i:Int))∧slot A.tm 13=.one ((.o (.ptr M 0 0 8)))∧slot A.tm 14=.one (.i .i64 (gi:Int))∧slot A.tm 36=.one ((.o (.sl id g off cs.length 8)))∧slot A.tm 37=.one (.i .i64 (cs.length:Int))∧slot A.tm 38=.one (.i .i64 (i:Int))∧slot A.tm 59=.one (.b b)∧A.nt=165∧A.dfr=[]→decide (x.kind=1∧gd.2.2≠[])=b→K6 A H8):=by
   clear t1 t6 t7 t11 t12 t13 t36 t37 t38 B0 C0 lu lu2 z2 z5 A;rintro b A ⟨t1,t6,t7,t11,t12,t13,t14,t36,t37,t38,t59,B0,C0⟩ hb;refine hK6.out _ _ ?_;clear hK6 K6;cases b with
   | true=>
    have hn:(([]:List (Cl×Int)),(52:Int))=r9:=by rw[←P3.out];exact (zB0 (of_decide_eq_true hb)).symm
    replace hn:Hd _:=hn;clear P3 go hb;refine zW tyF ?_;exact m4.out _ _ (badE.out 52 _ zL (by simp only[ak,C0];rfl) hn.out (by decide))
   | false=>
   have b7:=P3.out;rw[zB1 (of_decide_eq_false hb)] at b7;clear P3 hb;by_cases c4:kl.length=64
   ·have hn:(([]:List (Cl×Int)),(3:Int))=r9:=by rw[←b7];exact (zB0 c4).symm
    have e5:((kl.length:Int)==64)=true:=beq_iff_eq.2 (by omega);replace hn:Hd _:=hn;clear b7 go c4;refine zW tyF ?_;exact m4.out _ _ (badE.out 3 _ zL (by simp only[ak,C0];rfl) hn.out (by decide))
   rw[zB1 c4] at b7;have e5:((kl.length:Int)==64)=false:=zB5 (by omega);replace b7:Hd _:=b7;clear badE;refine zW tyF ?_;refine m1.out _ _ ?_;clear m2 m3 m4;refine zW tyF ?_;refine zH (qA tyF (qA (ixC P9) Eu)) fun K7 hK7=>?_;refine WE.Pm (Cw H8 p q x.num hp8 hq8 hBn) fun w9 H9 g9 ⟨p',q',hw9,F3,O4,ip,iq⟩=>?_;subst hw9;have rP:=(g9.get _ nP6 zB2).trans rP;have nP6:=zA0 nP6 g9.nx;have rM:=(g9.get _ nM6 zB2).trans rM;have nM6:=zA0 nM6 g9.nx;have rC:=(g9.get _ mC zB2).trans rC;have mC:=zA0 mC g9.nx;have g69:=g68.gr g9;have n89:=g9.nx;have T3:∀ id∈jB [.i .i64 (i:Int),.o (.str x.good),.o (.str gd.2.1),p',q'],H8.nx≤id∧¬(id<B∨id=M):=fun id hid=>by
    rw[CE] at hid;have h1:H8.nx≤id:=by
     rcases List.mem_append.1 hid with h|h
     ·exact ip id h
     exact iq id h
    exact ⟨h1,by omega⟩
   have R0:ClR H9 [.i .i64 (i:Int),.o (.str x.good),.o (.str gd.2.1),p',q'] ((i:Int),x.good,gd.2.1,x.num):=⟨p',q',rfl,F3,O4⟩;obtain ⟨N6,cv',H10,Q1,M7,C7⟩:=R9.out.EF g9 (fun j h=>by omega) rfl R0 T3 (by rw[List.length_map];omega);have R3:(kl++[(((i:Int),x.good,gd.2.1,x.num),x.kind)]).map Prod.fst=kl.map Prod.fst++[((i:Int),x.good,gd.2.1,x.num)]:=by rw[List.map_append];rfl
   have hlen':(kl++[(((i:Int),x.good,gd.2.1,x.num),x.kind)]).length≤64:=by rw[List.length_append];show kl.length+1≤64;omega
   have rC10:=(C7.get _ mC fun h=>h (.inr rfl)).trans rC;have rM10:=(C7.get _ nM6 fun h=>h (.inl hMB)).trans rM;have rP10:=(C7.get _ nP6 fun h=>h (.inl (by omega))).trans rP;have mC10:=zA0 mC C7.nx;have nM10:=zA0 nM6 C7.nx;have nP10:=zA0 nP6 C7.nx;have g610:Gr H H10:=g69.then C7 fun q hq=>.inl (by omega);rw[←R3] at M7;clear R9 T3 R0 R3 hp8 hq8 F3 O4 C7 g69 g68 g9 rC rM rP mC nM6 nP6 ip iq z4;replace M7:Hd _:=M7;refine zS (qA tyF mV) ?_;refine ⟨N6,?_⟩;refine zE tyF ?_;refine R1.gen (fun A12 H12=>Gr H H12∧M<H12.nx∧MM<H12.nx∧H12.get (N+1)=some (.arr [cv',rv] 37 0 0)∧H12.get MM=some (hS kvT ml)∧H12.get M=some (.arr [.i .i64 x.face,.i .i64 x.col,.i .i64 x.line,.i .i64 x.kind,p,q,.o (.str x.good),w] 69 0 0)∧Hd (dv (fun j=>j<B∨j=M) H12 ((kl++[(((i:Int),x.good,gd.2.1,x.num),x.kind)]).map Prod.fst) (ir gs [] kl) (bt 0 kl) cv' rv ev)∧slot A12.tm 1=.one ((.o (.sl gid gg goff gs.length 3)))∧slot A12.tm 6=.one ((.o (.ptr (N+1) 0 0 2)))∧slot A12.tm 7=.one (ev)∧slot A12.tm 11=.one ((.o (.mp MM)))∧slot A12.tm 13=.one ((.o (.ptr M 0 0 8)))∧slot A12.tm 14=.one (.i .i64 (gi:Int))∧slot A12.tm 15=.one (.i .i64 (kl.length:Int))∧slot A12.tm 36=.one ((.o (.sl id g off cs.length 8)))∧slot A12.tm 37=.one (.i .i64 (cs.length:Int))∧slot A12.tm 38=.one (.i .i64 (i:Int))∧A12.nt=165∧A12.dfr=[])
    ⟨g610.mod _ (.inl (by omega)),mC10,nM10,aj rfl,(az (by omega)).trans rM10,(az (by omega)).trans rC10,M7.out.fr (Y:=fun j=>j=N+1) ((Fr.refl _).mod _ (.inr rfl)) fun j h=>.inl (.inl (by omega)),zL⟩ ?_
   clear t1 t6 t7 t11 t12 t13 t14 t36 t37 t38 t59 B0 C0 A hK7 K7 Q1 N6 M7 rC10 rM10 rP10 mC10 nM10 nP10 g610 hggr hgid z3 ll8 lv8 hg8 n89;rintro A12 H12 ⟨g12,mC,nM,rP,rM,rC,R5,t1,t6,t7,t11,t13,t14,t15,t36,t37,t38,B0,C0⟩;have nB:B≤H12.nx:=by omega
   have nP:N+1<H12.nx:=by omega
   have hbk:K2=K2:=rfl;have u9:=vn gs kl [] (((i:Int),x.good,gd.2.1,x.num),x.kind);have k8:=AN 0 kl (((i:Int),x.good,gd.2.1,x.num),x.kind);rw[List.nil_append] at u9;rw[Nat.zero_add] at k8;have hell:=sZ 0 kl;have hrll:=xi gs [] kl;by_cases c5:x.kind=1
   ·have e3:(x.kind==1)=true:=beq_iff_eq.2 c5;have E0:mj gs kl (((i:Int),x.good,gd.2.1,x.num),x.kind)=[]:=zB0 c5;rw[E0,List.append_nil] at u9;rw[zB0 (show ((((i:Int),x.good,gd.2.1,x.num),x.kind):Cl×Int).2=1 from c5)] at k8;obtain ⟨hltE,ev',H13,happE,X_,R8⟩:=R5.out.YA (Fr.refl _:Gr H12 H12) (fun j h=>by omega) (x:=(kl.length:Int)) (by omega);have rP13:=(R8.get _ nP fun h=>h (.inl (by omega))).trans rP;have rM13:=(R8.get _ nM fun h=>h (.inl hMB)).trans rM;have g13:Gr H H13:=g12.then R8 fun q hq=>.inl (by omega);have nB13:B≤H13.nx:=by have:=R8.nx;omega
    rw[←k8,←u9] at X_;have E':=R3.out.entry (x:=(((i:Int),x.good,gd.2.1,x.num),x.kind)) c5;clear k8 u9 E0 R8 c5 R5 R3;replace X_:Hd _:=X_;replace E':Hd _:=E';refine zW tyF ?_;refine zG (qA tyF (qA mV happE)) fun K8 hK8=>?_;refine ⟨hltE,?_⟩;refine zK tyF ?_;exact (go.out _ ml cv' rv ev' _ _ zL hlen' g13 nB13 rP13 rM13 E'.out b7.out X_.out).1
   have e3:(x.kind==1)=false:=zB5 c5;have hru:mj gs kl (((i:Int),x.good,gd.2.1,x.num),x.kind)=[((kl.length:Int),jY gd (fW (x.good,x.kind) 0 0 kl) 0 kl)]:=by
    have e:mj gs kl (((i:Int),x.good,gd.2.1,x.num),x.kind)=[((kl.length:Int),jY (ke gs x.good) (fW (x.good,x.kind) 0 0 kl) 0 kl)]:=zB1 c5;rw[e,W7.out]
   have Y':=tI gd (fW (x.good,x.kind) 0 0 kl) [] kl;rw[List.nil_append] at Y';have Y':(bt 0 kl).filter (isP gd kl (fW (x.good,x.kind) 0 0 kl))=jY gd (fW (x.good,x.kind) 0 0 kl) 0 kl:=Y';rw[hru,←Y'] at u9;rw[zB1 (show ¬((((i:Int),x.good,gd.2.1,x.num),x.kind):Cl×Int).2=1 from c5),List.append_nil] at k8;have hmt:=R3.out.total (((i:Int),x.good,gd.2.1,x.num),x.kind);have O0:=R3.out (x.good,x.kind) c5;have K_:=sQ 0 kl;clear hru Y' c5 R3;generalize fW (x.good,x.kind) 0 0 kl=fr at u9 O0;obtain ⟨hv,hb,hvb,W5⟩:∃ (hv:Int) (hb:Bool),(if hb=true then hv else -1)=(fr:Int) - 1∧bk Tryz.prog H12 152 (.one (.i .i64 0)) (.one (.o (.mp MM))) (.agg [.o (.str x.good),.i .i64 x.kind]) true=.val (.tup [(false,[.i .i64 hv]),(false,[.b hb])]) H12:=by
    have h1:=Ig WS (z:=.one (.i .i64 0)) (k:=(x.good,x.kind)) (ok:=true) rM;rw[O0] at h1;by_cases h0:fr=0
    ·rw[zB0 h0] at h1;exact ⟨0,false,by rw[h0];rfl,h1⟩
    rw[zB1 h0] at h1;exact ⟨(fr:Int) - 1,true,rfl,h1⟩
   clear O0;replace u9:Hd _:=u9;replace k8:Hd _:=k8;replace hmt:Hd _:=hmt;replace K_:Hd _:=K_;replace hvb:Hd _:=hvb;refine zW (qA tyF (qA W5 Bk)) ?_;refine R1.gW (fun B5 H5=>H12=H5∧slot B5.tm 1=.one ((.o (.sl gid gg goff gs.length 3)))∧slot B5.tm 6=.one ((.o (.ptr (N+1) 0 0 2)))∧slot B5.tm 7=.one (ev)∧slot B5.tm 11=.one ((.o (.mp MM)))∧slot B5.tm 13=.one ((.o (.ptr M 0 0 8)))∧slot B5.tm 14=.one (.i .i64 (gi:Int))∧slot B5.tm 15=.one (.i .i64 (kl.length:Int))∧slot B5.tm 16=.one ((.i .i64 ((fr:Int) - 1)))∧slot B5.tm 36=.one ((.o (.sl id g off cs.length 8)))∧slot B5.tm 37=.one (.i .i64 (cs.length:Int))∧slot B5.tm 38=.one (.i .i64 (i:Int))∧B5.nt=165∧B5.dfr=[]) (fun K8 n1 n2 n3=>?_) ?_
   ·cases hb with
    | true=>
     have hvb:hv=(fr:Int) - 1:=hvb.out;subst hvb;refine zW tyF ?_;refine n1.out _ _ ?_;exact ⟨rfl,zL⟩
    | false=>
     have hvb2:Hd (-1=(fr:Int) - 1):=hvb.out;clear hvb;refine zW tyF ?_;refine n1.out _ _ ?_;rw[←hvb2.out];exact ⟨rfl,zL⟩
   clear t1 t6 t7 t11 t13 t14 t15 t36 t37 t38 B0 C0 A12 W5 hvb;rintro A12 H5 ⟨rfl,t1,t6,t7,t11,t13,t14,t15,t16,t36,t37,t38,B0,C0⟩;refine zR tyF ?_;refine R1.gen (fun A13 H13=>Gr H12 H13∧H12.nx<H13.nx∧H13.get H12.nx=some (.arr [.i .i64 (kl.length:Int),.o .nilS] 86 0 0)∧slot A13.tm 1=.one ((.o (.sl gid gg goff gs.length 3)))∧slot A13.tm 6=.one ((.o (.ptr (N+1) 0 0 2)))∧slot A13.tm 7=.one (ev)∧slot A13.tm 11=.one ((.o (.mp MM)))∧slot A13.tm 13=.one ((.o (.ptr M 0 0 8)))∧slot A13.tm 14=.one (.i .i64 (gi:Int))∧slot A13.tm 15=.one (.i .i64 (kl.length:Int))∧slot A13.tm 16=.one ((.i .i64 ((fr:Int) - 1)))∧slot A13.tm 18=.one ((.o (.ptr H12.nx 0 0 2)))∧slot A13.tm 36=.one ((.o (.sl id g off cs.length 8)))∧slot A13.tm 37=.one (.i .i64 (cs.length:Int))∧slot A13.tm 38=.one (.i .i64 (i:Int))∧A13.nt=165∧A13.dfr=[])
    ⟨((Fr.refl _).new _).mod _ (.inl (zA1 _)),zA6 _,aj rfl,zL⟩ ?_
   clear t1 t6 t7 t11 t13 t14 t15 t16 t36 t37 t38 B0 C0 A12;rintro A13 H13 ⟨g13,mR,rR,t1,t6,t7,t11,t13,t14,t15,t16,t18,t36,t37,t38,B0,C0⟩;obtain ⟨R,hR⟩:∃ R,R=H12.nx:=⟨_,rfl⟩;have hRl:H12.nx≤R:=by omega
   rw[←hR] at mR rR t18;clear hR;have hc12:=R5.out.c;have he12:=R5.out.e;have l_:=he12.gr g13;have le:=l_.len;have le2:=l_.lt;refine zW tyF ?_;refine R1.dS fun K9 w1 w2 w3 w4=>?_;refine R1.loop (fun z A H9=>∃ (k:Nat) (v5:AC) (r5:Option Nat),z=(bt 0 kl).length - k∧k≤(bt 0 kl).length∧Gr H12 H9∧R<H9.nx∧H9.get R=some (.arr [.i .i64 (kl.length:Int),v5] 86 0 0)∧eU H9 v5 3 1 (((bt 0 kl).take k).filter (isP gd kl fr)).length ((((bt 0 kl).take k).filter (isP gd kl fr)).flatMap CK) r5∧(∀ q,r5=some q→R<q) ∧
    slot A.tm 1=.one ((.o (.sl gid gg goff gs.length 3)))∧slot A.tm 6=.one ((.o (.ptr (N+1) 0 0 2)))∧slot A.tm 7=.one (ev)∧slot A.tm 11=.one ((.o (.mp MM)))∧slot A.tm 13=.one ((.o (.ptr M 0 0 8)))∧slot A.tm 14=.one (.i .i64 (gi:Int))∧slot A.tm 15=.one (.i .i64 (kl.length:Int))∧slot A.tm 16=.one ((.i .i64 ((fr:Int) - 1)))∧slot A.tm 18=.one ((.o (.ptr R 0 0 2)))∧slot A.tm 36=.one ((.o (.sl id g off cs.length 8)))∧slot A.tm 37=.one (.i .i64 (cs.length:Int))∧slot A.tm 38=.one (.i .i64 (i:Int))∧slot A.tm 120=.one (ev)∧slot A.tm 121=.one (.i .i64 ((bt 0 kl).length:Int))∧slot A.tm 122=.one (.i .i64 (k:Int))∧A.nt=165∧A.dfr=[]) ?_ (bt 0 kl).length
    ⟨0,.o .nilS,none,rfl,Nat.zero_le _,g13,mR,rR,.inl ⟨rfl,rfl,rfl,rfl⟩,fun q hq=>(by cases hq),zL⟩
   clear t1 t6 t7 t11 t13 t14 t15 t16 t18 t36 t37 t38 B0 C0 A13 w3 g13 mR rR le le2 l_ H13;rintro z A H9 ⟨k,v5,r5,rfl,hk,g9,mR,rR,I1,B1,t1,t6,t7,t11,t13,t14,t15,t16,t18,t36,t37,t38,t120,t121,t122,B0,C0⟩;obtain ⟨zi,hzi,p8⟩:=BZ;replace hzi:Hd _:=hzi;replace p8:Hd _:=p8;refine zW tyF ?_;refine zI tyF (fun hc=>?_) (fun hc=>?_)
   ·have hkl2:k<(bt 0 kl).length:=by omega
    obtain ⟨n0,en⟩:∃ n0,(bt 0 kl)[k]?=some n0:=⟨_,zB4 hkl2⟩;obtain ⟨m,y,Q5,ey⟩:=K_.out n0 (List.mem_of_getElem? en);rw[Nat.zero_add] at Q5;subst Q5;have hmkl:=(List.getElem?_eq_some_iff.1 ey).1;have hm2:m<kl.length+1:=by omega
    have J1:=zC0 k (by omega);obtain ⟨eid,eg,eoff,ecells,hev',heid,hegr,heat⟩:=(he12.gr g9).open (by omega);subst hev';obtain ⟨y1,y2⟩:=heat k _ en;rw[Nat.mul_one] at y1 y2;obtain ⟨cid,cg,coff,ccells,hcv',hcid,hcgr,hcat⟩:=(hc12.gr g9).open (by rw[List.length_map,List.length_append];exact Nat.succ_pos _);have hcln:((kl++[(((i:Int),x.good,gd.2.1,x.num),x.kind)]).map Prod.fst).length=kl.length+1:=by rw[List.length_map,List.length_append];rfl
    rw[hcln] at hcv';subst hcv';obtain ⟨p5,q5,hy⟩:=hcat m y.1 (by rw[List.getElem?_map,List.getElem?_append_left hmkl,ey];rfl);have y3:=hy.f2;have y4:=hy.le2;have Y9:((bt 0 kl).take (k+1)).filter (isP gd kl fr)=((bt 0 kl).take k).filter (isP gd kl fr)++(if (decide ((fr:Int) - 1<(m:Int))&&jt gd y.1.2.1)=true then [(m:Int)] else []):=by
     have hp:isP gd kl fr (m:Int)=(decide ((fr:Int) - 1<(m:Int))&&jt gd y.1.2.1):=by
      unfold isP;rw[Int.toNat_natCast,ey];rfl
     rw[IJ en,List.filter_append,List.filter_cons,hp];rfl
    have T6:(((bt 0 kl).take k).filter (isP gd kl fr)).length≤64:=by
     have h1:=List.length_filter_le (isP gd kl fr) ((bt 0 kl).take k);rw[List.length_take] at h1;omega
    have rP9:=(g9.get _ nP zB2).trans rP;have nP9:=zA0 nP g9.nx;have hgid9:gid<H9.nx:=zA0 Z8 (g12.gr g9).nx;have hggr9:rowOf (H9.get gid) gg=some gcells:=by rw[(g12.gr g9).get _ Z8 zB2];exact a9.out
    have hgu9:=T_.out.gr (g12.gr g9);clear heat hcat hy en ey hcln;replace Y9:Hd _:=Y9;have E4:k+1≤(bt 0 kl).length:=by omega
    refine zW tyF ?_;refine R1.dS fun K8 u1 u2 u3 u4=>?_;refine zR (qA tyF (qA (ixC hkl2) Nat.mul_one)) ?_;by_cases d1:(fr:Int) - 1<(m:Int)
    ·refine zG (qA tyF (qA (ixC P9) (qA (ixC hm2) As))) fun K10 hK10=>?_;refine WE.con (Ns H9 gd gu y.1.2.1 hgu9 hBg.out) fun w10 H10 g10 Q_=>?_;subst Q_;have rR10:=(g10.get _ mR zB2).trans rR;have mR10:=zA0 mR g10.nx;have R6:=I1.fr g10 fun _ _ h=>h;have g910:=g9.gr g10;have p6:=Y9.out;clear Y9 rR I1 hgu9 hggr9 hgid9 rP9 nP9 hcid hcgr heid hegr y1 y2 y3 y4;cases Y6:jt gd y.1.2.1 with
     | true=>
      rw[decide_eq_true d1,Y6] at p6;have t_:((bt 0 kl).take (k+1)).filter (isP gd kl fr)=((bt 0 kl).take k).filter (isP gd kl fr)++[(m:Int)]:=p6;obtain ⟨hlt6,v6,H11,r6,happ6,ho6,e8,hr6⟩:=js jL BX hzi.out p8.out (by decide) R6 [.i .i64 (m:Int)] rfl (by omega);have rR11:=(e8.get _ mR10 fun e=>by have:=B1 _ e;omega).trans rR10;have mR11:=zA0 mR10 e8.nx;have g11:Gr H12 (H11.mod R (.arr [.i .i64 (kl.length:Int),v6] 86 0 0)):=(g910.then e8 fun q hq=>.inl (by have:=B1 q hq;omega)).mod _ (.inl hRl);have hR6:R<r6:=by
       rcases hr6 with e|e
       ·exact B1 _ e
       omega
      have R_:=ho6.fr (H':=H11.mod R (.arr [.i .i64 (kl.length:Int),v6] 86 0 0)) (X:=fun i=>i=R) ((Fr.refl _).mod _ (.inr rfl)) fun i hi h=>by cases hi;omega
      have hpe:eU (H11.mod R (.arr [.i .i64 (kl.length:Int),v6] 86 0 0)) v6 3 1 (((bt 0 kl).take (k+1)).filter (isP gd kl fr)).length ((((bt 0 kl).take (k+1)).filter (isP gd kl fr)).flatMap CK) (some r6):=by
       rw[t_,List.length_append,List.flatMap_append];exact R_
      have mR12:R<(H11.mod R (.arr [.i .i64 (kl.length:Int),v6] 86 0 0)).nx:=mR11;clear R_ ho6 p6 t_ hr6 e8 R6 g910 d1 g10 Y6;replace hpe:Hd _:=hpe;replace g11:Hd _:=g11;refine zK tyF ?_;refine zG (qA tyF (qA mV happ6)) fun K11 hK11=>?_;refine ⟨hlt6,?_⟩;refine zK tyF ?_;refine u1.out _ _ ?_;refine zW tyF ?_;exact ⟨(bt 0 kl).length - (k+1),by omega,k+1,v6,some r6,rfl,E4,g11.out,mR12,aj rfl,hpe.out,fun q hq=>by cases hq;exact hR6,zL⟩
     | false=>
      rw[Y6,Bool.and_false,zB1 (by decide),List.append_nil] at p6;rw[←p6] at R6;clear p6 d1 Y6 g10;refine zK tyF ?_;refine u1.out _ _ ?_;refine zW tyF ?_;exact ⟨(bt 0 kl).length - (k+1),by omega,k+1,v5,r5,rfl,E4,g910,mR10,rR10,R6,B1,zL⟩
    have p6:=Y9.out;rw[decide_eq_false d1,Bool.false_and,zB1 (by decide),List.append_nil] at p6;rw[←p6] at I1;clear p6 Y9;refine zW (qA tyF (qA (ixC P9) (qA (ixC hm2) As))) ?_;refine u1.out _ _ ?_;refine zW tyF ?_;exact ⟨(bt 0 kl).length - (k+1),by omega,k+1,v5,r5,rfl,E4,g9,mR,rR,I1,B1,zL⟩
   have hke:k=(bt 0 kl).length:=by omega
   rw[hke,List.take_length] at I1;have l6:=eU.ids I1;have hsl:SlI H9 v5 ((bt 0 kl).filter (isP gd kl fr)):=I1.slc;obtain ⟨hltR,rv',H14,happR,a_,J_⟩:=R5.out.Zc g9 (fun j h=>by have:=g9.nx;omega) (c0:=[.i .i64 (kl.length:Int),v5]) (x:=((kl.length:Int),(bt 0 kl).filter (isP gd kl fr))) rfl ⟨v5,rfl,hsl⟩ (fun id hid=>by
    rw[Cz] at hid;have h1:=B1 id (l6 id hid);omega) (by omega)
   have rP9:=(g9.get _ nP zB2).trans rP;have nP9:=zA0 nP g9.nx;have rM9:=(g9.get _ nM zB2).trans rM;have nM9:=zA0 nM g9.nx;have rC9:=(g9.get _ mC zB2).trans rC;have mC9:=zA0 mC g9.nx;have rM14:=(J_.get _ nM9 fun h=>h (.inl hMB)).trans rM9;have rC14:=(J_.get _ mC9 fun h=>h (.inr rfl)).trans rC9;have rP14:=(J_.get _ nP9 fun h=>h (.inl (by omega))).trans rP9;have nP14:=zA0 nP9 J_.nx;have nM14:=zA0 nM9 J_.nx;have mC14:=zA0 mC9 J_.nx;have nB14:B≤H14.nx:=by have:=J_.nx;omega
   have g14:Gr H H14:=(g12.gr g9).then J_ fun q hq=>.inl (by omega);rw[←u9.out,←k8.out] at a_;clear I1 l6 hsl J_ R5 u9 k8 K_ hc12 he12 rM rC hell hrll;replace a_:Hd _:=a_;refine zW tyF ?_;refine w2.out _ _ ?_;refine zG (qA tyF (qA mV happR)) fun K10 hK10=>?_;refine ⟨hltR,?_⟩;refine zE tyF ?_;have rM15:(H14.mod (N+1) (.arr [cv',rv'] 37 0 0)).get MM=some (hS kvT ml):=(az (by omega)).trans rM14;have rC15:=(az (o:=.arr [cv',rv'] 37 0 0) (show M≠N+1 by omega)).trans rC14;have hup:=EG WS (k:=(x.good,x.kind)) (x:=.i .i64 (kl.length:Int)) rM15;have nM15:MM<(H14.mod (N+1) (.arr [cv',rv'] 37 0 0)).nx:=nM14;have rP16:((H14.mod (N+1) (.arr [cv',rv'] 37 0 0)).mod MM (hS kvT (hG ml (x.good,x.kind) (.i .i64 (kl.length:Int))))).get (N+1)=some (.arr [cv',rv'] 37 0 0):=(az (by omega)).trans (aj rfl);have g16:Gr H ((H14.mod (N+1) (.arr [cv',rv'] 37 0 0)).mod MM (hS kvT (hG ml (x.good,x.kind) (.i .i64 (kl.length:Int))))):=(g14.mod _ (.inl (by omega))).mod _ (.inl (by omega));have m_:=(a_.out.fr (Y:=fun j=>j=N+1) (H':=H14.mod (N+1) (.arr [cv',rv'] 37 0 0)) ((Fr.refl _).mod _ (.inr rfl)) fun j h=>.inl (.inl (by omega))).fr (Y:=fun j=>j=MM) (H':=(H14.mod (N+1) (.arr [cv',rv'] 37 0 0)).mod MM (hS kvT (hG ml (x.good,x.kind) (.i .i64 (kl.length:Int))))) ((Fr.refl _).mod _ (.inr rfl)) fun j h=>.inl (.inl (by omega));clear a_;replace m_:Hd _:=m_;replace g16:Hd _:=g16;replace rP16:Hd _:=rP16;refine zW (qA tyF hup) ?_;exact (go.out _ _ cv' rv' ev _ _ zL hlen' g16.out nB14 rP16.out (aj rfl) hmt.out b7.out m_.out).2
  clear P3 go badE;by_cases c5:x.kind=1
  ·have e3:(x.kind==1)=true:=beq_iff_eq.2 c5;by_cases c6:gd.2.2=[]
   ·have e4:¬(0:Int)<(gd.2.2.length:Int):=by rw[c6];decide
    have e6:decide (x.kind=1∧gd.2.2≠[])=false:=decide_eq_false fun h=>h.2 c6;replace e6:Hd _:=e6;clear c5 c6;refine zS (qA tyF (ixC P9)) ?_;exact key.out _ _ zL e6.out
   have e4:(0:Int)<(gd.2.2.length:Int):=by
    have:gd.2.2.length≠0:=fun h=>c6 (List.eq_nil_of_length_eq_zero h);omega
   have e6:decide (x.kind=1∧gd.2.2≠[])=true:=decide_eq_true ⟨c5,c6⟩;replace e6:Hd _:=e6;clear c5 c6;refine zS (qA tyF (ixC P9)) ?_;exact key.out _ _ zL e6.out
  have e3:(x.kind==1)=false:=zB5 c5;have e6:decide (x.kind=1∧gd.2.2≠[])=false:=decide_eq_false fun h=>c5 h.1;replace e6:Hd _:=e6;clear c5;refine zS (qA tyF (ixC P9)) ?_;exact key.out _ _ zL e6.out
 have E3:i=cs.length:=by omega
 subst E3;have hn:=hr.out;rw[List.drop_length,aL] at hn;have he:e0=0:=by rw[hee.out,←hn]
 have hk9:=G3.out he;rw[←hn] at hk9;have hk9:ig o gs (nm,cs)=kl:=hk9;have hbs9:=R5.out.fr (Y:=fun i=>i=N+1) (H':=H6.mod (N+1) (.arr [cv,rv] 37 0 0)) ((Fr.refl _).mod _ (.inr rfl)) fun i h=>.inl (by omega);have b1:dv (fun j=>j<H.nx) (H6.mod (N+1) (.arr [cv,rv] 37 0 0)) p0.1 p0.2 q0 cv rv ev:=by
  rw[←U9.out,←s_.out];unfold Nw;rw[hk9];exact hbs9.less fun j h=>.inl (by omega)
 have g9:Gr H (H6.mod (N+1) (.arr [cv,rv] 37 0 0)):=g6.mod _ (.inl (by omega));have hev:ltV (.one ev) H6.nx:=R5.out.e.lt;replace b1:Hd _:=b1;clear R5 hbs9 hk9 hn hr bad hee G3 hv6;subst he;refine zW tyF ?_;refine k2.out _ _ ?_;refine zW tyF ?_;exact fin _ _ _ _ _ (N+1) (by simp only[aa,Nat.reduceEqDiff,reduceIte,t6]) (by simp only[aa,Nat.reduceEqDiff,reduceIte,t7]) qp (by simp only[ak,C0];rfl) (aj rfl) g9 b1.out
def Cs.amt (c:Cs) (y:Nm):Cs:=⟨c.face,c.col,c.line,c.kind,y,c.good,c.ws⟩
def sW (cs:List Cs) (i:Nat) (y:Nm):List Cs:=match cs[i]? with
 | some c=>cs.set i (c.amt y)
 | none=>cs
def okV (o:Option (List Lad)) (x:Cl) (v:Int):Bool:=decide ((iz (fR o x.2.2.1).1 (fR o x.2.2.1).2 x.2.2.2).2=0)&&decide ((iz (fR o x.2.2.1).1 (fR o x.2.2.1).2 x.2.2.2).1=v)
theorem Xt (cs:List Cs) (i:Nat) (y:Nm):(sW cs i y).length=cs.length:=by
 unfold sW;split
 ·rw[List.length_set]
 rfl
theorem Yk {cs:List Cs} {i:Nat} {c:Cs} (h:cs[i]?=some c) (y:Nm):sW cs i y=cs.set i (c.amt y):=by
 unfold sW;rw[h]
theorem Dr {sz:Nat}:∀ (i:Nat) (css:List (List AC)) (c c':List AC) (a b:Nat) (m:List AC),(∀ d∈css,d.length=sz)→css[i]?=some c→c'=c.take a++m++c.drop (a+m.length)→a+m.length≤sz →
  (css.set i c').flatMap id=(css.flatMap id).take (i*sz+a)++m++(css.flatMap id).drop (i*sz+a+m.length)
 | _,[],_,_,_,_,_,_,h,_,_=>by cases h
 | 0,d::css,c,c',a,_,m,hl,h,hc,ha=>by
  cases h
  have hd:=hl d (List.mem_cons_self ..);rw[List.set_cons_zero,List.flatMap_cons,List.flatMap_cons,hc,Nat.zero_mul,Nat.zero_add];show d.take a++m++d.drop (a+m.length)++css.flatMap id=(d++css.flatMap id).take a++m++(d++css.flatMap id).drop (a+m.length);rw[List.take_append_of_le_length (by omega),List.drop_append_of_le_length (by omega),List.append_assoc,List.append_assoc]
 | i+1,d::css,c,c',a,b,m,hl,h,hc,ha=>by
  have hd:=hl d (List.mem_cons_self ..);have ih:=Dr i css c c' a b m (fun d h=>hl d (List.mem_cons_of_mem _ h)) (by simpa using h) hc ha;rw[List.set_cons_succ,List.flatMap_cons,List.flatMap_cons,ih];show d++_=(d++css.flatMap id).take ((i+1)*sz+a)++m++(d++css.flatMap id).drop ((i+1)*sz+a+m.length);have e1:(i+1)*sz+a=d.length+(i*sz+a):=by rw[hd,Nat.succ_mul];omega
  have e2:(i+1)*sz+a+m.length=d.length+(i*sz+a+m.length):=by rw[hd,Nat.succ_mul];omega
  rw[e2,e1,List.take_length_add_append,List.drop_length_add_append];simp only[List.append_assoc]
theorem Al.setAt {α β:Type} {R R':β→α→Prop}:∀ (i:Nat) {cs:List β} {xs:List α} {c':β} {x':α},Al R cs xs→(∀ c x,R c x→R' c x)→R' c' x'→Al R' (cs.set i c') (xs.set i x')
 | _,[],[],_,_,_,_,_=>trivial
 | 0,_::_,_::_,_,_,h,h1,h2=>⟨h2,h.2.mono h1⟩
 | i+1,_::_,_::_,_,_,h,h1,h2=>⟨h1 _ _ h.1,Al.setAt i h.2 h1 h2⟩
 | _,[],_::_,_,_,h,_,_=>h.elim
 | _,_::_,[],_,_,h,_,_=>h.elim
theorem Al.at {α β:Type} {R:β→α→Prop}:∀ (i:Nat) {cs:List β} {xs:List α} {x:α},Al R cs xs→xs[i]?=some x→∃ c,cs[i]?=some c∧R c x
 | _,[],[],_,_,h=>by cases h
 | 0,c::_,_::_,_,h,hx=>by cases hx;exact ⟨c,rfl,h.1⟩
 | i+1,_::_,_::_,_,h,hx=>Al.at i h.2 (by simpa using hx)
 | _,[],_::_,_,h,_=>h.elim
 | _,_::_,[],_,h,_=>h.elim
theorem Al.Yp {α β:Type} {R:List β→α→Prop} {n:Nat} (hR:∀ c x,R c x→c.length=n):∀ {cs:List (List β)} {xs:List α},Al R cs xs→(∀ c∈cs,c.length=n)∧cs.length=xs.length
 | [],[],_=>⟨fun _ h=>absurd h List.not_mem_nil,rfl⟩
 | c::cs,x::xs,h=>by
  obtain ⟨h1,h2⟩:=Al.Yp hR h.2;refine ⟨fun d hd=>?_,congrArg (·+1) h2⟩;rcases List.mem_cons.1 hd with rfl|hd
  ·exact hR _ _ h.1
  exact h1 d hd
 | [],_::_,h=>h.elim
 | _::_,[],h=>h.elim
theorem MC (ls:List Lad):∀ (acc gs:List Gd),goG ls acc gs=0→∀ g∈gs,kf (some ls) g.2.1=0
 | _,[],_=>fun _ h=>absurd h List.not_mem_nil
 | acc,x::gs,h=>fun g hg=>by
  unfold goG at h;split at h
  ·cases h
  split at h
  ·cases h
  split at h
  ·cases h
  rename_i c3
  split at h
  ·cases h
  rcases List.mem_cons.1 hg with rfl|hg
  ·exact Classical.byContradiction c3
  exact MC ls (acc++[x]) gs h g hg
theorem Qe {o:Option (List Lad)} {gs:List Gd} (h:mF o gs=0):∀ g∈gs,kf o g.2.1=0:=by
 cases o with
 | none=>cases h
 | some ls=>
  have h':(if (32:Int)<gs.length then 3 else goG ls [] gs)=0:=h;by_cases c:(32:Int)<gs.length
  ·rw[zB0 c] at h';cases h'
  rw[zB1 c] at h';exact MC ls [] gs h'
theorem vA {o:Option (List Lad)} {gs:List Gd} {t:Tb} (h:jl o gs t=0):mF o gs=0∧gM t=0∧(aL gs 0 t.2 []).2=0:=by
 unfold jl at h;by_cases h1:mF o gs=0
 ·rw[zB1 (fun hh=>hh h1)] at h;by_cases h2:gM t=0
  ·rw[zB1 (fun hh=>hh h2)] at h;exact ⟨h1,h2,h⟩
  rw[zB0 h2] at h;exact absurd h h2
 rw[zB0 h1] at h;exact absurd h h1
theorem Ob {o:Option (List Lad)} {gs:List Gd} {t:Tb} (h:jl o gs t=0):(∀ x∈ig o gs t,XT gs t.2 x∧kf o x.1.2.2.1=0)∧(ig o gs t).length≤64:=by
 obtain ⟨h1,h2,h3⟩:=vA h;have hk:ig o gs t=(aL gs 0 t.2 []).1:=zB0 h;rw[hk];obtain ⟨a,b⟩:=ky gs t.2 0 t.2 [] rfl (fun _ h=>absurd h List.not_mem_nil) (Nat.zero_le _);refine ⟨fun x hx=>⟨a x hx,?_⟩,b⟩;obtain ⟨j,c,_,_,_,_,hi,hl,_⟩:=a x hx;obtain ⟨gi,_,Q9,_⟩:=KC hi;rw[hl];exact Qe h1 _ (List.mem_of_getElem? Q9)
theorem TbB.nil:TbB []:=⟨by decide,fun _ h=>absurd h List.not_mem_nil,fun _ h=>absurd h List.not_mem_nil⟩
open Go Go.Eng Go.ChangeShapes Go.WideShapes
abbrev Xg:=fw vj (Ch .i64)
abbrev Bs:=xE Tryz.prog 185 2 Xg
abbrev LZ:=fw (Ch .i64) (fw (Ch .i64) (fw (Ch .i64) (fw (Ch .i64) (fw Wq (fw vj Bs)))))
abbrev IW:=xE Tryz.prog 69 8 LZ
abbrev Yv:=fw vj IW
abbrev Jq:=fw Ks (fw CW Yv)
theorem NJ:jZ Bs:=og (bT bS ed)
theorem Qs:jZ LZ:=bT ed (bT ed (bT ed (bT ed (bT KJ (bT bS NJ)))))
theorem Ga:jZ Ks:=og (bT bS Ax)
theorem za:jZ CW:=og (bT bS (bT bS An))
theorem Tm {W:World}:Opn Tryz.prog W 2 Xg 185:=dC Tryz.underlying185 (by kernel_rfl) rfl (bP (gK Tryz.underlying9) bS (fJ (lS Tryz.underlying3)))
theorem OZ {W:World} (hB:nj W):Opn Tryz.prog W 1 Bs 67:=gk Tryz.underlying67 (by kernel_rfl) (by decide) (bT bS ed) hB Tm
theorem RS {W:World} (hB:nj W):Opn Tryz.prog W 8 LZ 69:=dC Tryz.underlying69 (by kernel_rfl) rfl (bP (lS Tryz.underlying3) ed (bP (lS Tryz.underlying3) ed (bP (lS Tryz.underlying3) ed (bP (lS Tryz.underlying3) ed (bP (Vc hB) KJ (bP (gK Tryz.underlying9) bS (fJ (OZ hB))))))))
theorem OS {W:World} (hB:nj W):Opn Tryz.prog W 1 IW 24:=gk Tryz.underlying24 (by kernel_rfl) (by decide) Qs hB (RS hB)
theorem Up {W:World} (hB:nj W):Opn Tryz.prog W 2 Yv 26:=dC Tryz.underlying26 (by kernel_rfl) rfl (bP (gK Tryz.underlying9) bS (fJ (OS hB)))
theorem NT {W:World} (hB:nj W):Opn Tryz.prog W 4 Jq 28:=dC Tryz.underlying28 (by kernel_rfl) rfl (bP (PN hB) Ga (bP (ND hB) za (fJ (Up hB))))
theorem JA {W:World}:JO Tryz.prog W 4 Jq 28:=tx Tryz.underlying28 (by kernel_rfl) rfl (pr (pB Tryz.underlying22) Ga (pr (pB Tryz.underlying23) za (xY (tx Tryz.underlying26 (by kernel_rfl) rfl (pr (gK Tryz.underlying9).z bS (xY (pB Tryz.underlying24)))))))
theorem Bq:Tryz.prog.bytesOf 185=24:=by kernel_rfl
theorem Cq:Tryz.prog.bytesOf 69=120:=by kernel_rfl
def GN (x:Int×Int×Int×Int×Nm×List UInt8×List Pr):Cs:=⟨x.1,x.2.1,x.2.2.1,x.2.2.2.1,x.2.2.2.2.1,x.2.2.2.2.2.1,x.2.2.2.2.2.2⟩
theorem Nb {α β γ:Type} {P:γ→β→Prop} {f:α→β}:∀ {css:List γ} {l:List α},Al (fun c x=>P c (f x)) css l→Al P css (l.map f)
 | [],[],_=>trivial
 | _::_,_::_,h=>⟨h.1,Nb h.2⟩
 | [],_::_,h=>h.elim
 | _::_,[],h=>h.elim
theorem QL {B:Nat} {H:Hp} {c:List AC} {us:List Pr} (h:Bs B H c us):∃ u,c=[u]∧SlP H u us∧us.length*24≤B:=by
 obtain ⟨u,rfl,⟨css,h1,h2⟩,h3⟩:=h;refine ⟨u,rfl,?_,by rwa [Bq] at h3⟩;have:=rA (f:=prC) (h2.mono fun c x ⟨_,c1,c2,e,a,b⟩=>by rw[e,a.1,b.1];rfl);rw[this] at h1;exact h1
theorem KH {B:Nat} {H:Hp} {c:List AC} {x:Int×Int×Int×Int×Nm×List UInt8×List Pr} (h:LZ B H c x):CsR H c (GN x)∧(GN x).num.1.length*32≤B∧(GN x).num.2.length*32≤B∧(GN x).ws.length*24≤B:=by
 obtain ⟨c1,c2,rfl,a,c3,c4,rfl,b,c5,c6,rfl,d,c7,c8,rfl,e,c9,c10,rfl,f,c11,c12,rfl,g,k⟩:=h;obtain ⟨p,q,rfl,e1,e2,e3,e4⟩:=Xn f;obtain ⟨u,rfl,e5,e6⟩:=QL k;exact ⟨⟨p,q,u,by rw[a.1,b.1,d.1,e.1,g.1];rfl,e1,e2,e5⟩,e3,e4,e6⟩
theorem TP {B:Nat} {H:Hp} {c:List AC} {l:List (Int×Int×Int×Int×Nm×List UInt8×List Pr)} (hB:B≤140737488355328) (h:IW B H c l):∃ u,c=[u]∧dg H u (l.map GN)∧TbB (l.map GN):=by
 obtain ⟨u,rfl,⟨css,h1,h2⟩,h3⟩:=h;rw[Cq] at h3;have key:=Al.all (fun c x ⟨_,h⟩=>(KH h).2) h2;refine ⟨u,rfl,⟨css,by rw[List.length_map];exact h1,Nb (h2.mono fun c x ⟨hl,h⟩=>⟨hl,(KH h).1⟩)⟩,⟨by rw[List.length_map];omega,fun x hx=>?_,fun x hx=>?_⟩⟩
 ·obtain ⟨y,hy,rfl⟩:=List.mem_map.1 hx;have:=key y hy;omega
 obtain ⟨y,hy,rfl⟩:=List.mem_map.1 hx;have:=key y hy;omega
theorem Rn {B:Nat} {H:Hp} {c:List AC} {x:List Lad×List Gd×List UInt8×List (Int×Int×Int×Int×Nm×List UInt8×List Pr)} (hB:B≤140737488355328) (h:Jq B H c x):∃ lv gv tv,c=[lv,gv,.o (.str x.2.2.1),tv]∧fv H lv x.1∧SlG H gv x.2.1∧(∀ y∈x.2.1,y.2.2.length*16≤140737488355328)∧dg H tv (x.2.2.2.map GN)∧TbB (x.2.2.2.map GN):=by
 obtain ⟨c1,c2,rfl,a,c3,c4,rfl,b,c5,c6,rfl,d,e⟩:=h;obtain ⟨tv,rfl,e1,e2⟩:=TP hB e;obtain ⟨lv,rfl,_⟩:=id a;obtain ⟨gv,rfl,_⟩:=id b;refine ⟨lv,gv,tv,by rw[d.1];rfl,(VD a).1,(Ib b).1,fun y hy=>?_,e1,e2⟩;have:=(Ib b).2.2 y hy;omega
theorem SI:loadT Tryz.prog 160=some (false,1):=by kernel_rfl
theorem Pn:aS Tryz.prog 160=some 1:=by kernel_rfl
theorem RF:(aB Tryz.prog 160).map (fun z=>(ofValue z).cells)=some [.i .u64 0]:=by kernel_rfl
theorem Dm:Tryz.prog.underlying 160=some (.int .u64):=by kernel_rfl
theorem Ri:aP Tryz.prog 160=4:=by kernel_rfl
theorem Sx:loadT Tryz.prog 198=some (false,1):=by kernel_rfl
theorem SM:aS Tryz.prog 198=some 1:=by kernel_rfl
theorem Tv:(aB Tryz.prog 198).map (fun z=>(ofValue z).cells)=some [.i .u64 0]:=by kernel_rfl
theorem sx:Tryz.prog.underlying 198=some (.int .u64):=by kernel_rfl
theorem PL:aP Tryz.prog 198=4:=by kernel_rfl
theorem KW:loadT Tryz.prog 250=some (false,1):=by kernel_rfl
theorem KD:aS Tryz.prog 250=some 1:=by kernel_rfl
theorem Kn:(aB Tryz.prog 250).map (fun z=>(ofValue z).cells)=some [.i .u64 0]:=by kernel_rfl
theorem UI:Tryz.prog.underlying 250=some (.int .u64):=by kernel_rfl
theorem LQ:aP Tryz.prog 250=4:=by kernel_rfl
theorem WN:loadT Tryz.prog 5=some (false,1):=by kernel_rfl
theorem mc:Tryz.prog.underlying 5=some (.int .u8):=by kernel_rfl
theorem WJ:aP Tryz.prog 5=4:=by kernel_rfl
def dW {α:Type} (c:α→List AC) (d:Array α):List AC:=d.toList.flatMap c
section
variable {α:Type} [Inhabited α] {c:α→List AC} (hc:∀ x,(c x).length=2)
include hc
omit [Inhabited α] in
theorem vI (d:Array α):(dW c d).length=d.size*2:=by
 unfold dW;rw[ji hc,Array.length_toList]
omit [Inhabited α] in
theorem SX (d:Array α) (i:Nat) (x:α):(dW c (d.setIfInBounds i x)).length=(dW c d).length:=by
 rw[vI hc,vI hc,Array.size_setIfInBounds]
theorem ur (d:Array α) {i:Nat} (h:i<d.size):((dW c d).drop (i*2)).take 2=c d[i]!:=by
 have e:d.toList[i]?=some d[i]!:=by
  rw[Array.getElem?_toList,getElem!_pos d i h,Array.getElem?_eq_getElem h]
 exact Bt hc d.toList i _ e
omit [Inhabited α] in
theorem uc (d:Array α) {i:Nat} (h:i<d.size):i*2+2≤(dW c d).length:=by
 rw[vI hc];omega
omit [Inhabited α] in
theorem xJ:∀ (l:List α) (i:Nat) (x:α),i<l.length→(l.flatMap c).take (i*2)++(c x++(l.flatMap c).drop (i*2+2))=(l.set i x).flatMap c
 | [],i,_,h=>absurd h (Nat.not_lt_zero i)
 | y::l,0,x,_=>by
  rw[Nat.zero_mul,List.take_zero,List.nil_append,List.flatMap_cons,List.set_cons_zero,List.flatMap_cons,Nat.zero_add,List.drop_append,hc,List.drop_of_length_le (Nat.le_of_eq (hc y)),Nat.sub_self,List.drop_zero,List.nil_append]
 | y::l,i+1,x,h=>by
  have ih:=xJ l i x (Nat.lt_of_succ_lt_succ h);have e1:(i+1)*2=2+i*2:=by omega
  have e2:2+i*2+2=2+(i*2+2):=by omega
  rw[List.flatMap_cons,List.set_cons_succ,List.flatMap_cons,←ih,e1,e2,List.take_append,List.drop_append,hc,List.take_of_length_le (by rw[hc];omega),List.drop_of_length_le (by rw[hc];omega),List.nil_append,List.append_assoc,Nat.add_sub_cancel_left,Nat.add_sub_cancel_left]
omit [Inhabited α] in
theorem Eh (d:Array α) {i:Nat} (h:i<d.size) (x:α):(dW c d).take (i*2)++(c x++(dW c d).drop (i*2+2))=dW c (d.setIfInBounds i x):=by
 unfold dW;rw[xJ hc d.toList i x (by rw[Array.length_toList];exact h),Array.toList_setIfInBounds]
theorem swQ {d:Array α} {i j:Nat} (hi:i<d.size) (hj:j<d.size):
  (((dW c d).drop (i*2)).take 2=c d[i]!)∧(((dW c d).drop (j*2)).take 2=c d[j]!)∧i*2+2≤(dW c d).length∧j*2+2≤(dW c d).length∧(∀ (d:Array α) (i:Nat) (x:α),(dW c (d.setIfInBounds i x)).length=(dW c d).length) ∧
  (∀ x,(dW c d).take (i*2)++(c x++(dW c d).drop (i*2+2))=dW c (d.setIfInBounds i x)) ∧
  (∀ x y,(dW c (d.setIfInBounds i x)).take (j*2)++(c y++(dW c (d.setIfInBounds i x)).drop (j*2+2))=dW c ((d.setIfInBounds i x).setIfInBounds j y)):=
 ⟨ur hc d hi,ur hc d hj,uc hc d hi,uc hc d hj,SX hc,fun x=>Eh hc d hi x,fun x y=>Eh hc _ (by rw[Array.size_setIfInBounds];exact hj) y⟩
theorem rdQ {d:Array α} {i j:Nat} (hi:i<d.size) (hj:j<d.size):
  (((dW c d).drop (i*2)).take 2=c d[i]!)∧(((dW c d).drop (j*2)).take 2=c d[j]!)∧i*2+2≤(dW c d).length∧j*2+2≤(dW c d).length:=
 ⟨ur hc d hi,ur hc d hj,uc hc d hi,uc hc d hj⟩
end
theorem swp_size {α:Type} [Inhabited α] (d:Array α) (i j:Nat):(Go.Sort.swp d i j).size=d.size:=by
 unfold Go.Sort.swp;rw[Array.size_setIfInBounds,Array.size_setIfInBounds]
def Srt {α:Type} (c:α→List AC) (H:Hp) (id gen n:Nat) (d:Array α):Prop:=d.size=n∧(∃ lo,lo≤gen∧H.get id=some (.arr (dW c d) 92 lo gen))∧id<H.nx
theorem Srt.sz {α:Type} {c:α→List AC} {H:Hp} {id gen n:Nat} {d:Array α} (h:Srt c H id gen n d):d.size=n:=h.1
theorem Srt.row {α:Type} {c:α→List AC} {H:Hp} {id gen n:Nat} {d:Array α} (h:Srt c H id gen n d):∃ lo,lo≤gen∧H.get id=some (.arr (dW c d) 92 lo gen):=h.2.1
theorem Srt.lt {α:Type} {c:α→List AC} {H:Hp} {id gen n:Nat} {d:Array α} (h:Srt c H id gen n d):id<H.nx:=h.2.2
structure Cmp {α:Type} (c:α→List AC) (cf:α→α→Int) (cl:FuncId) (N:Nat):Prop where
 len:∀ x,(c x).length=2
 lt:∀ x,ltV (.agg (c x)) N
 bd:al Tryz.prog cl=true
 con:∀ (H:Hp) (x y:α),N≤H.nx→Con E2 cl [.agg (c x),.agg (c y)] H (fun _=>False) fun r _=>r=.one (.i .i64 (cf x y))
def ltF {α:Type} (cf:α→α→Int) (x y:α):Bool:=decide (cf x y<0)
theorem Cmp.ltH {α:Type} {c:α→List AC} {cf:α→α→Int} {cl:FuncId} {N:Nat} (h:Cmp c cf cl N) {n:Nat} (hn:N≤n):∀ x,ltV (.agg (c x)) n:=fun x i hi=>zA0 (h.lt x i hi) hn
theorem Srt.fr {α:Type} {c:α→List AC} {H H':Hp} {id gen n:Nat} {d:Array α} {X:Nat→Prop} (h:Srt c H id gen n d) (hf:Fr X H H') (hx:¬X id):Srt c H' id gen n d:=by
 obtain ⟨lo,h1,h2⟩:=h.row;exact ⟨h.sz,⟨lo,h1,(hf.get _ h.lt hx).trans h2⟩,zA0 h.lt hf.nx⟩
theorem Ra:al Tryz.prog 146=true:=by kernel_rfl
section
variable {α:Type} [Inhabited α] {c:α→List AC} {cf:α→α→Int} {cl N:Nat}
theorem Ve (hm:Cmp c cf cl N) (H:Hp) (id gen n:Nat) (d:Array α) (a b:Nat) (hs:Srt c H id gen n d) (hN:N≤H.nx) (F4:a≤b) (hb:b≤n) (hn:n≤1099511627776):
  Con E2 146 [.one (.o (.sl id gen 0 n 2)),.one (.i .i64 a),.one (.i .i64 b),.one (.o (.clo cl []))] H (fun k=>k=id) fun r H'=>r=.tup []∧Srt c H' id gen n (Go.Sort.insertionSort (ltF cf) d a b):=by
 have X6:=hm.bd;refine Con.of rfl fun lg=>?_;have hs:Srt c ⟨H.t,H.nx,lg⟩ id gen n d:=hs;have hN:N≤(⟨H.t,H.nx,lg⟩:Hp).nx:=hN;generalize (⟨H.t,H.nx,lg⟩:Hp)=H at hs hN ⊢;refine C1.body (E:=E2) (nt:=53) (res:=[]) Tryz.func146 rfl rfl rfl rfl rfl fun tm A0=>?_;have h0:=A0 0 _ rfl;have h1:=A0 1 _ rfl;have h2:=A0 2 _ rfl;have h3:=A0 3 _ rfl;clear A0;unfold Go.Sort.insertionSort;generalize E0:Go.Sort.insOuter (ltF cf) a b (a+1) d=R;have fin:∀ (A:ab) (H3:Hp) (dc:Array α),A.dfr=[]→Fr (fun k=>k=id) H H3→Srt c H3 id gen n dc→dc=R→∃ w H4,aC E2 [] (.normal,A,H3)=.ok [(w,H4)]∧Fr (fun k=>k=id) H H4∧∀ lg':List Nat,w=.tup []∧Srt c ⟨H4.t,H4.nx,lg'⟩ id gen n R:=fun A H3 dc h1 h2 h3 h4=>⟨_,H3,cu (.inl rfl) h1,h2,fun _=>⟨rfl,by rw[←h4];exact h3⟩⟩;have hid:=hs.lt;have D4:=zC0 a (by omega);replace E0:Hd _:=E0;refine zW tyF ?_;refine R1.dM fun K k1 k2 k3 k4=>?_;refine R1.loop (fun z A H3=>∃ (i:Nat) (dc:Array α),z=b - i∧a+1≤i∧i≤n+1∧Fr (fun k=>k=id) H H3∧Srt c H3 id gen n dc∧Hd (Go.Sort.insOuter (ltF cf) a b i dc=R)∧slot A.tm 0=.one ((.o (.sl id gen 0 n 2)))∧slot A.tm 1=.one (.i .i64 (a:Int))∧slot A.tm 2=.one (.i .i64 (b:Int))∧slot A.tm 3=.one ((.o (.clo cl [])))∧slot A.tm 8=.one (.i .i64 (i:Int))∧A.nt=53∧A.dfr=[]) ?_ (b - (a+1))
  ⟨a+1,d,rfl,zA1 _,by omega,Fr.refl _,hs,E0,zL⟩
 clear h0 h1 h2 h3 tm hs E0 hid D4 k3;rintro z A H3 ⟨i,dc,rfl,hia,V2,f3,hs,hr,t0,t1,t2,t3,t8,B0,C0⟩;have hid:=hs.lt;refine zW tyF ?_;refine zI tyF (fun hc'=>?_) (fun hc'=>?_)
 ·have hib:i<b:=by omega
  have F0:=hr.out;rw[Go.Sort.insOuter,zB0 hib] at F0;clear hr;replace F0:Hd _:=F0;have hwi:=zC0 i (by omega);refine zW tyF ?_;refine R1.dS fun K2 q1 q2 q3 q4=>?_;refine zW tyF ?_;refine R1.dM fun K3 p1 p2 p3 p4=>?_;refine R1.loop (fun z A H4=>∃ (j:Nat) (dj:Array α),z=j∧j≤i∧Fr (fun k=>k=id) H H4∧Srt c H4 id gen n dj∧Hd (Go.Sort.insOuter (ltF cf) a b (i+1) (Go.Sort.insInner (ltF cf) a j dj)=R)∧slot A.tm 0=.one ((.o (.sl id gen 0 n 2)))∧slot A.tm 1=.one (.i .i64 (a:Int))∧slot A.tm 2=.one (.i .i64 (b:Int))∧slot A.tm 3=.one ((.o (.clo cl [])))∧slot A.tm 8=.one (.i .i64 (i:Int))∧slot A.tm 9=.one (.i .i64 (j:Int))∧A.nt=53∧A.dfr=[]) ?_ i
   ⟨i,dc,rfl,zA1 _,f3,hs,F0,zL⟩
  clear t0 t1 t2 t3 t8 B0 C0 A F0 hs hid f3 p3 q3;rintro j A H4 ⟨_,dj,rfl,b8,f4,hs,hr,t0,t1,t2,t3,t8,t9,B0,C0⟩;have hid:=hs.lt;by_cases hja:a<j
  ·obtain ⟨j,rfl⟩:∃ k,j=k+1:=⟨j - 1,by omega⟩;have hja':(a:Int)<((j+1:Nat):Int):=by omega
   have hwj:IntKind.i64.wrap (((j+1:Nat):Int) - 1)=(j:Int):=by rw[au (by omega) (by omega)];omega
   obtain ⟨lo,B2,hg⟩:=hs.row;have M0:=hs.sz;have F':j+1<n:=by omega
   have F_:j<n:=by omega
   have lv:=hm.ltH (zA2 hN f4.nx);have R0:=hm.len;replace M0:Hd _:=M0;refine zG (qA tyF (qA (ixC F') (qA (ixC F_) (rdQ hm.len (d:=dj) (i:=j+1) (j:=j) (by have:=M0.out;omega) (by have:=M0.out;omega))))) fun K hK=>?_;refine WE.con (hm.con H4 dj[j+1]! dj[j]! (zA2 hN f4.nx)) fun w' H5 g5 hq=>?_;subst hq;have hg:=(g5.get _ hid zB2).trans hg;have hid:=zA0 hid g5.nx;have lv:=hm.ltH (zA2 hN (zA2 f4.nx g5.nx));have f5:=f4.then g5 fun _ h=>h.elim;have J0:=hr.out;rw[Go.Sort.insInner] at J0;by_cases B3:cf dj[j+1]! dj[j]!<0
   ·have X4:(decide (j+1>a)&&ltF cf dj[j+1]! dj[j]!)=true:=by
     rw[decide_eq_true (by omega:j+1>a)];exact decide_eq_true B3
    rw[zB0 X4] at J0;clear hr X4;replace J0:Hd _:=J0;refine zK tyF ?_;refine R1.dS fun K4 u1 u2 u3 u4=>?_;refine zW (qA tyF (qA (ixC F') (qA (ixC F_) (swQ hm.len (d:=dj) (i:=j+1) (j:=j) (by have:=M0.out;omega) (by have:=M0.out;omega))))) ?_;refine u1.out _ _ ?_;refine zW tyF ?_;exact ⟨j,zA6 _,j,Go.Sort.swp dj (j+1) j,rfl,by omega,(f5.mod _ (.inr rfl)).mod _ (.inr rfl),⟨by rw[swp_size];exact M0.out,⟨gen,zA1 _,aj rfl⟩,hid⟩,J0,zL⟩
   have X4:(decide (j+1>a)&&ltF cf dj[j+1]! dj[j]!)=false:=by
    rw[decide_eq_true (by omega:j+1>a)];exact decide_eq_false B3
   rw[zB1 (by rw[X4];decide)] at J0;clear hr X4;replace J0:Hd _:=J0;refine zK tyF ?_;refine p2.out _ _ ?_;refine q1.out _ _ ?_;refine zW tyF ?_;exact ⟨b - (i+1),by omega,i+1,dj,rfl,by omega,by omega,f5,⟨M0.out,⟨lo,B2,hg⟩,hid⟩,J0,zL⟩
  have hja':¬(a:Int)<(j:Int):=by omega
  have J0:=hr.out;have V2:Go.Sort.insInner (ltF cf) a j dj=dj:=by
   cases j with
   | zero=>rfl
   | succ j=>rw[Go.Sort.insInner,decide_eq_false (by omega:¬j+1>a),Bool.false_and,zB1 (by decide)]
  rw[V2] at J0;clear hr V2;replace J0:Hd _:=J0;refine zW tyF ?_;refine p2.out _ _ ?_;refine q1.out _ _ ?_;refine zW tyF ?_;exact ⟨b - (i+1),by omega,i+1,dj,rfl,by omega,by omega,f4,hs,J0,zL⟩
 have hib:¬i<b:=by omega
 have F0:=hr.out;rw[Go.Sort.insOuter,zB1 hib] at F0;refine zW tyF ?_;refine k2.out _ _ ?_;exact fin _ _ _ qe f3 hs F0
end
theorem Na:al Tryz.prog 179=true:=by kernel_rfl
theorem Ul:al Tryz.prog 147=true:=by kernel_rfl
section
variable {α:Type} [Inhabited α] {c:α→List AC} {cf:α→α→Int} {cl N:Nat}
theorem EE (hm:Cmp c cf cl N) (H:Hp) (id gen n:Nat) (d:Array α) (root hi first:Nat) (hs:Srt c H id gen n d) (hN:N≤H.nx) (hf:first+hi≤n) (hr:root≤n) (hn:n≤1099511627776):
  Con E2 179 [.one (.o (.sl id gen 0 n 2)),.one (.i .i64 root),.one (.i .i64 hi),.one (.i .i64 first),.one (.o (.clo cl []))] H (fun k=>k=id) fun r H'=>r=.tup []∧Srt c H' id gen n (Go.Sort.siftDown (ltF cf) hi first root d):=by
 have X6:=hm.bd;refine Con.of rfl fun lg=>?_;have hs:Srt c ⟨H.t,H.nx,lg⟩ id gen n d:=hs;have hN:N≤(⟨H.t,H.nx,lg⟩:Hp).nx:=hN;generalize (⟨H.t,H.nx,lg⟩:Hp)=H at hs hN ⊢;refine C1.body (E:=E2) (nt:=82) (res:=[]) Tryz.func179 rfl rfl rfl rfl rfl fun tm A0=>?_;have h0:=A0 0 _ rfl;have h1:=A0 1 _ rfl;have h2:=A0 2 _ rfl;have h3:=A0 3 _ rfl;have h4:=A0 4 _ rfl;clear A0;generalize E0:Go.Sort.siftDown (ltF cf) hi first root d=R;have fin:∀ (e:ax) (A:ab) (H3:Hp) (dc:Array α),(e=.normal∨e=.ret)→A.dfr=[]→Fr (fun k=>k=id) H H3→Srt c H3 id gen n dc→dc=R→∃ w H4,aC E2 [] (e,A,H3)=.ok [(w,H4)]∧Fr (fun k=>k=id) H H4∧∀ lg':List Nat,w=.tup []∧Srt c ⟨H4.t,H4.nx,lg'⟩ id gen n R:=fun e A H3 dc he h1 h2 h3 h4=>⟨_,H3,cu he h1,h2,fun _=>⟨rfl,by rw[←h4];exact h3⟩⟩;have hid:=hs.lt;replace E0:Hd _:=E0;refine zW tyF ?_;refine R1.dM fun K k1 k2 k3 k4=>?_;refine R1.loop (fun z A H3=>∃ (ro:Nat) (dc:Array α),z=n+1 - ro∧ro≤n∧Fr (fun k=>k=id) H H3∧Srt c H3 id gen n dc∧Hd (Go.Sort.siftDown (ltF cf) hi first ro dc=R)∧slot A.tm 0=.one ((.o (.sl id gen 0 n 2)))∧slot A.tm 2=.one (.i .i64 (hi:Int))∧slot A.tm 3=.one (.i .i64 (first:Int))∧slot A.tm 4=.one ((.o (.clo cl [])))∧slot A.tm 10=.one (.i .i64 (ro:Int))∧A.nt=82∧A.dfr=[]) ?_ (n+1 - root)
  ⟨root,d,rfl,hr,Fr.refl _,hs,E0,zL⟩
 clear h0 h1 h2 h3 h4 tm hs E0 hid k3;rintro z A H3 ⟨ro,dc,rfl,B_,f3,hs,hr,t0,t2,t3,t4,t10,B0,C0⟩;have hid:=hs.lt;have M0:=hs.sz;obtain ⟨lo,B2,hg⟩:=hs.row;replace M0:Hd _:=M0;have hwa:IntKind.i64.wrap (2*(ro:Int))=((2*ro:Nat):Int):=by rw[au (by omega) (by omega)];omega
 have hwb:IntKind.i64.wrap (((2*ro:Nat):Int)+1)=((2*ro+1:Nat):Int):=by rw[au (by omega) (by omega)];omega
 have F0:=hr.out;rw[Go.Sort.siftDown] at F0;refine R1.dM fun K2 q1 q2 q3 q4=>?_;by_cases hch:hi≤2*ro+1
 ·rw[dif_pos hch] at F0;have l8:(hi:Int)≤((2*ro+1:Nat):Int):=by omega
  replace F0:Hd _:=F0;clear hr;refine zW tyF ?_;refine q3.out _ _ _ (by decide) ?_;refine k2.out _ _ ?_;exact fin _ _ _ _ (.inl rfl) qe f3 hs F0.out
 rw[dif_neg hch] at F0;have l8:¬(hi:Int)≤((2*ro+1:Nat):Int):=by omega
 clear hr;replace F0:Hd _:=F0;refine zW tyF ?_;have lv:=hm.ltH (zA2 hN f3.nx);have R0:=hm.len;have hwc:IntKind.i64.wrap (((2*ro+1:Nat):Int)+1)=((2*ro+2:Nat):Int):=by rw[au (by omega) (by omega)];omega
 have hwd:IntKind.i64.wrap ((first:Int)+((2*ro+1:Nat):Int))=((first+(2*ro+1):Nat):Int):=by rw[au (by omega) (by omega)];omega
 have hwe:IntKind.i64.wrap (((first+(2*ro+1):Nat):Int)+1)=((first+(2*ro+1)+1:Nat):Int):=by rw[au (by omega) (by omega)];omega
 repeat refine R1.aA ?_
 refine R1.s_h (by kernel_rfl) fun K3 Y4=>?_;have tail:Hd (∀ (bb:Bool) (A:ab) (H4:Hp),Fr (fun k=>k=id) H H4→Srt c H4 id gen n dc→(bb=true→2*ro+2<hi)→Hd ((if bb=true then (if (!ltF cf dc[first+ro]! dc[first+(2*ro+2)]!)=true then dc else if 2*ro+2<hi then Go.Sort.siftDown (ltF cf) hi first (2*ro+2) (Go.Sort.swp dc (first+ro) (first+(2*ro+2))) else dc) else (if (!ltF cf dc[first+ro]! dc[first+(2*ro+1)]!)=true then dc else Go.Sort.siftDown (ltF cf) hi first (2*ro+1) (Go.Sort.swp dc (first+ro) (first+(2*ro+1)))))=R)→slot A.tm 40=.one (.b bb)∧slot A.tm 0=.one ((.o (.sl id gen 0 n 2)))∧slot A.tm 2=.one (.i .i64 (hi:Int))∧slot A.tm 3=.one (.i .i64 (first:Int))∧slot A.tm 4=.one ((.o (.clo cl [])))∧slot A.tm 10=.one (.i .i64 (ro:Int))∧slot A.tm 11=.one (.i .i64 ((2*ro+1:Nat):Int))∧A.nt=82∧A.dfr=[]→K3 A H4):=by
  clear t0 t2 t3 t4 t10 B0 C0 A hs hg hid F0 f3 lv B2 hwd hwe l8;rintro bb A H4 f4 hs T8 hr ⟨t40,t0,t2,t3,t4,t10,t11,B0,C0⟩;refine Y4.out _ _ ?_;clear Y4 K3;refine R1.gW (fun B H5=>∃ ch:Nat,ro<ch∧ch<hi∧H4=H5∧Hd ((if (!ltF cf dc[first+ro]! dc[first+ch]!)=true then dc else Go.Sort.siftDown (ltF cf) hi first ch (Go.Sort.swp dc (first+ro) (first+ch)))=R)∧slot B.tm 0=.one ((.o (.sl id gen 0 n 2)))∧slot B.tm 2=.one (.i .i64 (hi:Int))∧slot B.tm 3=.one (.i .i64 (first:Int))∧slot B.tm 4=.one ((.o (.clo cl [])))∧slot B.tm 10=.one (.i .i64 (ro:Int))∧slot B.tm 11=.one (.i .i64 (ch:Int))∧B.nt=82∧B.dfr=[]) (fun K4 m1 m2 m3=>?_) ?_
  ·cases bb with
   | true=>
    have h2:=T8 rfl;have F0:=hr.out;rw[zB0 rfl,zB0 h2] at F0;clear hr hs T8;replace F0:Hd _:=F0;refine zW tyF ?_;refine m1.out _ _ ?_;exact ⟨2*ro+2,by omega,h2,rfl,F0,zL⟩
   | false=>
    have F0:=hr.out;rw[zB1 (by decide)] at F0;clear hr hs T8;replace F0:Hd _:=F0;refine zW tyF ?_;refine m1.out _ _ ?_;exact ⟨2*ro+1,by omega,by omega,rfl,F0,zL⟩
  clear t0 t2 t3 t4 t10 t11 t40 B0 C0 A hr T8 bb hwa hwb hwc hch;rintro A _ ⟨ch,hrc,hch,rfl,hr,t0,t2,t3,t4,t10,t11,B0,C0⟩;have hid:=hs.lt;obtain ⟨lo,B2,hg⟩:=hs.row;have lv:=hm.ltH (zA2 hN f4.nx);have D4:IntKind.i64.wrap ((first:Int)+(ro:Int))=((first+ro:Nat):Int):=by rw[au (by omega) (by omega)];omega
  have J1:IntKind.i64.wrap ((first:Int)+(ch:Int))=((first+ch:Nat):Int):=by rw[au (by omega) (by omega)];omega
  have b1:first+ro<n:=by omega
  have b2:first+ch<n:=by omega
  have d1:first+ro<dc.size:=by have:=M0.out;omega
  have d2:first+ch<dc.size:=by have:=M0.out;omega
  replace d1:Hd _:=d1;replace d2:Hd _:=d2;refine zG (qA tyF (qA (ixC b1) (qA (ixC b2) (rdQ hm.len d1.out d2.out)))) fun K hK=>?_;refine WE.con (hm.con H4 dc[first+ro]! dc[first+ch]! (zA2 hN f4.nx)) fun w' H5 g5 hq=>?_;subst hq;have X0:=hs.fr g5 zB2;have hg:=(g5.get _ hid zB2).trans hg;have hid:=zA0 hid g5.nx;have lv:=hm.ltH (zA2 hN (zA2 f4.nx g5.nx));have f5:=f4.then g5 fun _ h=>h.elim;have F0:=hr.out;clear hr hs f4 g5;by_cases B3:cf dc[first+ro]! dc[first+ch]!<0
  ·have X4:(!ltF cf dc[first+ro]! dc[first+ch]!)=false:=by
    unfold ltF;rw[decide_eq_true B3];rfl
   rw[X4,zB1 (by decide)] at F0;clear X4 X0;replace F0:Hd _:=F0;refine zK (qA tyF (qA (ixC b1) (qA (ixC b2) (swQ hm.len d1.out d2.out)))) ?_;refine q1.out _ _ ?_;exact ⟨n+1 - ch,by omega,ch,Go.Sort.swp dc (first+ro) (first+ch),rfl,by omega,(f5.mod _ (.inr rfl)).mod _ (.inr rfl),⟨by rw[swp_size];exact M0.out,⟨gen,zA1 _,aj rfl⟩,hid⟩,F0,zL⟩
  have X4:(!ltF cf dc[first+ro]! dc[first+ch]!)=true:=by
   unfold ltF;rw[decide_eq_false B3];rfl
  rw[X4,zB0 rfl] at F0;clear X4;replace F0:Hd _:=F0;replace X0:Hd _:=X0;refine zK tyF ?_;refine q4.out _ _ (k4.out _ _ ?_);exact fin _ _ _ _ (.inr rfl) qe f5 X0.out F0.out
 by_cases h2:2*ro+2<hi
 ·have h2i:((2*ro+2:Nat):Int)<(hi:Int):=by omega
  have b1:first+(2*ro+1)<n:=by omega
  have b2:first+(2*ro+1)+1<n:=by omega
  have d1:first+(2*ro+1)<dc.size:=by have:=M0.out;omega
  have d2:first+(2*ro+1)+1<dc.size:=by have:=M0.out;omega
  replace d1:Hd _:=d1;replace d2:Hd _:=d2;refine zS (qA tyF (qA (ixC b1) (qA (ixC b2) (rdQ hm.len d1.out d2.out)))) ?_;refine WE.con (hm.con H3 dc[first+(2*ro+1)]! dc[first+(2*ro+1)+1]! (zA2 hN f3.nx)) fun w' H5 g5 hq=>?_;subst hq;have X0:=hs.fr g5 zB2;have f5:=f3.then g5 fun _ h=>h.elim;have I0:=F0.out;have e0:(decide (2*ro+1+1<hi)&&ltF cf dc[first+(2*ro+1)]! dc[first+(2*ro+1)+1]!)=decide (cf dc[first+(2*ro+1)]! dc[first+(2*ro+1)+1]!<0):=by
   rw[decide_eq_true (by omega:2*ro+1+1<hi)];rfl
  rw[e0] at I0;clear F0 e0 hs g5;replace I0:Hd _:=I0;replace X0:Hd _:=X0;replace f5:Hd _:=f5;refine zS tyF ?_;exact tail.out (decide (cf dc[first+(2*ro+1)]! dc[first+(2*ro+1)+1]!<0)) _ _ f5.out X0.out (fun _=>h2) I0 zL
 have h2i:¬((2*ro+2:Nat):Int)<(hi:Int):=by omega
 have I0:=F0.out;rw[decide_eq_false (by omega:¬2*ro+1+1<hi),Bool.false_and] at I0;clear F0;replace I0:Hd _:=I0;refine zS tyF ?_;exact tail.out false _ _ f3 hs (fun h=>by cases h) I0 zL
theorem Qy (hm:Cmp c cf cl N) (H:Hp) (id gen n:Nat) (d:Array α) (a b:Nat) (hs:Srt c H id gen n d) (hN:N≤H.nx) (F4:a≤b) (hb:b≤n) (hn:n≤1099511627776):
  Con E2 147 [.one (.o (.sl id gen 0 n 2)),.one (.i .i64 a),.one (.i .i64 b),.one (.o (.clo cl []))] H (fun k=>k=id) fun r H'=>r=.tup []∧Srt c H' id gen n (Go.Sort.heapSort (ltF cf) d a b):=by
 have X6:=hm.bd;refine Con.of rfl fun lg=>?_;have hs:Srt c ⟨H.t,H.nx,lg⟩ id gen n d:=hs;have hN:N≤(⟨H.t,H.nx,lg⟩:Hp).nx:=hN;generalize (⟨H.t,H.nx,lg⟩:Hp)=H at hs hN ⊢;refine C1.body (E:=E2) (nt:=60) (res:=[]) Tryz.func147 rfl rfl rfl rfl rfl fun tm A0=>?_;have h0:=A0 0 _ rfl;have h1:=A0 1 _ rfl;have h2:=A0 2 _ rfl;have h3:=A0 3 _ rfl;clear A0;unfold Go.Sort.heapSort;generalize E0:Go.Sort.heapPop (ltF cf) a (b - a) (Go.Sort.heapBuild (ltF cf) (b - a) a ((b - a - 1) / 2+1) d)=R;have fin:∀ (e:ax) (A:ab) (H3:Hp) (dc:Array α),(e=.normal∨e=.ret)→A.dfr=[]→Fr (fun k=>k=id) H H3→Srt c H3 id gen n dc→dc=R→∃ w H4,aC E2 [] (e,A,H3)=.ok [(w,H4)]∧Fr (fun k=>k=id) H H4∧∀ lg':List Nat,w=.tup []∧Srt c ⟨H4.t,H4.nx,lg'⟩ id gen n R:=fun e A H3 dc he h1 h2 h3 h4=>⟨_,H3,cu he h1,h2,fun _=>⟨rfl,by rw[←h4];exact h3⟩⟩;have hid:=hs.lt;obtain ⟨w,hw⟩:∃ w,w=b - a:=⟨_,rfl⟩;rw[←hw] at E0;have hw0:IntKind.i64.wrap ((b:Int) - (a:Int))=(w:Int):=by rw[au (by omega) (by omega)];omega
 have D4:IntKind.i64.wrap ((w:Int) - 1)=(w:Int) - 1:=by rw[au (by omega) (by omega)]
 have J1:IntKind.i64.wrap (((w:Int) - 1).tdiv 2)=(((w - 1) / 2:Nat):Int):=by
  rcases Nat.eq_zero_or_pos w with h|h
  ·rw[h];decide
  rw[Int.tdiv_eq_ediv_of_nonneg (by omega),au (by omega) (by omega)];omega
 replace E0:Hd _:=E0;replace hw:Hd _:=hw;refine zW (qA tyF (qA arQ (JE (show (2:Int)≠0 by decide)))) ?_;refine R1.dS fun K k1 k2 k3 k4=>?_;refine R1.loop (fun z A H3=>∃ (dc:Array α),z≤(w - 1) / 2+1∧Fr (fun k=>k=id) H H3∧Srt c H3 id gen n dc∧Hd (Go.Sort.heapPop (ltF cf) a w (Go.Sort.heapBuild (ltF cf) w a z dc)=R)∧slot A.tm 0=.one ((.o (.sl id gen 0 n 2)))∧slot A.tm 3=.one ((.o (.clo cl [])))∧slot A.tm 8=.one (.i .i64 (a:Int))∧slot A.tm 9=.one (.i .i64 (0:Int))∧slot A.tm 10=.one (.i .i64 (w:Int))∧slot A.tm 11=.one (.i .i64 (((z:Int) - 1):Int))∧A.nt=60∧A.dfr=[]) ?_ ((w - 1) / 2+1)
  ⟨d,zA1 _,Fr.refl _,hs,E0,by rw[show ((((w - 1) / 2+1:Nat):Int) - 1)=(((w - 1) / 2:Nat):Int) from by omega];exact zL⟩
 clear h0 h1 h2 h3 tm hs E0 hid hw0 J1 k3;rintro z A H3 ⟨dc,hz,f3,hs,hr,t0,t3,t8,t9,t10,t11,B0,C0⟩;have hid:=hs.lt;cases z with
 | succ k=>
  rw[show (((k+1:Nat):Int) - 1)=(k:Int) from by omega] at t11;have hk0:(0:Int)≤(k:Int):=by omega
  have hww:=hw.out;have hwk:IntKind.i64.wrap ((k:Int) - 1)=(k:Int) - 1:=by rw[au (by omega) (by omega)]
  clear hww;refine zW tyF ?_;refine R1.dS fun K2 q1 q2 q3 q4=>?_;refine zG (qA tyF Na) fun K5 q7=>?_;have hww:=hw.out;refine WE.con (EE hm H3 id gen n dc k w a hs (zA2 hN f3.nx) (by omega) (by omega) hn) fun w' H4 g4 ⟨hq,I2⟩=>?_;subst hq;have F0:=hr.out;rw[Go.Sort.heapBuild] at F0;clear hr;replace F0:Hd _:=F0;refine zK tyF ?_;refine q1.out _ _ ?_;refine zW tyF ?_;exact ⟨k,zA6 _,Go.Sort.siftDown (ltF cf) w a k dc,by omega,f3.then g4 (fun _ h=>.inr h),I2,F0,zL⟩
 | zero=>
  replace t11:slot A.tm 11=.one (.i .i64 (-1)):=t11;have hk0:¬(0:Int)≤-1:=by decide
  have F0:Hd (Go.Sort.heapPop (ltF cf) a w dc=R):=hr;refine zW tyF ?_;refine k2.out _ _ ?_;refine zW tyF ?_;refine R1.dM fun K2 q1 q2 q3 q4=>?_;refine R1.loop (fun z A H3=>∃ (dc:Array α),z≤w∧Fr (fun k=>k=id) H H3∧Srt c H3 id gen n dc∧Hd (Go.Sort.heapPop (ltF cf) a z dc=R)∧slot A.tm 0=.one ((.o (.sl id gen 0 n 2)))∧slot A.tm 3=.one ((.o (.clo cl [])))∧slot A.tm 8=.one (.i .i64 (a:Int))∧slot A.tm 9=.one (.i .i64 (0:Int))∧slot A.tm 12=.one (.i .i64 (((z:Int) - 1):Int))∧A.nt=60∧A.dfr=[]) ?_ w
   ⟨dc,zA1 _,f3,hs,F0,zL⟩
  clear t0 t3 t8 t9 t10 t11 B0 C0 A hs f3 hid hr F0 q3 D4;rintro z A H3 ⟨dc,hz,f3,hs,hr,t0,t3,t8,t9,t12,B0,C0⟩;have hid:=hs.lt;cases z with
  | succ k=>
   rw[show (((k+1:Nat):Int) - 1)=(k:Int) from by omega] at t12;have hk0:(0:Int)≤(k:Int):=by omega
   have hww:=hw.out;have hwk:IntKind.i64.wrap ((k:Int) - 1)=(k:Int) - 1:=by rw[au (by omega) (by omega)]
   have hwa:IntKind.i64.wrap ((a:Int)+(k:Int))=((a+k:Nat):Int):=by rw[au (by omega) (by omega)];omega
   obtain ⟨lo,B2,hg⟩:=hs.row;have M0:=hs.sz;have lv:=hm.ltH (zA2 hN f3.nx);have R0:=hm.len;have b1:a<n:=by omega
   have b2:a+k<n:=by omega
   have d1:a<dc.size:=by omega
   have d2:a+k<dc.size:=by omega
   have V5:=zA2 hN f3.nx;replace d1:Hd _:=d1;replace d2:Hd _:=d2;replace M0:Hd _:=M0;replace hww:Hd _:=hww;refine zW tyF ?_;refine R1.dS fun K3 u1 u2 u3 u4=>?_;refine zW (qA tyF (qA (ixC b1) (qA (ixC b2) (swQ hm.len d1.out d2.out)))) ?_;have f4:Fr (fun k=>k=id) H ((H3.mod id (.arr (dW c (dc.setIfInBounds a dc[a+k]!)) 92 gen gen)).mod id (.arr (dW c (Go.Sort.swp dc a (a+k))) 92 gen gen)):=(f3.mod _ (.inr rfl)).mod _ (.inr rfl);have I2:Srt c ((H3.mod id (.arr (dW c (dc.setIfInBounds a dc[a+k]!)) 92 gen gen)).mod id (.arr (dW c (Go.Sort.swp dc a (a+k))) 92 gen gen)) id gen n (Go.Sort.swp dc a (a+k)):=⟨by rw[swp_size];exact M0.out,⟨gen,zA1 _,aj rfl⟩,hid⟩;clear hg B2 lo;replace f4:Hd _:=f4;replace I2:Hd _:=I2;refine zG (qA tyF Na) fun K5 q7=>?_;refine WE.con (EE hm _ id gen n (Go.Sort.swp dc a (a+k)) 0 k a I2.out V5 (by have:=hww.out;omega) (Nat.zero_le _) hn) fun w' H5 g5 ⟨hq,X0⟩=>?_;subst hq;have F0:=hr.out;rw[Go.Sort.heapPop] at F0;clear hr;replace F0:Hd _:=F0;refine zK tyF ?_;refine u1.out _ _ ?_;refine zW tyF ?_;exact ⟨k,zA6 _,Go.Sort.siftDown (ltF cf) k a 0 (Go.Sort.swp dc a (a+k)),by omega,f4.out.then g5 (fun _ h=>.inr h),X0,F0,zL⟩
  | zero=>
   replace t12:slot A.tm 12=.one (.i .i64 (-1)):=t12;have F0:dc=R:=hr;refine zW tyF ?_;refine q2.out _ _ ?_;exact fin _ _ _ _ (.inl rfl) qe f3 hs F0
end
end Go.Proofs.YtnhbkodnmkojpaaGreat
end
