/- A part of the proof: BkSum2, BkSl1, BkSl2, BkSl3, BkSl4, BkTb1, BkTb2, BkTb3, BkTb4. No conditions. -/
import Derived.Test.YtnhbkodnmkojpaaGreatPAn
set_option maxRecDepth 100000
set_option maxHeartbeats 64000000
namespace Go.Proofs.YtnhbkodnmkojpaaGreat
open Go Go.Eng
theorem Df:al Tryz.prog 107=true:=by kernel_rfl
theorem Cm:al Tryz.prog 55=true:=by kernel_rfl
theorem OR:al Tryz.prog 106=true:=by kernel_rfl
theorem SA:al Tryz.prog 167=true:=by kernel_rfl
theorem AQ:al Tryz.prog 58=true:=by kernel_rfl
def jS (n:Int):Bool:=decide (n<1)||decide (1099511627776<n)
def tZ:Nat→List Int→Int
 | _,[]=>-1
 | n,x::l=>if jS x=true then (n:Int) else tZ (n+1) l
theorem DM:∀ (l:List Int) (n:Nat),decide (0≤tZ n l)=l.any jS
 | [],_=>rfl
 | x::l,n=>by
  rw[tZ,List.any_cons]
  cases h:jS x with
  | true=>rw[if_pos rfl,Bool.true_or];exact decide_eq_true (by omega)
  | false=>rw[if_neg Bool.false_ne_true,Bool.false_or];exact DM l (n+1)
theorem CD (H:Hp) (n:Int):Con E2 107 [.one (.i .i64 n)] H (fun _=>False) fun r _=>r=.one (.b (jS n)):=by
 refine Con.of rfl fun lg=>?_
 generalize (⟨H.t,H.nx,lg⟩:Hp)=H at ⊢
 refine C1.body (E:=E2) (nt:=9) (res:=[.tmp 2]) Tryz.func107 rfl rfl rfl rfl rfl fun tm hargs=>?_
 have h0:=hargs 0 _ rfl
 clear hargs
 have fin:∀ (e:Bool) (A:ab) (H3:Hp),slot A.tm 2=.one (.b e)→A.dfr=[]→Gr H H3→e=jS n→∃ w H4,ao E2 [.tmp 2] (.ret,A,H3)=.ok [(w,H4)]∧Gr H H4∧∀ _:List Nat,w=.one (.b (jS n)):=fun e A H3 h1 h2 h3 h4=>⟨_,H3,ak (.b e) (.inr rfl) h2 h1,h3,fun _=>by rw[h4]⟩
 generalize hr0:jS n=r0 at fin
 unfold jS at hr0
 by_cases c0:n<1
 ·refine zW tyF ?_
  exact fin (true) _ _ qp qe (Fr.refl _) ((by rw[decide_eq_true c0,Bool.true_or] at hr0;exact hr0))
 ·refine zW tyF ?_
  exact fin ((decide (1099511627776<n))) _ _ qp qe (Fr.refl _) ((by rw[decide_eq_false c0,Bool.false_or] at hr0;exact hr0))
theorem RW (H:Hp) (v:AC) (l:List Int) (hv:SlI H v l) (hL:l.length≤4611686018427387904):
  Con E2 167 [.one v,.one (.o (.clo 107 []))] H (fun _=>False) fun r _=>r=.one (.i .i64 (tZ 0 l)):=by
 refine Con.of rfl fun lg=>?_
 have hv:SlI ⟨H.t,H.nx,lg⟩ v l:=hv
 generalize (⟨H.t,H.nx,lg⟩:Hp)=H at hv ⊢
 refine C1.body (E:=E2) (nt:=19) (res:=[.tmp 4]) Tryz.func167 rfl rfl rfl rfl rfl fun tm hargs=>?_
 have h0:=hargs 0 _ rfl
 have h1:=hargs 1 _ rfl
 clear hargs
 have fin:∀ (e:Int) (A:ab) (H3:Hp),slot A.tm 4=.one (.i .i64 e)→A.dfr=[]→Gr H H3→e=tZ 0 l→∃ w H4,ao E2 [.tmp 4] (.ret,A,H3)=.ok [(w,H4)]∧Gr H H4∧∀ _:List Nat,w=.one (.i .i64 (tZ 0 l)):=fun e A H3 h1 h2 h3 h4=>⟨_,H3,ak (.i .i64 e) (.inr rfl) h2 h1,h3,fun _=>by rw[h4]⟩
 generalize hr0:tZ 0 l=r0 at fin
 have l1:=hv.len
 have l2:=hv.lt
 refine zW tyF ?_
 refine R1.cq fun K k1 k2 k3 k4=>?_
 refine R1.loop (fun m A H2=>∃ i:Nat,m=l.length - i∧i≤l.length∧Gr H H2∧tZ i (l.drop i)=r0∧slot A.tm 0=.one (v)∧slot A.tm 1=.one ((.o (.clo 107 [])))∧slot A.tm 7=.one (.i .i64 (l.length:Int))∧slot A.tm 8=.one (.i .i64 (i:Int))∧A.nt=19∧A.dfr=[]) ?_ l.length ⟨0,rfl,Nat.zero_le _,Fr.refl _,hr0,zL⟩
 clear h0 h1 tm l1 l2
 rintro m A H2 ⟨i,rfl,hil,g2,hr,t0,t1,t7,t8,hnt,hdf⟩
 refine zW tyF ?_
 refine zI tyF (fun hc=>?_) (fun hc=>?_)
 ·have hlt:i<l.length:=by omega
  have ex:l[i]?=some l[i]:=List.getElem?_eq_getElem hlt
  have hdr:l.drop i=l[i]::l.drop (i+1):=List.drop_eq_getElem_cons hlt
  have htk:l.take (i+1)=l.take i++[l[i]]:=List.take_succ_eq_append_getElem hlt
  have hmem:l[i]∈l:=List.getElem_mem hlt
  generalize l[i]=x at ex hdr htk hmem
  have hw2:IntKind.i64.wrap ((i:Int)+1)=((i+1:Nat):Int):=by rw[aX (by omega) (by omega)];omega
  obtain ⟨id,g,off,cells,rfl,hid,hgr,hat⟩:=(hv.gr g2).open (by omega)
  obtain ⟨e1,e2⟩:=hat i x ex
  rw[hdr,tZ] at hr
  clear hat
  refine zW tyF ?_
  refine R1.cq fun K2 q1 q2 q3 q4=>?_
  refine zW tyF ?_
  refine zG (qA tyF (qA (ixC hlt) Df)) fun K3 hK3=>?_
  refine WE.con (CD H2 x) fun w H4 g4 hw=>?_
  subst hw
  have g4:=g2.gr g4
  cases hb:jS x with
  | true=>
   refine zK tyF ?_
   exact q4.out _ _ (k4.out _ _ (fin ((i:Int)) _ _ qp qe (g4) ((by rw[if_pos hb] at hr;exact hr))))
  | false=>
   refine zK tyF ?_
   rw[if_neg (by rw[hb];exact Bool.false_ne_true)] at hr
   refine q1.out _ _ ?_
   refine zW tyF ?_
   exact ⟨l.length - (i+1),by omega,i+1,rfl,hlt,g4,hr,zL⟩
 ·have hie:i=l.length:=by omega
  refine zW tyF ?_
  refine k2.out _ _ ?_
  refine zW tyF ?_
  rw[hie,List.drop_length,tZ] at hr
  exact fin (-1) _ _ qp qe (g2) (hr)
theorem Nr (H:Hp) (v:AC) (l:List Int) (hv:SlI H v l) (hL:l.length≤4611686018427387904):
  Con E2 106 [.one v,.one (.o (.clo 107 []))] H (fun _=>False) fun r _=>r=.one (.b (l.any jS)):=by
 refine Con.of rfl fun lg=>?_
 have hv:SlI ⟨H.t,H.nx,lg⟩ v l:=hv
 generalize (⟨H.t,H.nx,lg⟩:Hp)=H at hv ⊢
 refine C1.body (E:=E2) (nt:=9) (res:=[.tmp 4]) Tryz.func106 rfl rfl rfl rfl rfl fun tm hargs=>?_
 have h0:=hargs 0 _ rfl
 have h1:=hargs 1 _ rfl
 clear hargs
 have fin:∀ (e:Bool) (A:ab) (H3:Hp),slot A.tm 4=.one (.b e)→A.dfr=[]→Gr H H3→e=l.any jS→∃ w H4,ao E2 [.tmp 4] (.ret,A,H3)=.ok [(w,H4)]∧Gr H H4∧∀ _:List Nat,w=.one (.b (l.any jS)):=fun e A H3 h1 h2 h3 h4=>⟨_,H3,ak (.b e) (.inr rfl) h2 h1,h3,fun _=>by rw[h4]⟩
 generalize hr0:l.any jS=r0 at fin
 refine zW tyF ?_
 refine zG (qA tyF SA) fun K hK=>?_
 refine WE.con (RW H v l hv hL) fun w H4 g4 hw=>?_
 subst hw
 refine zK tyF ?_
 exact fin ((decide (0≤tZ 0 l))) _ _ qp qe (g4) ((DM l 0).trans hr0)
def nW (lc:List Cl) (v:List Int):Bool:=((v.length:Int)==(lc.length:Int))&&!(v.any jS)
theorem wA (H:Hp) (a b w:AC) (lc:List Cl) (v:List Int) (ha:gP H a lc) (hw:SlI H w v) (hL:v.length≤4611686018427387904):
  Con E2 55 [.agg [a,b],.one w] H (fun _=>False) fun r _=>r=.one (.b (nW lc v)):=by
 refine Con.of rfl fun lg=>?_
 have ha:gP ⟨H.t,H.nx,lg⟩ a lc:=ha
 have hw:SlI ⟨H.t,H.nx,lg⟩ w v:=hw
 generalize (⟨H.t,H.nx,lg⟩:Hp)=H at ha hw ⊢
 refine C1.body (E:=E2) (nt:=16) (res:=[.tmp 4]) Tryz.func55 rfl rfl rfl rfl rfl fun tm hargs=>?_
 have h0:=hargs 0 _ rfl
 have h1:=hargs 1 _ rfl
 clear hargs
 have fin:∀ (e:Bool) (A:ab) (H3:Hp),slot A.tm 4=.one (.b e)→A.dfr=[]→Gr H H3→e=nW lc v→∃ w H4,ao E2 [.tmp 4] (.ret,A,H3)=.ok [(w,H4)]∧Gr H H4∧∀ _:List Nat,w=.one (.b (nW lc v)):=fun e A H3 h1 h2 h3 h4=>⟨_,H3,ak (.b e) (.inr rfl) h2 h1,h3,fun _=>by rw[h4]⟩
 generalize hr0:nW lc v=r0 at fin
 unfold nW at hr0
 refine zG tyF fun K hK=>?_
 refine hK.out _ _ ?_
 refine R1.gen (fun A1 H1=>Gr H H1∧H.nx<H1.nx∧H1.get H.nx=some (.arr [a,b] 37 0 0)∧slot A1.tm 1=.one (w)∧slot A1.tm 2=.one ((.o (.ptr H.nx 0 0 2)))∧A1.nt=16∧A1.dfr=[]) ⟨(Fr.refl _).new _,Nat.lt_succ_self _,an rfl,zL⟩ ?_
 rintro A1 H1 ⟨g1,m1,rx,t1,t2,hnt,hdf⟩
 clear h0 h1 tm hK K
 have ha:=ha.gr g1
 have hw:=hw.gr g1
 have l1:=ha.len
 have l2:=ha.lt
 have l3:=hw.len
 have l4:=hw.lt
 cases hc:((v.length:Int)==(lc.length:Int)) with
 | false=>
  refine zW tyF ?_
  exact fin (false) _ _ qp qe (g1) ((by rw[hc,Bool.false_and] at hr0;exact hr0))
 | true=>
  refine zG (qA tyF OR) fun K hK=>?_
  refine WE.con (Nr H1 w v hw hL) fun w H4 g4 hw=>?_
  subst hw
  refine zK tyF ?_
  exact fin ((!(v.any jS))) _ _ qp qe (g1.gr g4) ((by rw[hc,Bool.true_and] at hr0;exact hr0))
theorem vZ (H:Hp) (a b w:AC) (lc:List Cl) (v:List Int) (ha:gP H a lc) (hw:SlI H w v) (hL:v.length≤4611686018427387904):
  Con E2 58 [.agg [a,b],.one w] H (fun _=>False) fun r _=>r=.one (.b (nW lc v)):=by
 refine Con.of rfl fun lg=>?_
 have ha:gP ⟨H.t,H.nx,lg⟩ a lc:=ha
 have hw:SlI ⟨H.t,H.nx,lg⟩ w v:=hw
 generalize (⟨H.t,H.nx,lg⟩:Hp)=H at ha hw ⊢
 refine C1.body (E:=E2) (nt:=30) (res:=[.tmp 4]) Tryz.func58 rfl rfl rfl rfl rfl fun tm hargs=>?_
 have h0:=hargs 0 _ rfl
 have h1:=hargs 1 _ rfl
 clear hargs
 have fin:∀ (e:Bool) (A:ab) (H3:Hp),slot A.tm 4=.one (.b e)→A.dfr=[]→Gr H H3→e=nW lc v→∃ w H4,ao E2 [.tmp 4] (.ret,A,H3)=.ok [(w,H4)]∧Gr H H4∧∀ _:List Nat,w=.one (.b (nW lc v)):=fun e A H3 h1 h2 h3 h4=>⟨_,H3,ak (.b e) (.inr rfl) h2 h1,h3,fun _=>by rw[h4]⟩
 generalize hr0:nW lc v=r0 at fin
 unfold nW at hr0
 refine zG tyF fun K hK=>?_
 refine hK.out _ _ ?_
 refine R1.gen (fun A1 H1=>Gr H H1∧H.nx<H1.nx∧H1.get H.nx=some (.arr [a,b] 37 0 0)∧slot A1.tm 1=.one (w)∧slot A1.tm 2=.one ((.o (.ptr H.nx 0 0 2)))∧A1.nt=30∧A1.dfr=[]) ⟨(Fr.refl _).new _,Nat.lt_succ_self _,an rfl,zL⟩ ?_
 rintro A1 H1 ⟨g1,m1,rx,t1,t2,hnt,hdf⟩
 clear h0 h1 tm hK K
 have ha:=ha.gr g1
 have hw:=hw.gr g1
 have l1:=ha.len
 have l2:=ha.lt
 have l3:=hw.len
 have l4:=hw.lt
 cases hc:((v.length:Int)==(lc.length:Int)) with
 | false=>
  refine zW tyF ?_
  exact fin (false) _ _ qp qe (g1) ((by rw[hc,Bool.false_and] at hr0;exact hr0))
 | true=>
  rw[hc,Bool.true_and] at hr0
  refine zW tyF ?_
  refine R1.cq fun K k1 k2 k3 k4=>?_
  refine R1.loop (fun m A H2=>∃ i:Nat,m=v.length - i∧i≤v.length∧H2=H1∧(!((v.drop i).any jS))=r0∧slot A.tm 1=.one (w)∧slot A.tm 5=.one (.i .i64 (i:Int))∧A.nt=30∧A.dfr=[]) ?_ v.length ⟨0,rfl,Nat.zero_le _,rfl,hr0,zL⟩
  clear t1 t2 hnt hdf A1 hr0
  rintro m A H2 ⟨i,rfl,hil,rfl,hr,t1,t5,hnt,hdf⟩
  refine zW tyF ?_
  refine zI tyF (fun hc=>?_) (fun hc=>?_)
  ·have hlt:i<v.length:=by omega
   have ex:v[i]?=some v[i]:=List.getElem?_eq_getElem hlt
   have hdr:v.drop i=v[i]::v.drop (i+1):=List.drop_eq_getElem_cons hlt
   have htk:v.take (i+1)=v.take i++[v[i]]:=List.take_succ_eq_append_getElem hlt
   have hmem:v[i]∈v:=List.getElem_mem hlt
   generalize v[i]=x at ex hdr htk hmem
   have hw2:IntKind.i64.wrap ((i:Int)+1)=((i+1:Nat):Int):=by rw[aX (by omega) (by omega)];omega
   obtain ⟨id,g,off,cells,rfl,hid,hgr,hat⟩:=hw.open (by omega)
   obtain ⟨e1,e2⟩:=hat i x ex
   rw[hdr,List.any_cons] at hr
   clear hat
   refine zW tyF ?_
   refine R1.cq fun K2 q1 q2 q3 q4=>?_
   by_cases c0:x<1
   ·refine zW (qA tyF (ixC hlt)) ?_
    exact q4.out _ _ (k4.out _ _ (fin (false) _ _ qp qe (g1) ((by unfold jS at hr;rw[decide_eq_true c0,Bool.true_or,Bool.true_or] at hr;exact hr))))
   by_cases c1:1099511627776<x
   ·refine zW (qA tyF (ixC hlt)) ?_
    exact q4.out _ _ (k4.out _ _ (fin (false) _ _ qp qe (g1) ((by unfold jS at hr;rw[decide_eq_true c1,Bool.or_true,Bool.true_or] at hr;exact hr))))
   refine zW (qA tyF (ixC hlt)) ?_
   refine q1.out _ _ ?_
   refine zW tyF ?_
   have hb:jS x=false:=by unfold jS;rw[decide_eq_false c0,decide_eq_false c1];rfl
   rw[hb,Bool.false_or] at hr
   exact ⟨v.length - (i+1),by omega,i+1,rfl,hlt,rfl,hr,zL⟩
  ·have hie:i=v.length:=by omega
   refine zW tyF ?_
   refine k2.out _ _ ?_
   refine zW tyF ?_
   rw[hie,List.drop_length] at hr
   exact fin (true) _ _ qp qe (g1) (hr)
end Go.Proofs.YtnhbkodnmkojpaaGreat
namespace Go.Proofs.YtnhbkodnmkojpaaGreat
open Go Go.Eng
theorem PH:al Tryz.prog 194=true:=by kernel_rfl
theorem QJ:al Tryz.prog 168=true:=by kernel_rfl
theorem uj:al Tryz.prog 121=true:=by kernel_rfl
def bz:List Pr→Int→List Int
 | [],_=>[]
 | [_],n=>[n]
 | _::y::l,n=>n % y.2::bz (y::l) (n / y.2)
theorem eW:∀ (us:List Pr) (n:Int),(bz us n).length=us.length
 | [],_=>rfl
 | [_],_=>rfl
 | _::y::l,n=>by rw[bz,List.length_cons,eW (y::l),List.length_cons];rfl
theorem TS (l:List Int):l.flatMap pj=l.map (AC.i .i64):=by
 induction l with
 | nil=>rfl
 | cons x l ih=>rw[List.flatMap_cons,ih];rfl
theorem Bi {H:Hp} {q:Nat} {l:List Int} {lo gen:Nat} (hg:H.get q=some (.arr (l.map (AC.i .i64)) 3 lo gen)) (hl:lo≤gen) (hq:q<H.nx):SlI H (.o (.sl q gen 0 l.length 1)) l:=
 ⟨by rw[TS,List.length_map,Nat.mul_one],.inr ⟨q,gen,0,rfl,hq,l.map (AC.i .i64),by rw[hg];exact bm hl (Nat.le_refl _),by rw[List.length_map];omega,by rw[List.drop_zero,List.take_of_length_le (by rw[List.length_map];omega),TS]⟩⟩
theorem Uz {α:Type} (out:List α) (z a:α) (k:Nat):(out++List.replicate (k+1) z).set out.length a=(out++[a])++List.replicate k z:=by
 rw[List.set_append_right _ _ (Nat.le_refl _),Nat.sub_self,List.replicate_succ,List.set_cons_zero,List.append_assoc];rfl
theorem Nv (H:Hp) (nm:List UInt8) (u:AC) (us:List Pr) (n:Int) (hu:SlP H u us) (hL:us.length≤1000000) (hn0:0≤n) (hn:n≤1099511627776) (hf:∀ x∈us,1≤x.2∧x.2≤60):
  Con E2 194 [.agg [.o (.str nm),u],.one (.i .i64 n)] H (fun _=>False) fun r H'=>∃ c,r=.one c∧SlI H' c (bz us n)∧∀ id∈(AV.one c).ids,H.nx≤id:=by
 refine Con.of rfl fun lg=>?_
 have hu:SlP ⟨H.t,H.nx,lg⟩ u us:=hu
 have e0:H.nx=(⟨H.t,H.nx,lg⟩:Hp).nx:=rfl
 rw[e0]
 clear e0
 generalize (⟨H.t,H.nx,lg⟩:Hp)=H at hu ⊢
 refine C1.body (E:=E2) (nt:=48) (res:=[.tmp 4]) Tryz.func194 rfl rfl rfl rfl rfl fun tm hargs=>?_
 have h0:=hargs 0 _ rfl
 have h1:=hargs 1 _ rfl
 clear hargs
 obtain ⟨z,hz,hzc⟩:∃ z,aB Tryz.prog 3=some z∧(ofValue z).cells=[.i .i64 0]:=⟨.int .i64 0,tR,rfl⟩
 have mk:∀ H,dg Tryz.prog H 57 (.one (.i .i64 (us.length:Int))) (.one (.i .i64 (us.length:Int)))=.val (.one (.o (.sl H.nx 0 0 us.length 1))) (H.new (.arr ((List.replicate us.length (0:Int)).map (AC.i .i64)) 3 0 0)):=fun H=>by
  rw[uE dZ oG hz (by rw[hzc];rfl) (by omega),hzc,BO,List.map_replicate]
 clear hz hzc
 have hu0:=hu
 refine zG tyF fun K hK=>?_
 refine hK.out _ _ ?_
 refine R1.gen (fun A1 H1=>Gr H H1∧H.nx+1=H1.nx∧H1.get H.nx=some (.arr [.o (.str nm),u] 97 0 0)∧slot A1.tm 1=.one (.i .i64 (n:Int))∧slot A1.tm 2=.one ((.o (.ptr H.nx 0 0 2)))∧A1.nt=48∧A1.dfr=[]) ⟨(Fr.refl _).new _,rfl,an rfl,zL⟩ ?_
 rintro A1 H1 ⟨g1,n1,rx,t1,t2,hnt,hdf⟩
 clear h0 h1 tm hK K
 have m1:H.nx<H1.nx:=by omega
 obtain ⟨N,hN⟩:∃ N,N=H.nx:=⟨_,rfl⟩
 rw[←hN] at n1 rx t2 m1
 replace hN:Hd (N=H.nx):=hN
 replace n1:Hd (N+1=H1.nx):=n1
 have hu:=hu.gr g1
 have l1:=hu.len
 have l2:=hu.lt
 refine zG (qA tyF mk) fun K hK=>?_
 refine hK.out _ _ ?_
 refine R1.gen (fun A2 H2=>Gr H1 H2∧N+1<H2.nx∧H2.get (N+1)=some (.arr ((([]:List Int)++List.replicate us.length 0).map (AC.i .i64)) 3 0 0)∧slot A2.tm 1=.one (.i .i64 (n:Int))∧slot A2.tm 2=.one ((.o (.ptr N 0 0 2)))∧slot A2.tm 5=.one ((.o (.sl (N+1) 0 0 us.length 1)))∧A2.nt=48∧A2.dfr=[])
  ⟨(Fr.refl _).new _,by have:=n1.out;show _<H1.nx+1;omega,an n1.out,?_⟩ ?_
 ·rw[n1.out];exact zL
 clear t1 t2 hnt hdf A1 mk l1 l2 hK K
 rintro A2 H2 ⟨g2,m2,rs,t1,t2,t5,hnt,hdf⟩
 have rx:=(g2.get _ m1 not_false).trans rx
 have m1:=Nat.lt_of_lt_of_le m1 g2.nx
 have hu:=hu.gr g2
 have g2:=g1.gr g2
 clear g1 n1
 refine zW (qA tyF m2) ?_
 refine R1.cq fun K k1 k2 k3 k4=>?_
 refine R1.loop (fun m A H3=>∃ (i:Nat) (out:List Int) (k:Int),m=us.length - i∧i≤us.length∧out.length=i∧0≤k∧k≤1099511627776∧Gr H H3∧N<H3.nx∧N+1<H3.nx∧H3.get N=some (.arr [.o (.str nm),u] 97 0 0)∧H3.get (N+1)=some (.arr ((out++List.replicate (us.length - i) 0).map (AC.i .i64)) 3 0 0)∧out++bz (us.drop i) k=bz us n ∧
   slot A.tm 1=.one (.i .i64 (k:Int))∧slot A.tm 2=.one ((.o (.ptr N 0 0 2)))∧slot A.tm 5=.one ((.o (.sl (N+1) 0 0 us.length 1)))∧slot A.tm 12=.one (.i .i64 (us.length:Int))∧slot A.tm 13=.one (.i .i64 (i:Int))∧A.nt=48∧A.dfr=[]) ?_ us.length
  ⟨0,[],n,rfl,Nat.zero_le _,rfl,hn0,hn,g2,m1,m2,rx,rs,rfl,zL⟩
 clear t1 t2 t5 hnt hdf A2 rx rs hu m1 m2 k3 g2
 rintro m A H3 ⟨i,out,k,rfl,hi,hout,hk0,hk1,g3,m1,m2,rx,rs,hsp,t1,t2,t5,t12,t13,hnt,hdf⟩
 refine zW tyF ?_
 refine zI tyF (fun hc=>?_) (fun hc=>?_)
 ·have hlt:i<us.length:=by omega
  have hw2:IntKind.i64.wrap ((i:Int)+1)=((i+1:Nat):Int):=by rw[aX (by omega) (by omega)];omega
  have hle:i+1≤((out++List.replicate (us.length - i) (0:Int)).map (AC.i .i64)).length:=by rw[List.length_map,List.length_append,List.length_replicate];omega
  have hput:∀ a:Int,List.take i ((out++List.replicate (us.length - i) (0:Int)).map (AC.i .i64))++AC.i .i64 a::List.drop (i+1) ((out++List.replicate (us.length - i) (0:Int)).map (AC.i .i64))=((out++[a])++List.replicate (us.length - (i+1)) 0).map (AC.i .i64):=fun a=>by
   rw[setRow (AC.i .i64) _ _ a (by rw[List.length_append,List.length_replicate];omega)]
   have e:us.length - i=(us.length - (i+1))+1:=by omega
   rw[e,←hout,Uz]
  refine zW tyF ?_
  refine R1.cq fun K2 q1 q2 q3 q4=>?_
  have hsz:(bz us n).length=us.length:=eW us n
  by_cases hlast:i+1=us.length
  ·have ce:(((i+1:Nat):Int)==(us.length:Int))=true:=by rw[hlast];exact beq_self_eq_true _
   replace hlast:Hd (i+1=us.length):=hlast
   refine zW (qA tyF (qA (ixC hlt) (qA hput (qA Nat.mul_one hle)))) ?_
   refine q3.out 0 _ _ (by decide) ?_
   refine k2.out _ _ ?_
   refine zW tyF ?_
   have hdr:us.drop i=[us[i]]:=by
    rw[List.drop_eq_getElem_cons hlt,List.drop_of_length_le (by have:=hlast.out;omega)]
   rw[hdr,bz] at hsp
   have e0:us.length - (i+1)=0:=by have:=hlast.out;omega
   have hsl:=Bi (H:=H3.mod (N+1) (.arr ((bz us n).map (AC.i .i64)) 3 0 0)) (ai rfl) (Nat.le_refl _) m2
   rw[hsz] at hsl
   rw[e0,List.replicate_zero,List.append_nil,hsp]
   exact ⟨_,_,ak (.o (.sl (N+1) 0 0 us.length 1)) (.inr rfl) qe qp,g3.mod _ (.inl (by have:=hN.out;omega)),fun _=>⟨_,rfl,hsl,fun k hk=>by have:=hN.out;rw[List.mem_singleton.1 hk];omega⟩⟩
  ·have ce:(((i+1:Nat):Int)==(us.length:Int))=false:=beq_false_of_ne (by omega)
   have hlt2:i+1<us.length:=by omega
   have hdr:us.drop i=us[i]::us[i+1]::us.drop (i+2):=by
    rw[List.drop_eq_getElem_cons hlt,List.drop_eq_getElem_cons hlt2]
   have hdr2:us.drop (i+1)=us[i+1]::us.drop (i+2):=List.drop_eq_getElem_cons hlt2
   have ey:us[i+1]?=some us[i+1]:=List.getElem?_eq_getElem hlt2
   obtain ⟨hy1,hy2⟩:=hf us[i+1] (List.getElem_mem hlt2)
   rw[hdr,bz,←hdr2] at hsp
   clear hdr hdr2
   generalize us[i+1]=y at ey hy1 hy2 hsp
   obtain ⟨id,g,off,cells,rfl,hid0,hgr0,hat⟩:=hu0.open (by omega)
   have hidN:id<N:=by have:=hN.out;omega
   have hid:id<H3.nx:=by omega
   have hgr:rowOf (H3.get id) g=some cells:=by rw[g3.get _ hid0 not_false];exact hgr0
   have hgm:∀ X,rowOf ((H3.mod (N+1) X).get id) g=some cells:=fun X=>by rw[az (by omega)];exact hgr
   have hgx:∀ X,(H3.mod (N+1) X).get N=some (.arr [.o (.str nm),.o (.sl id g off us.length 2)] 97 0 0):=fun X=>(az (by omega)).trans rx
   have hy:=hat _ y ey
   have y1:=hy.snd
   have y2:=hy.le2
   clear hat hy hid0 hgr0
   have hy0:y.2≠0:=by omega
   have e1:k.tmod y.2=k % y.2:=Int.tmod_eq_emod_of_nonneg hk0
   have e3:k / y.2≤k:=Int.ediv_le_self _ hk0
   have e4:0≤k / y.2:=Int.ediv_nonneg hk0 (by omega)
   have e2:IntKind.i64.wrap (k.tdiv y.2)=k / y.2:=by rw[Int.tdiv_eq_ediv_of_nonneg hk0];exact aX (by omega) (by omega)
   refine zW (qA tyF (qA (ixC hlt) (qA (ixC hlt2) (qA hput (qA Nat.mul_one (qA hle (qA arQ (qA (VK hy0) (Vr hy0))))))))) ?_
   refine q1.out _ _ ?_
   refine zW tyF ?_
   exact ⟨us.length - (i+1),by omega,i+1,out++[k % y.2],k / y.2,rfl,hlt,by rw[List.length_append,hout];rfl,e4,by omega,g3.mod _ (.inl (by have:=hN.out;omega)),m1,m2,(az (by omega)).trans rx,ai rfl,by rw[List.append_assoc];exact hsp,zL⟩
 ·have hie:i=us.length:=by omega
  refine zW tyF ?_
  refine k2.out _ _ ?_
  refine zW tyF ?_
  rw[hie,List.drop_length,bz,List.append_nil] at hsp
  rw[hie,Nat.sub_self,List.replicate_zero,List.append_nil,hsp] at rs
  have hsl:=Bi rs (Nat.le_refl _) m2
  rw[eW us n] at hsl
  exact ⟨_,_,ak (.o (.sl (N+1) 0 0 us.length 1)) (.inr rfl) qe qp,g3,fun _=>⟨_,rfl,hsl,fun k hk=>by have:=hN.out;rw[List.mem_singleton.1 hk];omega⟩⟩
end Go.Proofs.YtnhbkodnmkojpaaGreat
namespace Go.Proofs.YtnhbkodnmkojpaaGreat
open Go Go.Eng
theorem MZ:al Tryz.prog 169=true:=by kernel_rfl
def cI:List Int→Int
 | []=>0
 | x::l=>if x=0 then cI l else x
theorem qN (H:Hp) (w:AC) (l:List Int) (hw:SlI H w l) (hL:l.length≤4611686018427387904):
  Con E2 121 [.one w] H (fun _=>False) fun r _=>r=.one (.i .i64 (cI l)):=by
 refine Con.of rfl fun lg=>?_
 have hw:SlI ⟨H.t,H.nx,lg⟩ w l:=hw
 generalize (⟨H.t,H.nx,lg⟩:Hp)=H at hw ⊢
 refine C1.body (E:=E2) (nt:=15) (res:=[.tmp 2]) Tryz.func121 rfl rfl rfl rfl rfl fun tm hargs=>?_
 have h0:=hargs 0 _ rfl
 clear hargs
 have fin:∀ (e:Int) (A:ab) (H3:Hp),slot A.tm 2=.one (.i .i64 e)→A.dfr=[]→Gr H H3→e=cI l→∃ w H4,ao E2 [.tmp 2] (.ret,A,H3)=.ok [(w,H4)]∧Gr H H4∧∀ _:List Nat,w=.one (.i .i64 (cI l)):=fun e A H3 h1 h2 h3 h4=>⟨_,H3,ak (.i .i64 e) (.inr rfl) h2 h1,h3,fun _=>by rw[h4]⟩
 generalize hr0:cI l=r0 at fin
 have l1:=hw.len
 have l2:=hw.lt
 refine zW tyF ?_
 refine R1.cq fun K k1 k2 k3 k4=>?_
 refine R1.loop (fun m A H2=>∃ i:Nat,m=l.length - i∧i≤l.length∧H2=H∧cI (l.drop i)=r0∧slot A.tm 5=.one (w)∧slot A.tm 6=.one (.i .i64 (l.length:Int))∧slot A.tm 7=.one (.i .i64 (i:Int))∧A.nt=15∧A.dfr=[]) ?_ l.length ⟨0,rfl,Nat.zero_le _,rfl,hr0,zL⟩
 clear h0 tm hr0 l1 l2
 rintro m A H2 ⟨i,rfl,hil,rfl,hr,t5,t6,t7,hnt,hdf⟩
 refine zW tyF ?_
 refine zI tyF (fun hc=>?_) (fun hc=>?_)
 ·have hlt:i<l.length:=by omega
  have ex:l[i]?=some l[i]:=List.getElem?_eq_getElem hlt
  have hdr:l.drop i=l[i]::l.drop (i+1):=List.drop_eq_getElem_cons hlt
  have htk:l.take (i+1)=l.take i++[l[i]]:=List.take_succ_eq_append_getElem hlt
  have hmem:l[i]∈l:=List.getElem_mem hlt
  generalize l[i]=x at ex hdr htk hmem
  have hw2:IntKind.i64.wrap ((i:Int)+1)=((i+1:Nat):Int):=by rw[aX (by omega) (by omega)];omega
  obtain ⟨id,g,off,cells,rfl,hid,hgr,hat⟩:=hw.open (by omega)
  obtain ⟨e1,e2⟩:=hat i x ex
  rw[hdr,cI] at hr
  clear hat
  refine zW tyF ?_
  refine R1.cq fun K2 q1 q2 q3 q4=>?_
  by_cases hx:x=0
  ·have ce:(x==0)=true:=beq_iff_eq.2 hx
   rw[if_pos hx] at hr
   replace hx:Hd (x=0):=hx
   refine zW (qA tyF (ixC hlt)) ?_
   refine q1.out _ _ ?_
   refine zW tyF ?_
   exact ⟨l.length - (i+1),by omega,i+1,rfl,hlt,rfl,hr,zL⟩
  ·have ce:(x==0)=false:=beq_false_of_ne hx
   refine zW (qA tyF (ixC hlt)) ?_
   exact q4.out _ _ (k4.out _ _ (fin (x) _ _ qp qe (Fr.refl _) ((by rw[if_neg hx] at hr;exact hr))))
 ·have hie:i=l.length:=by omega
  refine zW tyF ?_
  refine k2.out _ _ ?_
  refine zW tyF ?_
  rw[hie,List.drop_length,cI] at hr
  exact fin (0) _ _ qp qe (Fr.refl _) (hr)
theorem AM {H:Hp} (a b:Int) {e:TypeId}:SlI (H.new (.arr [.i .i64 a,.i .i64 b] e 0 0)) (.o (.sl H.nx 0 0 2 1)) [a,b]:=
 ⟨rfl,.inr ⟨H.nx,0,0,rfl,Nat.lt_succ_self _,_,by rw[an rfl];exact bm (Nat.le_refl _) (Nat.le_refl _),Nat.le_refl _,rfl⟩⟩
def gN (nm:List UInt8) (us:List Pr) (n:Int):List Int×Int:=if aP nm us≠0 then ([],aP nm us) else if 0≤n∧n≤1099511627776 then (bz us n,0) else ([],8)
theorem Ix (H:Hp) (nm:List UInt8) (u:AC) (us:List Pr) (n:Int) (hu:SlP H u us):
  Con E2 168 [.agg [.o (.str nm),u],.one (.i .i64 n)] H (fun _=>False) fun r H'=>∃ c,r=.tup [(false,[c]),(false,[.i .i64 (gN nm us n).2])]∧SlI H' c (gN nm us n).1∧∀ id∈(AV.one c).ids,H.nx≤id:=by
 refine Con.of rfl fun lg=>?_
 have hu:SlP ⟨H.t,H.nx,lg⟩ u us:=hu
 have e0:H.nx=(⟨H.t,H.nx,lg⟩:Hp).nx:=rfl
 rw[e0]
 clear e0
 generalize (⟨H.t,H.nx,lg⟩:Hp)=H at hu ⊢
 refine C1.body (E:=E2) (nt:=24) (res:=[.tmp 4,.tmp 5]) Tryz.func168 rfl rfl rfl rfl rfl fun tm hargs=>?_
 have h0:=hargs 0 _ rfl
 have h1:=hargs 1 _ rfl
 clear hargs
 generalize hr0:gN nm us n=r0
 have fin:∀ (c:AC) (e:Int) (A:ab) (H3:Hp),slot A.tm 4=.one c→slot A.tm 5=.one (.i .i64 e)→A.dfr=[]→Gr H H3→SlI H3 c r0.1∧e=r0.2∧(∀ id∈(AV.one c).ids,H.nx≤id)→∃ w H4,ao E2 [.tmp 4,.tmp 5] (.ret,A,H3)=.ok [(w,H4)]∧Gr H H4∧∀ lg':List Nat,∃ c,w=.tup [(false,[c]),(false,[.i .i64 r0.2])]∧SlI ⟨H4.t,H4.nx,lg'⟩ c r0.1∧∀ id∈(AV.one c).ids,H.nx≤id:=fun c e A H3 h1 h2 h3 h4 h5=>⟨_,H3,aZ c (.i .i64 e) (.inr rfl) h3 h1 h2,h4,fun _=>⟨c,by rw[h5.2.1],h5.1,h5.2.2⟩⟩
 refine zG tyF fun K hK=>?_
 refine hK.out _ _ ?_
 refine R1.gen (fun A1 H1=>Gr H H1∧H.nx<H1.nx∧H1.get H.nx=some (.arr [.o (.str nm),u] 97 0 0)∧slot A1.tm 1=.one (.i .i64 (n:Int))∧slot A1.tm 2=.one ((.o (.ptr H.nx 0 0 2)))∧A1.nt=24∧A1.dfr=[]) ⟨(Fr.refl _).new _,Nat.lt_succ_self _,an rfl,zL⟩ ?_
 rintro A1 H1 ⟨g1,m1,rx,t1,t2,hnt,hdf⟩
 clear h0 h1 tm hK K
 have hu:=hu.gr g1
 refine zG (qA tyF mu) fun K hK=>?_
 refine WE.con (jF H1 nm u us hu) fun w H2 g2 hq=>?_
 subst hq
 have rx:=(g2.get _ m1 not_false).trans rx
 have m1:=Nat.lt_of_lt_of_le m1 g2.nx
 have hu:=hu.gr g2
 have g2:=g1.gr g2
 clear g1
 have r2:jt [AC.i .i64 0] 2=[.i .i64 0,.i .i64 0]:=rfl
 have hok:=@fT nm us
 unfold gN at hr0
 generalize aP nm us=e0 at hr0 hok
 by_cases c0:0≤n
 case neg=>
  refine zS (qA tyF oS) ?_
  refine WE.con (mj H2 false 8) fun w H3 g3 hq=>?_
  subst hq
  have rx:=(g3.get _ m1 not_false).trans rx
  have m1:=Nat.lt_of_lt_of_le m1 g3.nx
  have hu:=hu.gr g3
  have g3:=g2.gr g3
  refine zS (qA tyF uj) ?_
  refine WE.con (qN _ _ [e0,8] (AM _ _) (by show 2≤_;omega)) fun w H4 g4 hq=>?_
  subst hq
  have g4:Gr H3 H4:=((Fr.refl _).new _).gr g4
  have rx:=(g4.get _ m1 not_false).trans rx
  have m1:=Nat.lt_of_lt_of_le m1 g4.nx
  have hu:=hu.gr g4
  have g4:=g3.gr g4
  by_cases he0:e0=0
  case neg=>
   have ce:(cI [e0,8]==0)=false:=by rw[cI,if_neg he0];exact beq_false_of_ne he0
   have cf:cI [e0,8]=e0:=by rw[cI,if_neg he0]
   rw[cf] at ce
   refine zK tyF ?_
   exact fin (.o .nilS) (e0) _ _ qp qp qe (g4) (⟨by rw[←hr0,if_pos he0];exact SlI.nil,by rw[←hr0,if_pos he0],fun _ h=>by cases h⟩)
  rw[if_neg (fun h=>h he0)] at hr0
  have cf:cI [e0,8]=8:=by rw[cI,if_pos he0];rfl
  replace he0:Hd (e0=0):=he0
  refine zK tyF ?_
  exact fin (.o .nilS) (8) _ _ qp qp qe (g4) (⟨by rw[←hr0,if_neg (fun h=>c0 h.1)];exact SlI.nil,by rw[←hr0,if_neg (fun h=>c0 h.1)],fun _ h=>by cases h⟩)
 by_cases c1:n≤1099511627776
 case neg=>
  refine zS (qA tyF oS) ?_
  refine WE.con (mj H2 false 8) fun w H3 g3 hq=>?_
  subst hq
  have rx:=(g3.get _ m1 not_false).trans rx
  have m1:=Nat.lt_of_lt_of_le m1 g3.nx
  have hu:=hu.gr g3
  have g3:=g2.gr g3
  refine zS (qA tyF uj) ?_
  refine WE.con (qN _ _ [e0,8] (AM _ _) (by show 2≤_;omega)) fun w H4 g4 hq=>?_
  subst hq
  have g4:Gr H3 H4:=((Fr.refl _).new _).gr g4
  have rx:=(g4.get _ m1 not_false).trans rx
  have m1:=Nat.lt_of_lt_of_le m1 g4.nx
  have hu:=hu.gr g4
  have g4:=g3.gr g4
  by_cases he0:e0=0
  case neg=>
   have ce:(cI [e0,8]==0)=false:=by rw[cI,if_neg he0];exact beq_false_of_ne he0
   have cf:cI [e0,8]=e0:=by rw[cI,if_neg he0]
   rw[cf] at ce
   refine zK tyF ?_
   exact fin (.o .nilS) (e0) _ _ qp qp qe (g4) (⟨by rw[←hr0,if_pos he0];exact SlI.nil,by rw[←hr0,if_pos he0],fun _ h=>by cases h⟩)
  rw[if_neg (fun h=>h he0)] at hr0
  have cf:cI [e0,8]=8:=by rw[cI,if_pos he0];rfl
  replace he0:Hd (e0=0):=he0
  refine zK tyF ?_
  exact fin (.o .nilS) (8) _ _ qp qp qe (g4) (⟨by rw[←hr0,if_neg (fun h=>c1 h.2)];exact SlI.nil,by rw[←hr0,if_neg (fun h=>c1 h.2)],fun _ h=>by cases h⟩)
 refine zS (qA tyF oS) ?_
 refine WE.con (mj H2 true 8) fun w H3 g3 hq=>?_
 subst hq
 have rx:=(g3.get _ m1 not_false).trans rx
 have m1:=Nat.lt_of_lt_of_le m1 g3.nx
 have hu:=hu.gr g3
 have g3:=g2.gr g3
 refine zS (qA tyF uj) ?_
 refine WE.con (qN _ _ [e0,0] (AM _ _) (by show 2≤_;omega)) fun w H4 g4 hq=>?_
 subst hq
 have g4:Gr H3 H4:=((Fr.refl _).new _).gr g4
 have rx:=(g4.get _ m1 not_false).trans rx
 have m1:=Nat.lt_of_lt_of_le m1 g4.nx
 have hu:=hu.gr g4
 have g4:=g3.gr g4
 by_cases he0:e0=0
 case neg=>
  have ce:(cI [e0,0]==0)=false:=by rw[cI,if_neg he0];exact beq_false_of_ne he0
  have cf:cI [e0,0]=e0:=by rw[cI,if_neg he0]
  rw[cf] at ce
  refine zK tyF ?_
  exact fin (.o .nilS) (e0) _ _ qp qp qe (g4) (⟨by rw[←hr0,if_pos he0];exact SlI.nil,by rw[←hr0,if_pos he0],fun _ h=>by cases h⟩)
 rw[if_neg (fun h=>h he0)] at hr0
 have cf:cI [e0,0]=0:=by rw[cI,if_pos he0];rfl
 obtain ⟨_,_,hf⟩:=hok he0
 have hul:=(hok he0).1
 replace he0:Hd (e0=0):=he0
 refine zK tyF ?_
 refine zG (qA tyF PH) fun K hK=>?_
 refine WE.con (Nv H4 nm u us n hu (by omega) c0 c1 hf) fun w H5 g5 ⟨c,hq,hc,hfr⟩=>?_
 subst hq
 refine zK tyF ?_
 exact fin (c) (0) _ _ qp qp qe (g4.gr g5) (⟨by rw[←hr0,if_pos ⟨c0,c1⟩];exact hc,by rw[←hr0,if_pos ⟨c0,c1⟩],fun id h=>Nat.le_trans g4.nx (hfr id h)⟩)
end Go.Proofs.YtnhbkodnmkojpaaGreat
namespace Go.Proofs.YtnhbkodnmkojpaaGreat
open Go Go.Eng
def nr:List Int→Int→List Int
 | [],_=>[]
 | w::l,n=>(l.head?.elim n fun y=>n % y) / w::nr l n
theorem Gq:∀ (vs:List Int) (n:Int),(nr vs n).length=vs.length
 | [],_=>rfl
 | _::l,n=>by rw[nr,List.length_cons,Gq l,List.length_cons]
theorem fU {v:Int} {x:Pr} {l:List Pr} {vs:List Int} (h:eo v (x::l)=some vs):∃ ws,vs=v*x.2::ws∧eo (v*x.2) l=some ws:=by
 rw[eo] at h
 by_cases hb:1099511627776<v*x.2
 ·rw[if_pos hb] at h;cases h
 ·rw[if_neg hb] at h
  cases hw:eo (v*x.2) l with
  | none=>rw[hw] at h;cases h
  | some ws=>rw[hw] at h;cases h;exact ⟨ws,rfl,rfl⟩
theorem zM:∀ {us:List Pr} {v:Int} {vs:List Int},eo v us=some vs→vs.length=us.length
 | [],_,_,h=>by cases h;rfl
 | x::l,v,vs,h=>by
  obtain ⟨ws,rfl,hw⟩:=fU h
  rw[List.length_cons,List.length_cons,zM hw]
theorem qR:∀ {us:List Pr} {v:Int} {vs:List Int},eo v us=some vs→1≤v→(∀ x∈us,1≤x.2∧x.2≤60)→∀ w∈vs,1≤w∧v∣w
 | [],_,_,h,_,_,w,hw=>by cases h;cases hw
 | x::l,v,vs,h,hv,hf,w,hw=>by
  obtain ⟨ws,rfl,hws⟩:=fU h
  have h1:=(hf x (List.mem_cons_self ..)).1
  have h2:1≤v*x.2:=by have:=Int.mul_le_mul hv h1 (by omega) (by omega);omega
  rcases List.mem_cons.1 hw with rfl|hw
  ·exact ⟨h2,Int.dvd_mul_right _ _⟩
  ·obtain ⟨a,b⟩:=qR hws h2 (fun y hy=>hf y (List.mem_cons_of_mem _ hy)) w hw
   exact ⟨a,Int.dvd_trans (Int.dvd_mul_right _ _) b⟩
theorem wX:∀ {us:List Pr} {v:Int} {vs:List Int},eo v us=some vs→1≤v→(∀ x∈us,1≤x.2∧x.2≤60)→∀ i a b,vs[i]?=some a→vs[i+1]?=some b→a∣b
 | [],_,_,h,_,_,i,a,b,ha,_=>by cases h;simp at ha
 | x::l,v,vs,h,hv,hf,i,a,b,ha,hb=>by
  obtain ⟨ws,rfl,hws⟩:=fU h
  have h1:=(hf x (List.mem_cons_self ..)).1
  have h2:1≤v*x.2:=by have:=Int.mul_le_mul hv h1 (by omega) (by omega);omega
  have hf':∀ y∈l,1≤y.2∧y.2≤60:=fun y hy=>hf y (List.mem_cons_of_mem _ hy)
  rw[List.getElem?_cons_succ] at hb
  cases i with
  | zero=>
   rw[List.getElem?_cons_zero] at ha
   cases ha
   exact (qR hws h2 hf' b (List.mem_of_getElem? hb)).2
  | succ i=>
   rw[List.getElem?_cons_succ] at ha
   exact wX hws h2 hf' i a b ha hb
theorem Sg (n a b:Int) (hn:0≤n) (ha:1≤a) (hb:1≤b):n % (a*b) / a=n / a % b:=by
 obtain ⟨m,rfl⟩:=Int.eq_ofNat_of_zero_le hn
 obtain ⟨x,rfl⟩:=Int.eq_ofNat_of_zero_le (show 0≤a by omega)
 obtain ⟨y,rfl⟩:=Int.eq_ofNat_of_zero_le (show 0≤b by omega)
 have:=Nat.mod_mul_right_div_self m x y
 exact_mod_cast this
theorem ON (n a b:Int) (hn:0≤n) (ha:1≤a) (hb:1≤b):n / a / b=n / (a*b):=by
 obtain ⟨m,rfl⟩:=Int.eq_ofNat_of_zero_le hn
 obtain ⟨x,rfl⟩:=Int.eq_ofNat_of_zero_le (show 0≤a by omega)
 obtain ⟨y,rfl⟩:=Int.eq_ofNat_of_zero_le (show 0≤b by omega)
 have:=Nat.div_div_eq_div_mul m x y
 exact_mod_cast this
theorem uR:∀ (l:List Pr) (x:Pr) (v:Int) (vs:List Int) (n:Int),eo v (x::l)=some vs→0≤n→1≤v→(∀ y∈x::l,1≤y.2∧y.2≤60)→nr vs n=bz (x::l) (n / (v*x.2))
 | [],x,v,vs,n,h,_,_,_=>by
  obtain ⟨ws,rfl,hw⟩:=fU h
  cases hw
  rfl
 | y::l,x,v,vs,n,h,hn,hv,hf=>by
  obtain ⟨ws,rfl,hw⟩:=fU h
  have h1:=(hf x (List.mem_cons_self ..)).1
  have hy:=(hf y (List.mem_cons_of_mem _ (List.mem_cons_self ..))).1
  have h2:1≤v*x.2:=by have:=Int.mul_le_mul hv h1 (by omega) (by omega);omega
  have ih:=uR l y (v*x.2) ws n hw hn h2 fun z hz=>hf z (List.mem_cons_of_mem _ hz)
  obtain ⟨zs,rfl,_⟩:=fU hw
  rw[nr,bz,ih,List.head?_cons,Option.elim_some,Sg n _ _ hn h2 hy,ON n _ _ hn h2 hy]
theorem KC {α:Type} (z a:α) (l:List α):∀ i:Nat,(List.replicate (i+1) z++l).set i a=List.replicate i z++a::l
 | 0=>rfl
 | i+1=>by
  rw[List.replicate_succ,List.cons_append,List.set_cons_succ,KC z a l i,List.replicate_succ,List.cons_append]
end Go.Proofs.YtnhbkodnmkojpaaGreat
namespace Go.Proofs.YtnhbkodnmkojpaaGreat
open Go Go.Eng
theorem hY {nm:List UInt8} {us:List Pr} (h:aP nm us=0):∃ x l,us=x::l∧x.2=1:=by
 unfold aP at h
 cases hl:fg nm us with
 | false=>rw[hl,if_neg Bool.false_ne_true] at h;cases h
 | true=>
  unfold fg at hl
  simp only[Bool.and_eq_true] at hl
  obtain ⟨⟨⟨⟨_,h1⟩,_⟩,_⟩,h2⟩:=hl
  cases us with
  | nil=>simp at h1
  | cons x l=>
   refine ⟨x,l,rfl,?_⟩
   have:=List.all_eq_true.1 h2 0 (List.mem_range.2 (Nat.succ_pos _))
   unfold okU at this
   simp only[Bool.and_eq_true] at this
   have h3:=this.2
   simp at h3
   exact h3
theorem HY (H:Hp) (nm:List UInt8) (u:AC) (us:List Pr) (n:Int) (hu:SlP H u us):
  Con E2 169 [.agg [.o (.str nm),u],.one (.i .i64 n)] H (fun _=>False) fun r H'=>∃ c,r=.tup [(false,[c]),(false,[.i .i64 (gN nm us n).2])]∧SlI H' c (gN nm us n).1:=by
 refine Con.of rfl fun lg=>?_
 have hu:SlP ⟨H.t,H.nx,lg⟩ u us:=hu
 generalize (⟨H.t,H.nx,lg⟩:Hp)=H at hu ⊢
 refine C1.body (E:=E2) (nt:=53) (res:=[.tmp 4,.tmp 5]) Tryz.func169 rfl rfl rfl rfl rfl fun tm hargs=>?_
 have h0:=hargs 0 _ rfl
 have h1:=hargs 1 _ rfl
 clear hargs
 generalize hr0:gN nm us n=r0
 have fin:∀ (c:AC) (e:Int) (A:ab) (H3:Hp),slot A.tm 4=.one c→slot A.tm 5=.one (.i .i64 e)→A.dfr=[]→Gr H H3→SlI H3 c r0.1∧e=r0.2→∃ w H4,ao E2 [.tmp 4,.tmp 5] (.ret,A,H3)=.ok [(w,H4)]∧Gr H H4∧∀ lg':List Nat,∃ c,w=.tup [(false,[c]),(false,[.i .i64 r0.2])]∧SlI ⟨H4.t,H4.nx,lg'⟩ c r0.1:=fun c e A H3 h1 h2 h3 h4 h5=>⟨_,H3,aZ c (.i .i64 e) (.inr rfl) h3 h1 h2,h4,fun _=>⟨c,by rw[h5.2],h5.1⟩⟩
 refine zG tyF fun K hK=>?_
 refine hK.out _ _ ?_
 refine R1.gen (fun A1 H1=>Gr H H1∧H.nx<H1.nx∧H1.get H.nx=some (.arr [.o (.str nm),u] 97 0 0)∧slot A1.tm 1=.one (.i .i64 (n:Int))∧slot A1.tm 2=.one ((.o (.ptr H.nx 0 0 2)))∧A1.nt=53∧A1.dfr=[]) ⟨(Fr.refl _).new _,Nat.lt_succ_self _,an rfl,zL⟩ ?_
 rintro A1 H1 ⟨g1,m1,rx,t1,t2,hnt,hdf⟩
 clear h0 h1 tm hK K
 have hu:=hu.gr g1
 refine zG (qA tyF gF) fun K hK=>?_
 refine WE.con (fJ H1 nm u us hu) fun w H2 g2 hq=>?_
 subst hq
 have rx:=(g2.get _ m1 not_false).trans rx
 have m1:=Nat.lt_of_lt_of_le m1 g2.nx
 have hu:=hu.gr g2
 have g2:=g1.gr g2
 clear g1
 have hok:=@fT nm us
 have hfirst:=@hY nm us
 unfold gN at hr0
 generalize aP nm us=e0 at hr0 hok hfirst
 by_cases he0:e0=0
 case neg=>
  have ce:(e0==0)=false:=beq_false_of_ne he0
  refine zK tyF ?_
  exact fin (.o .nilS) (e0) _ _ qp qp qe (g2) (⟨by rw[←hr0,if_pos he0];exact SlI.nil,by rw[←hr0,if_pos he0]⟩)
 rw[if_neg (fun h=>h he0)] at hr0
 obtain ⟨hul,hyl,hf⟩:=hok he0
 obtain ⟨x0,us',hus,hx0⟩:=hfirst he0
 clear hok hfirst
 have ce:(e0==0)=true:=by rw[he0];rfl
 replace he0:Hd (e0=0):=he0
 by_cases c0:n<0
 ·refine zK tyF ?_
  exact fin (.o .nilS) (8) _ _ qp qp qe (g2) (⟨by rw[←hr0,if_neg (fun h=>absurd h.1 (by omega))];exact SlI.nil,by rw[←hr0,if_neg (fun h=>absurd h.1 (by omega))]⟩)
 by_cases c1:1099511627776<n
 ·refine zK tyF ?_
  exact fin (.o .nilS) (8) _ _ qp qp qe (g2) (⟨by rw[←hr0,if_neg (fun h=>absurd h.2 (by omega))];exact SlI.nil,by rw[←hr0,if_neg (fun h=>absurd h.2 (by omega))]⟩)
 rw[if_pos ⟨by omega,by omega⟩] at hr0
 refine zK tyF ?_
 refine zG (qA tyF qM) fun K hK=>?_
 refine WE.con (nY H2 nm u us hu (by omega) hf) fun w H3 g3 ⟨c,hq,hc⟩=>?_
 subst hq
 obtain ⟨vs,hvs⟩:∃ vs,eo 1 us=some vs:=⟨_,BY 1 us hyl⟩
 rw[hvs,Option.getD_some] at hc
 have hvl:vs.length≤12:=by rw[zM hvs];exact hul
 have hvp:=fun w hw=>(qR hvs (by omega) hf w hw).1
 have hvd:=wX hvs (by omega) hf
 have htop:nr vs n=bz us n:=by
  have:=uR us' x0 1 vs n (by rw[←hus];exact hvs) (by omega) (by omega) (by rw[←hus];exact hf)
  rw[this,←hus,hx0,Int.one_mul,Int.ediv_one]
 rw[←htop] at hr0
 have hvs1:(eo 1 us).isSome=true:=by rw[hvs];rfl
 have g3:=g2.gr g3
 clear g2 hyl hus htop hvs
 obtain ⟨z,hz,hzc⟩:∃ z,aB Tryz.prog 3=some z∧(ofValue z).cells=[.i .i64 0]:=⟨.int .i64 0,tR,rfl⟩
 have mk:∀ H,dg Tryz.prog H 57 (.one (.i .i64 (vs.length:Int))) (.one (.i .i64 (vs.length:Int)))=.val (.one (.o (.sl H.nx 0 0 vs.length 1))) (H.new (.arr ((List.replicate vs.length (0:Int)).map (AC.i .i64)) 3 0 0)):=fun H=>by
  rw[uE dZ oG hz (by rw[hzc];rfl) (by omega),hzc,BO,List.map_replicate]
 clear hz hzc
 have l1:=hc.len
 have l2:=hc.lt
 have hcl:∀ k∈(AV.one c).ids,k<H3.nx:=hc.lt
 refine zK tyF ?_
 refine R1.gen (fun A4 H4=>Gr H H4∧SlI H4 c vs∧H3.nx<H4.nx∧H4.get H3.nx=some (.arr ((List.replicate vs.length (0:Int)++nr (vs.drop vs.length) n).map (AC.i .i64)) 3 0 0)∧slot A4.tm 1=.one (.i .i64 (n:Int))∧slot A4.tm 7=.one (c)∧slot A4.tm 9=.one ((.o (.sl H3.nx 0 0 vs.length 1)))∧A4.nt=53∧A4.dfr=[])
  ⟨g3.new _,hc.gr ((Fr.refl _).new _),Nat.lt_succ_self _,by rw[an rfl,List.drop_length,nr,List.append_nil],zL⟩ ?_
 clear t1 t2 hnt hdf A1 mk l1 l2 hK K rx m1 hvs1
 rintro A H4 ⟨g4,hc,m2,rs,t1,t7,t9,hnt,hdf⟩
 obtain ⟨M,hM⟩:∃ M,M=H3.nx:=⟨_,rfl⟩
 rw[←hM] at m2 rs t9 hcl
 have hMH:H.nx≤M:=by have:=g3.nx;omega
 clear hM
 have hw0:IntKind.i64.wrap ((vs.length:Int) - 1)=(vs.length:Int) - 1:=aX (by omega) (by omega)
 refine zW (qA tyF (qA hc.len hc.lt)) ?_
 refine R1.cq fun K k1 k2 k3 k4=>?_
 refine R1.loop (fun m A H5=>∃ i:Nat,m=i∧i≤vs.length∧Gr H H5∧Fr (fun k=>k=M) H4 H5∧H5.get M=some (.arr ((List.replicate i (0:Int)++nr (vs.drop i) n).map (AC.i .i64)) 3 0 0)∧slot A.tm 1=.one (.i .i64 (((vs[i]?).elim n fun w=>n % w):Int))∧slot A.tm 7=.one (c)∧slot A.tm 9=.one ((.o (.sl M 0 0 vs.length 1)))∧slot A.tm 10=.one (.i .i64 (((i:Int) - 1):Int))∧A.nt=53∧A.dfr=[]) ?_ vs.length
  ⟨vs.length,rfl,Nat.le_refl _,g4,Fr.refl _,rs,by rw[List.getElem?_eq_none (Nat.le_refl _),Option.elim_none];exact zL⟩
 clear t1 t7 t9 hnt hdf A rs hw0 k3
 rintro m A H5 ⟨i,hmi,hi,g5,f5,rs,t1,t7,t9,t10,hnt,hdf⟩
 have hcn:∀ k∈(AV.one c).ids,¬k=M:=fun k hk e=>by have:=hcl k hk;omega
 have hc5:SlI H5 c vs:=SlC.fr hc f5 hcn
 have m5:M<H5.nx:=Nat.lt_of_lt_of_le m2 f5.nx
 refine zW tyF ?_
 refine zI tyF (fun hq=>?_) (fun hq=>?_)
 ·obtain ⟨j,rfl⟩:∃ j,i=j+1:=⟨i - 1,by omega⟩
  have hlt:j<vs.length:=by omega
  have ew:vs[j]?=some vs[j]:=List.getElem?_eq_getElem hlt
  have hdj:vs.drop j=vs[j]::vs.drop (j+1):=List.drop_eq_getElem_cons hlt
  have hwp:=hvp vs[j] (List.getElem_mem hlt)
  have hdv:=fun b=>hvd j vs[j] b ew
  generalize vs[j]=w at ew hdj hwp hdv
  generalize hk:(vs[j+1]?.elim n fun w=>n % w)=k at t1
  have hkw:k % w=(vs[j]?).elim n fun w=>n % w:=by
   rw[ew,Option.elim_some,←hk]
   cases hb:vs[j+1]? with
   | none=>rfl
   | some b=>rw[Option.elim_some];exact Int.emod_emod_of_dvd n (hdv b hb)
  have htv:nr (vs.drop j) n=k / w::nr (vs.drop (j+1)) n:=by
   rw[hdj,nr,←hk,List.head?_drop]
  have hk0:0≤k:=by
   rw[←hk]
   cases hb:vs[j+1]? with
   | none=>exact (by omega:0≤n)
   | some b=>exact Int.emod_nonneg _ (by have:=hvp b (List.mem_of_getElem? hb);omega)
  have hkn:k≤1099511627776:=by
   rw[←hk]
   cases hb:vs[j+1]? with
   | none=>exact (by omega:n≤1099511627776)
   | some b=>
    have h1:=Int.emod_nonneg n (show b≠0 by have:=hvp b (List.mem_of_getElem? hb);omega)
    have h2:=Int.emod_lt_of_pos n (show 0<b by have:=hvp b (List.mem_of_getElem? hb);omega)
    have h3:n % b≤n:=by
     obtain ⟨x,rfl⟩:=Int.eq_ofNat_of_zero_le (show 0≤n by omega)
     obtain ⟨y,rfl⟩:=Int.eq_ofNat_of_zero_le (show 0≤b by omega)
     have:=Nat.mod_le x y
     exact_mod_cast this
    show n % b≤_
    omega
  clear hk hdj hdv
  obtain ⟨id,g,off,cells,rfl,hid,hgr,hat⟩:=hc5.open (by omega)
  have hne:id≠M:=hcn id (List.mem_singleton.2 rfl)
  obtain ⟨y1,y2⟩:=hat j w ew
  rw[Nat.mul_one] at y1 y2
  have hgm:∀ X,rowOf ((H5.mod M X).get id) g=some cells:=fun X=>by rw[az hne];exact hgr
  have hw0:w≠0:=by omega
  have e1:k.tmod w=k % w:=Int.tmod_eq_emod_of_nonneg hk0
  have e3:k / w≤k:=Int.ediv_le_self _ hk0
  have e4:0≤k / w:=Int.ediv_nonneg hk0 (by omega)
  have e2:IntKind.i64.wrap (k.tdiv w)=k / w:=by rw[Int.tdiv_eq_ediv_of_nonneg hk0];exact aX (by omega) (by omega)
  have ej:(((j+1:Nat):Int) - 1)=(j:Int):=by omega
  have ej2:IntKind.i64.wrap ((j:Int) - 1)=(j:Int) - 1:=aX (by omega) (by omega)
  rw[ej] at t10
  have hle:j+1≤((List.replicate (j+1) (0:Int)++nr (vs.drop (j+1)) n).map (AC.i .i64)).length:=by rw[List.length_map,List.length_append,List.length_replicate];omega
  have hput:List.take j ((List.replicate (j+1) (0:Int)++nr (vs.drop (j+1)) n).map (AC.i .i64))++AC.i .i64 (k / w)::List.drop (j+1) ((List.replicate (j+1) (0:Int)++nr (vs.drop (j+1)) n).map (AC.i .i64))=(List.replicate j (0:Int)++nr (vs.drop j) n).map (AC.i .i64):=by
   rw[setRow (AC.i .i64) _ _ (k / w) (by rw[List.length_append,List.length_replicate];omega),KC,←htv]
  clear htv hat hq
  refine zW tyF ?_
  refine R1.cq fun K2 q1 q2 q3 q4=>?_
  refine zW (qA tyF (qA (ixC hlt) (qA hput (qA Nat.mul_one (qA hle (qA arQ (qA (VK hw0) (Vr hw0)))))))) ?_
  refine q1.out _ _ ?_
  refine zW tyF ?_
  exact ⟨j,by omega,j,rfl,by omega,g5.mod _ (.inl hMH),f5.mod _ (.inr rfl),ai rfl,zL⟩
 ·have hie:i=0:=by omega
  refine zW tyF ?_
  refine k2.out _ _ ?_
  refine zW tyF ?_
  rw[hie,List.drop_zero,List.replicate_zero,List.nil_append] at rs
  have hsl:=Bi rs (Nat.le_refl _) m5
  rw[Gq] at hsl
  exact fin (.o (.sl M 0 0 vs.length 1)) (0) _ _ qp qp qe (g5) (⟨by rw[←hr0];exact hsl,by rw[←hr0]⟩)
end Go.Proofs.YtnhbkodnmkojpaaGreat
namespace Go.Proofs.YtnhbkodnmkojpaaGreat
open Go Go.Eng
structure Cs where
 face:Int
 col:Int
 line:Int
 kind:Int
 num:Nm
 good:List UInt8
 ws:List Pr
def CsR (H:Hp) (c:List AC) (x:Cs):Prop:=∃ p q w,c=[.i .i64 x.face,.i .i64 x.col,.i .i64 x.line,.i .i64 x.kind,p,q,.o (.str x.good),w]∧aD H p x.num.1∧aD H q x.num.2∧SlP H w x.ws
theorem CsR.gr {H H':Hp} {c:List AC} {x:Cs} (h:CsR H c x) (hg:Gr H H'):CsR H' c x:=let ⟨p,q,w,h1,h2,h3,h4⟩:=h;⟨p,q,w,h1,h2.gr hg,h3.gr hg,h4.gr hg⟩
theorem mB {a b d e:Int} {s:List UInt8} {p q w:AC}:gM [.i .i64 a,.i .i64 b,.i .i64 d,.i .i64 e,p,q,.o (.str s),w]=(AV.one p).ids++((AV.one q).ids++(AV.one w).ids):=by
 simp only[re,vw,RT,IV,List.nil_append,List.append_nil]
theorem bG:FrR CsR:=fun Y H H' c x ⟨p,q,w,h1,h2,h3,h4⟩ hf hi=>by
 subst h1
 rw[mB] at hi
 exact ⟨p,q,w,rfl,SlC.fr h2 hf fun i h=>hi i (List.mem_append_left _ h),SlC.fr h3 hf fun i h=>hi i (List.mem_append_right _ (List.mem_append_left _ h)),SlC.fr h4 hf fun i h=>hi i (List.mem_append_right _ (List.mem_append_right _ h))⟩
theorem bB:LtR CsR:=fun H c x ⟨p,q,w,h1,h2,h3,h4⟩ i hi=>by
 subst h1
 rw[mB] at hi
 rcases List.mem_append.1 hi with h|h
 ·exact h2.lt i h
 ·rcases List.mem_append.1 h with h|h
  ·exact h3.lt i h
  ·exact h4.lt i h
def bX (H:Hp) (v:AC) (l:List Cs):Prop:=SlR CsR 8 H v l
theorem bX.gr {H H':Hp} {v:AC} {l:List Cs} (h:bX H v l) (hg:Gr H H'):bX H' v l:=SlR.dJ h hg.nx (fun i hi=>hg.get i hi not_false) fun _ _ h=>h.gr hg
theorem bX.len {H:Hp} {v:AC} {l:List Cs} (h:bX H v l):cS H 1 (.one v)=.val (.one (.i .i64 (l.length:Int))) H:=SlR.len h
theorem bX.lt {H:Hp} {v:AC} {l:List Cs} (h:bX H v l):ltV (.one v) H.nx:=SlR.lt h
structure CsAt (H:Hp) (cells:List AC) (o:Nat) (x:Cs) (p q w:AC):Prop where
 of1:aD H p x.num.1
 of2:aD H q x.num.2
 of3:SlP H w x.ws
 all:(cells.drop o).take 8=[.i .i64 x.face,.i .i64 x.col,.i .i64 x.line,.i .i64 x.kind,p,q,.o (.str x.good),w]
 le:o+8≤cells.length
 f0:(cells.drop o).headD (.b false)=.i .i64 x.face
 f1:(cells.drop (o+1)).headD (.b false)=.i .i64 x.col
 f2:(cells.drop (o+2)).headD (.b false)=.i .i64 x.line
 f3:(cells.drop (o+3)).headD (.b false)=.i .i64 x.kind
 f4:(cells.drop (o+4)).take 2=[p,q]
 f6:(cells.drop (o+6)).headD (.b false)=.o (.str x.good)
 f7:(cells.drop (o+7)).headD (.b false)=w
theorem Vs {cells:List AC} {o:Nat} {a b c d e f g h:AC} (hh:(cells.drop o).take 8=[a,b,c,d,e,f,g,h]):(cells.drop o).headD (.b false)=a∧(cells.drop (o+1)).headD (.b false)=b∧(cells.drop (o+2)).headD (.b false)=c∧(cells.drop (o+3)).headD (.b false)=d∧(cells.drop (o+4)).take 2=[e,f]∧(cells.drop (o+6)).headD (.b false)=g∧(cells.drop (o+7)).headD (.b false)=h:=by
 rw[←List.drop_drop,←List.drop_drop,←List.drop_drop,←List.drop_drop,←List.drop_drop,←List.drop_drop]
 match hd:cells.drop o,hh with
 | x0::x1::x2::x3::x4::x5::x6::x7::r,hh=>
  simp only[List.take_succ_cons,List.take_zero,List.cons.injEq,and_true] at hh
  obtain ⟨rfl,rfl,rfl,rfl,rfl,rfl,rfl,rfl⟩:=hh
  exact ⟨rfl,rfl,rfl,rfl,rfl,rfl,rfl⟩
theorem bX.open {H:Hp} {v:AC} {l:List Cs} (h:bX H v l) (hn:0<l.length):∃ id g off cells,v=.o (.sl id g off l.length 8)∧id<H.nx∧rowOf (H.get id) g=some cells∧∀ (i:Nat) (x:Cs),l[i]?=some x→∃ p q w,CsAt H cells (off+i*8) x p q w:=by
 obtain ⟨id,g,off,cells,h1,h2,h3,h4⟩:=SlR.open h hn
 refine ⟨id,g,off,cells,h1,h2,h3,fun i x hx=>?_⟩
 obtain ⟨h5,c,h6,h7,p,q,w,rfl,h8,h9,h10⟩:=h4 i x hx
 obtain ⟨d0,d1,d2,d3,d4,d6,d7⟩:=Vs h6
 exact ⟨p,q,w,h8,h9,h10,h6,h5,d0,d1,d2,d3,d4,d6,d7⟩
abbrev Tb:=List UInt8×List Cs
structure TbB (l:List Cs):Prop where
 c:l.length*120≤140737488355328
 n:∀ x∈l,x.num.1.length*32≤140737488355328∧x.num.2.length*32≤140737488355328
 w:∀ x∈l,x.ws.length*24≤140737488355328
theorem TbB.take {l:List Cs} (h:TbB l) (i:Nat):TbB (l.take i):=
 ⟨by have:=h.c;rw[List.length_take];omega,fun x hx=>h.n x (List.mem_of_mem_take hx),fun x hx=>h.w x (List.mem_of_mem_take hx)⟩
theorem TbB.drop {l:List Cs} (h:TbB l) (i:Nat):TbB (l.drop i):=
 ⟨by have:=h.c;rw[List.length_drop];omega,fun x hx=>h.n x (List.mem_of_mem_drop hx),fun x hx=>h.w x (List.mem_of_mem_drop hx)⟩
theorem cE {E:Env} {res:List ResultVar} {l:List (Bool×List AC)} {A:ab} {H H2:Hp} {e:aE} (he:e=.normal∨e=.ret) (hd:closeAll H A.dfr=some H2) (h:bj E.P res A.tm H2=some l):ao E res (e,A,H)=.ok [(dm l,H2)]:=by
 have key:(ay (closeAll H A.dfr) (R.bad "marks") fun h2=>ay (bj E.P res A.tm h2) (.bad "results") fun l=>.ok [(dm l,h2)])=.ok [(dm l,H2)]:=by
  rw[hd]
  show ay (bj E.P res A.tm H2) (R.bad "results") (fun l=>R.ok [(dm l,H2)])=_
  rw[h];rfl
 rcases he with rfl|rfl
 ·exact key
 ·exact key
theorem lL {P:Program} {tm:PT AV} {H:Hp}:bj P [] tm H=some []:=rfl
theorem kS {P:Program} {A:ab} {H:Hp} {t:Tmp} {c:AC} {rest:List ResultVar} {l:List (Bool×List AC)} (hs:slot A.tm t=.one c) (h:bj P rest A.tm H=some l):bj P (.tmp t::rest) A.tm H=some ((false,[c])::l):=by
 show ay (ay (A.tm.get t) none fl) none (fun x=>ay (bj P rest A.tm H) none fun l=>some (x::l))=_
 rw[sH hs,h];rfl
theorem fw {P:Program} {A:ab} {H:Hp} {s:Tmp} {t:TypeId} {n id g lim:Nat} {cells:List AC} {rest:List ResultVar} {l:List (Bool×List AC)} (ht:loadT P t=some (true,n)) (hs:slot A.tm s=.one (.o (.ptr id g 0 lim))) (hg:rowOf (H.get id) g=some cells) (hl:n≤lim) (ho:cells.length=n)
  (h:bj P rest A.tm H=some l):bj P (.cell s t::rest) A.tm H=some ((true,cells)::l):=by
 have e1:iy P (.cell s t) A.tm H=some (true,cells):=by
  have e0:iy P (.cell s t)=match loadT P t with
    | some p=>fun tm h=>ay (tm.get s) none fun v=>ae.rec (motive:=fun _=>Option (Bool×List AC)) (fun v _=>fl v) (fun _=>none) (fun _ _=>none) (fun _ _=>none) (fun _=>none) (cm h p.1 p.2 v)
    | none=>fun _ _=>none:=rfl
  rw[e0,ht]
  show ay (A.tm.get s) none (fun v=>ae.rec (motive:=fun _=>Option (Bool×List AC)) (fun v _=>fl v) (fun _=>none) (fun _ _=>none) (fun _ _=>none) (fun _=>none) (cm H true n v))=_
  rw[sH hs]
  show ae.rec (motive:=fun _=>Option (Bool×List AC)) (fun v _=>fl v) (fun _=>none) (fun _ _=>none) (fun _ _=>none) (fun _=>none) (cm H true n (.one (.o (.ptr id g 0 lim))))=_
  rw[eX,hg,pE hl (by omega),List.drop_zero,List.take_of_length_le (by omega)];rfl
 show ay (iy P (.cell s t) A.tm H) none (fun x=>ay (bj P rest A.tm H) none fun l=>some (x::l))=_
 rw[e1,h];rfl
theorem qq {c:List AC} {e:TypeId}:rowOf (some (.arr c e 0 0)) 0=some c:=bm (Nat.le_refl _) (Nat.le_refl _)
noncomputable def iM (x:Pr):Bool:=if x.2=1∨x.2=2∨x.2=3 then nmB x.1 else if x.2=4∨x.2=5 then lEq x.1 [] else false
def Iu (acc:List Pr):Bool:=acc.getLast?.any fun y=>y.2==5
noncomputable def goW:List Pr→List Pr→Int
 | _,[]=>0
 | acc,x::l=>if iM x=false then 42 else if x.2=5∧Iu acc=true then 42 else goW (acc++[x]) l
noncomputable def gI (l:List Pr):Int:=if (16:Int)<l.length then 42 else goW [] l
theorem Kv:∀ (acc l:List Pr),goW acc l=0∨goW acc l=42
 | _,[]=>.inl rfl
 | acc,x::l=>by
  unfold goW
  split
  ·exact .inr rfl
  ·split
   ·exact .inr rfl
   ·exact Kv _ l
theorem vV (l:List Pr):gI l=0∨gI l=42:=by
 unfold gI
 split
 ·exact .inr rfl
 ·exact Kv _ _
noncomputable def fF (c:Cs):Bool:=
 if c.face<1∨6<c.face∨c.col<1∨12<c.col∨c.line<1∨99<c.line then false else
 if c.kind=4 then (decide (c.num.1.length=0)&&(decide (c.num.2.length=0)&&lEq c.good [])) else
 if c.kind=1∨c.kind=2∨c.kind=3 then (decide (dS c.num=0)&&(lEq c.good []||nmB c.good)) else false
def kH (a b:Cs):Bool:=if b.face=a.face then (if b.col=a.col then decide (a.line<b.line) else decide (a.col<b.col)) else decide (a.face<b.face)
noncomputable def fj (acc:List Cs) (c:Cs):Int:=
 if fF c=false then 41 else if gI c.ws≠0 then 42 else if acc.getLast?.any (fun y=>!kH y c)=true then 43 else 0
noncomputable def goT:List Cs→List Cs→Int
 | _,[]=>0
 | acc,c::l=>if fj acc c≠0 then fj acc c else goT (acc++[c]) l
noncomputable def ir (t:Tb):Int:=if nmB t.1=false then 40 else if (256:Int)<t.2.length then 3 else goT [] t.2
theorem lN {v:AV} {a b:Nat} (h:ltV v a) (hab:a≤b):ltV v b:=fun i hi=>Nat.lt_of_lt_of_le (h i hi) hab
theorem yp {α:Type} {l:List α} {i:Nat} {y:α} (hi:0<i) (hy:l[i - 1]?=some y):(l.take i).getLast?=some y:=by
 have hlt:=(List.getElem?_eq_some_iff.1 hy).1
 rw[List.getLast?_eq_getElem?,List.length_take,Nat.min_eq_left (by omega),List.getElem?_take,if_pos (by omega)]
 exact hy
end Go.Proofs.YtnhbkodnmkojpaaGreat
namespace Go.Proofs.YtnhbkodnmkojpaaGreat
open Go Go.Eng
theorem iC:al Tryz.prog 80=true:=by kernel_rfl
theorem pV:al Tryz.prog 193=true:=by kernel_rfl
theorem Hn:al Tryz.prog 195=true:=by kernel_rfl
theorem QI:al Tryz.prog 178=true:=by kernel_rfl
theorem wh (H:Hp) (s:List UInt8) (k:Int):Con E2 193 [.agg [.o (.str s),.i .i64 k]] H (fun _=>False) fun r _=>r=.one (.b (iM (s,k))):=by
 refine Con.of rfl fun lg=>?_
 generalize (⟨H.t,H.nx,lg⟩:Hp)=H at ⊢
 refine C1.body (E:=E2) (nt:=18) (res:=[.tmp 2]) Tryz.func193 rfl rfl rfl rfl rfl fun tm hargs=>?_
 have h0:=hargs 0 _ rfl
 clear hargs
 have fin:∀ (e:Bool) (A:ab) (H3:Hp),slot A.tm 2=.one (.b e)→A.dfr=[]→Gr H H3→e=iM (s,k)→∃ w H4,ao E2 [.tmp 2] (.ret,A,H3)=.ok [(w,H4)]∧Gr H H4∧∀ _:List Nat,w=.one (.b (iM (s,k))):=fun e A H3 h1 h2 h3 h4=>⟨_,H3,ak (.b e) (.inr rfl) h2 h1,h3,fun _=>by rw[h4]⟩
 generalize hr0:iM (s,k)=r0 at fin
 have c123:k=1∨k=2∨k=3→nmB s=r0:=fun h=>by rw[←hr0];exact (if_pos h).symm
 have c45:k=4∨k=5→lEq s []=r0:=fun h=>by
  rw[←hr0]
  unfold iM
  rw[if_neg (by show ¬(k=1∨k=2∨k=3);omega),if_pos (by show k=4∨k=5;exact h)]
 have c0:¬(k=1∨k=2∨k=3)→¬(k=4∨k=5)→false=r0:=fun h h'=>by
  rw[←hr0]
  unfold iM
  rw[if_neg (by show ¬(k=1∨k=2∨k=3);exact h),if_neg (by show ¬(k=4∨k=5);exact h')]
 replace c123:Hd _:=c123
 replace c45:Hd _:=c45
 replace c0:Hd _:=c0
 clear hr0
 refine zG tyF fun K hK=>?_
 refine hK.out _ _ ?_
 refine R1.gen (fun A1 H1=>Gr H H1∧H.nx<H1.nx∧H1.get H.nx=some (.arr [.o (.str s),.i .i64 k] 185 0 0)∧slot A1.tm 1=.one ((.o (.ptr H.nx 0 0 2)))∧A1.nt=18∧A1.dfr=[])
  ⟨(Fr.refl _).new _,Nat.lt_succ_self _,an rfl,zL⟩ ?_
 clear h0 tm hK K
 rintro A1 H1 ⟨g1,m1,rx,t1,hnt,hdf⟩
 obtain ⟨N,hN⟩:∃ N,N=H.nx:=⟨_,rfl⟩
 rw[←hN] at m1 rx t1
 clear hN
 have name:Hd (∀ (A:ab) (h123:k=1∨k=2∨k=3),slot A.tm 1=.one ((.o (.ptr N 0 0 2)))∧A.nt=18∧A.dfr=[]→True):=fun _ _ _=>trivial
 clear name
 by_cases q1:k=1∨k=2∨k=3
 ·have hn:=c123.out q1
  replace hn:Hd _:=hn
  clear c123 c45 c0
  rcases q1 with rfl|rfl|rfl <;>
  ·refine zW tyF ?_
   refine R1.cq fun K2 p1 p2 p3 p4=>?_
   refine zW tyF ?_
   refine zG (qA tyF fk) fun K hK=>?_
   refine WE.con (oz (X:=fun _=>False) s _) fun w H2 g2 hq=>?_
   subst hq
   refine zK tyF ?_
   exact p4.out _ _ (fin (nmB s) _ _ qp qe (g1.gr g2) (hn.out))
 ·by_cases q2:k=4∨k=5
  ·have hn:=c45.out q2
   replace hn:Hd _:=hn
   clear c123 c45 c0 q1
   rcases q2 with rfl|rfl <;>
   ·refine zW tyF ?_
    refine R1.cq fun K2 p1 p2 p3 p4=>?_
    refine zW tyF ?_
    exact p4.out _ _ (fin (lEq s []) _ _ qp qe (g1) (hn.out))
  ·have hn:=c0.out q1 q2
   have e1:(k==1)=false:=beq_false_of_ne (by omega)
   have e2:(k==2)=false:=beq_false_of_ne (by omega)
   have e3:(k==3)=false:=beq_false_of_ne (by omega)
   have e4:(k==4)=false:=beq_false_of_ne (by omega)
   have e5:(k==5)=false:=beq_false_of_ne (by omega)
   replace hn:Hd _:=hn
   clear c123 c45 c0 q1 q2
   refine zW tyF ?_
   refine R1.cq fun K2 p1 p2 p3 p4=>?_
   refine zW tyF ?_
   refine p1.out _ _ ?_
   refine zW tyF ?_
   exact fin (false) _ _ qp qe (g1) (hn.out)
theorem EU (H:Hp) (s:List UInt8) (k:Int):Con E2 195 [.agg [.o (.str s),.i .i64 k]] H (fun _=>False) fun r _=>r=.one (.b (k==1||k==2)):=by
 refine Con.of rfl fun lg=>?_
 generalize (⟨H.t,H.nx,lg⟩:Hp)=H at ⊢
 refine C1.body (E:=E2) (nt:=11) (res:=[.tmp 2]) Tryz.func195 rfl rfl rfl rfl rfl fun tm hargs=>?_
 have h0:=hargs 0 _ rfl
 clear hargs
 have fin:∀ (e:Bool) (A:ab) (H3:Hp),slot A.tm 2=.one (.b e)→A.dfr=[]→Gr H H3→e=(k==1||k==2)→∃ w H4,ao E2 [.tmp 2] (.ret,A,H3)=.ok [(w,H4)]∧Gr H H4∧∀ _:List Nat,w=.one (.b ((k==1||k==2))):=fun e A H3 h1 h2 h3 h4=>⟨_,H3,ak (.b e) (.inr rfl) h2 h1,h3,fun _=>by rw[h4]⟩
 generalize hr0:(k==1||k==2)=r0 at fin
 cases e1:(k==1) <;>
 ·rw[e1] at hr0
  simp only[Bool.true_or,Bool.false_or] at hr0
  replace hr0:Hd _:=hr0
  refine zW tyF ?_
  exact fin _ _ _ qp qe (((Fr.refl _).new _)) hr0.out
end Go.Proofs.YtnhbkodnmkojpaaGreat
namespace Go.Proofs.YtnhbkodnmkojpaaGreat
open Go Go.Eng
theorem Nd (H:Hp) (s:List UInt8) (k:Int):Con E2 178 [.agg [.o (.str s),.i .i64 k]] H (fun _=>False) fun r _=>r=.one (.b (iM (s,k))):=by
 refine Con.of rfl fun lg=>?_
 generalize (⟨H.t,H.nx,lg⟩:Hp)=H at ⊢
 refine C1.body (E:=E2) (nt:=26) (res:=[.tmp 2]) Tryz.func178 rfl rfl rfl rfl rfl fun tm hargs=>?_
 have h0:=hargs 0 _ rfl
 clear hargs
 have fin:∀ (e:Bool) (A:ab) (H3:Hp),slot A.tm 2=.one (.b e)→A.dfr=[]→Gr H H3→e=iM (s,k)→∃ w H4,ao E2 [.tmp 2] (.ret,A,H3)=.ok [(w,H4)]∧Gr H H4∧∀ _:List Nat,w=.one (.b (iM (s,k))):=fun e A H3 h1 h2 h3 h4=>⟨_,H3,ak (.b e) (.inr rfl) h2 h1,h3,fun _=>by rw[h4]⟩
 generalize hr0:iM (s,k)=r0 at fin
 refine zG tyF fun K hK=>?_
 refine hK.out _ _ ?_
 refine R1.gen (fun A1 H1=>Gr H H1∧H.nx<H1.nx∧H1.get H.nx=some (.arr [.o (.str s),.i .i64 k] 185 0 0)∧slot A1.tm 1=.one ((.o (.ptr H.nx 0 0 2)))∧A1.nt=26∧A1.dfr=[])
  ⟨(Fr.refl _).new _,Nat.lt_succ_self _,an rfl,zL⟩ ?_
 clear h0 tm hK K
 rintro A1 H1 ⟨g1,m1,rx,t1,hnt,hdf⟩
 obtain ⟨N,hN⟩:∃ N,N=H.nx:=⟨_,rfl⟩
 rw[←hN] at m1 rx t1
 clear hN
 replace hr0:Hd _:=hr0
 refine zG (qA tyF Hn) fun K hK=>?_
 refine WE.con (EU H1 s k) fun w H2 g2 hq=>?_
 subst hq
 have rx:=(g2.get _ m1 not_false).trans rx
 have m1:=Nat.lt_of_lt_of_le m1 g2.nx
 have g12:=g1.gr g2
 clear g1 g2
 by_cases q1:k=1∨k=2
 ·have e1:(k==1||k==2)=true:=by rcases q1 with rfl|rfl <;> rfl
  have hn:nmB s=r0:=by rw[←hr0.out];exact (if_pos (by show k=1∨k=2∨k=3;omega)).symm
  replace hn:Hd _:=hn
  clear hr0 q1
  refine zK tyF ?_
  refine zG (qA tyF iC) fun K hK=>?_
  refine WE.con (dE H2 s) fun w H3 g3 hq=>?_
  subst hq
  refine zK tyF ?_
  exact fin (nmB s) _ _ qp qe (g12.gr g3) (hn.out)
 have e1:(k==1||k==2)=false:=by
  rw[Bool.or_eq_false_iff]
  exact ⟨beq_false_of_ne (fun h=>q1 (.inl h)),beq_false_of_ne (fun h=>q1 (.inr h))⟩
 rw[e1]
 clear e1
 by_cases q2:k=3
 ·have hn:nmB s=r0:=by rw[←hr0.out];exact (if_pos (by show k=1∨k=2∨k=3;omega)).symm
  subst q2
  replace hn:Hd _:=hn
  clear hr0 q1
  refine zK tyF ?_
  refine zG (qA tyF iC) fun K hK=>?_
  refine WE.con (dE H2 s) fun w H3 g3 hq=>?_
  subst hq
  refine zK tyF ?_
  exact fin (nmB s) _ _ qp qe (g12.gr g3) (hn.out)
 have e3:(k==3)=false:=beq_false_of_ne q2
 by_cases q3:k=4∨k=5
 ·have hn:lEq s []=r0:=by
   rw[←hr0.out]
   unfold iM
   rw[if_neg (by show ¬(k=1∨k=2∨k=3);omega),if_pos (by show k=4∨k=5;exact q3)]
  replace hn:Hd _:=hn
  clear hr0 q1 q2
  rcases q3 with rfl|rfl <;>
  ·refine zK tyF ?_
   exact fin (lEq s []) _ _ qp qe (g12) (hn.out)
 ·have hn:false=r0:=by
   rw[←hr0.out]
   unfold iM
   rw[if_neg (by show ¬(k=1∨k=2∨k=3);omega),if_neg (by show ¬(k=4∨k=5);exact q3)]
  have e4:(k==4)=false:=beq_false_of_ne (by omega)
  have e5:(k==5)=false:=beq_false_of_ne (by omega)
  replace hn:Hd _:=hn
  clear hr0 q1 q2 q3
  refine zK tyF ?_
  exact fin (false) _ _ qp qe (g12) (hn.out)
theorem vk (H:Hp) (v:AC) (l:List Pr) (hv:SlP H v l) (hL:l.length≤4611686018427387904):Con E2 164 [.one v] H (fun _=>False) fun r _=>r=.one (.i .i64 (gI l)):=by
 refine Con.of rfl fun lg=>?_
 have hv:SlP ⟨H.t,H.nx,lg⟩ v l:=hv
 generalize (⟨H.t,H.nx,lg⟩:Hp)=H at hv ⊢
 refine C1.body (E:=E2) (nt:=37) (res:=[.tmp 2]) Tryz.func164 rfl rfl rfl rfl rfl fun tm hargs=>?_
 have h0:=hargs 0 _ rfl
 clear hargs
 have fin:∀ (e:Int) (A:ab) (H3:Hp),slot A.tm 2=.one (.i .i64 e)→A.dfr=[]→Gr H H3→e=gI l→∃ w H4,ao E2 [.tmp 2] (.ret,A,H3)=.ok [(w,H4)]∧Gr H H4∧∀ _:List Nat,w=.one (.i .i64 (gI l)):=fun e A H3 h1 h2 h3 h4=>⟨_,H3,ak (.i .i64 e) (.inr rfl) h2 h1,h3,fun _=>by rw[h4]⟩
 generalize hr0:gI l=r0 at fin
 have l1:=hv.len
 have l2:=hv.lt
 by_cases q1:(16:Int)<l.length
 ·have hn:42=r0:=by rw[←hr0];exact (if_pos q1).symm
  replace hn:Hd _:=hn
  clear hr0
  refine zW tyF ?_
  exact fin (42) _ _ qp qe (Fr.refl _) (hn.out)
 have hn:Hd (goW [] l=r0):=by rw[←hr0];exact (if_neg q1).symm
 clear hr0
 refine zW tyF ?_
 refine R1.cq fun K k1 k2 k3 k4=>?_
 refine R1.loop (fun z A H3=>∃ i:Nat,z=l.length - i∧i≤l.length∧Gr H H3∧Hd (goW (l.take i) (l.drop i)=r0)∧slot A.tm 0=.one (v)∧slot A.tm 8=.one (v)∧slot A.tm 9=.one (.i .i64 (l.length:Int))∧slot A.tm 10=.one (.i .i64 (i:Int))∧A.nt=37∧A.dfr=[]) ?_ l.length
  ⟨0,rfl,Nat.zero_le _,Fr.refl _,hn,zL⟩
 clear h0 hn tm l1 l2 k3
 rintro z A H3 ⟨i,rfl,hi,g3,hr,t0,t8,t9,t10,hnt,hdf⟩
 have hv3:=hv.gr g3
 refine zW tyF ?_
 refine zI tyF (fun hc=>?_) (fun hc=>?_)
 ·have hlt:i<l.length:=by omega
  have ex:l[i]?=some l[i]:=List.getElem?_eq_getElem hlt
  have hdr:l.drop i=l[i]::l.drop (i+1):=List.drop_eq_getElem_cons hlt
  have htk:l.take (i+1)=l.take i++[l[i]]:=List.take_succ_eq_append_getElem hlt
  have hmem:l[i]∈l:=List.getElem_mem hlt
  generalize l[i]=x at ex hdr htk hmem
  have hw2:IntKind.i64.wrap ((i:Int)+1)=((i+1:Nat):Int):=by rw[aX (by omega) (by omega)];omega
  obtain ⟨id,g,off,cells,rfl,hid,hgr,hat⟩:=hv3.open (by omega)
  have hx1:=hat i x ex
  obtain ⟨s,k⟩:=x
  have y1:(cells.drop (off+i*2)).take 2=[.o (.str s),.i .i64 k]:=hx1.all
  have y2:=hx1.le
  have hr1:=hr.out
  rw[hdr,goW] at hr1
  clear hx1 hmem hdr hr
  rw[htk.symm] at hr1
  replace hr1:Hd _:=hr1
  refine zW tyF ?_
  refine R1.cq fun K2 p1 p2 p3 p4=>?_
  refine zG (qA tyF (ixC hlt)) fun K3 hK3=>?_
  refine hK3.out _ _ ?_
  refine R1.gen (fun A4 H4=>Gr H3 H4∧H3.nx<H4.nx∧H4.get H3.nx=some (.arr [.o (.str s),.i .i64 k] 185 0 0)∧slot A4.tm 0=.one ((.o (.sl id g off l.length 2)))∧slot A4.tm 3=.one (.i .i64 (i:Int))∧slot A4.tm 4=.one ((.o (.ptr H3.nx 0 0 2)))∧slot A4.tm 8=.one ((.o (.sl id g off l.length 2)))∧slot A4.tm 9=.one (.i .i64 (l.length:Int))∧slot A4.tm 10=.one (.i .i64 (i:Int))∧A4.nt=37∧A4.dfr=[])
   ⟨((Fr.refl _).new _).mod _ (.inl (Nat.le_refl _)),Nat.lt_succ_self _,ai rfl,zL⟩ ?_
  clear t0 t8 t9 t10 hnt hdf A y1 y2 hK3 K3
  rintro A H4 ⟨g4,m1,rx,t0,t3,t4,t8,t9,t10,hnt,hdf⟩
  obtain ⟨N,hN⟩:∃ N,N=H3.nx:=⟨_,rfl⟩
  rw[←hN] at m1 rx t4
  clear hN
  have hgr4:rowOf (H4.get id) g=some cells:=by rw[g4.get _ hid not_false];exact hgr
  have hid4:id<H4.nx:=Nat.lt_of_lt_of_le hid g4.nx
  have g14:=g3.gr g4
  clear hgr hid hv3 g4 g3
  refine zG (qA tyF pV) fun K3 hK3=>?_
  refine WE.con (wh H4 s k) fun w H5 g5 hq=>?_
  subst hq
  have rx:=(g5.get _ m1 not_false).trans rx
  have m1:=Nat.lt_of_lt_of_le m1 g5.nx
  have hgr5:rowOf (H5.get id) g=some cells:=by rw[g5.get _ hid4 not_false];exact hgr4
  have hid5:id<H5.nx:=Nat.lt_of_lt_of_le hid4 g5.nx
  have g15:=g14.gr g5
  clear hgr4 hid4 g14 g5
  cases e1:iM (s,k) with
  | false=>
   have hn:42=r0:=by rw[←hr1.out];exact (if_pos e1).symm
   replace hn:Hd _:=hn
   clear hr1
   refine zK (qA tyF pV) ?_
   exact p4.out _ _ (k4.out _ _ (fin (42) _ _ qp qe (g15) (hn.out)))
  | true=>
   have hr2:=hr1.out
   rw[if_neg (by rw[e1];decide)] at hr2
   replace hr2:Hd _:=hr2
   clear hr1
   have go:Hd (∀ (A:ab),slot A.tm 0=.one ((.o (.sl id g off l.length 2)))∧slot A.tm 8=.one ((.o (.sl id g off l.length 2)))∧slot A.tm 9=.one (.i .i64 (l.length:Int))∧slot A.tm 10=.one (.i .i64 (i:Int))∧A.nt=37∧A.dfr=[]→goW (l.take (i+1)) (l.drop (i+1))=r0→K2 .normal A H5):=by
    clear t0 t3 t4 t8 t9 t10 hnt hdf hK3 hr2
    rintro A ⟨t0,t8,t9,t10,hnt,hdf⟩ hr3
    replace hr3:Hd _:=hr3
    refine p1.out _ _ ?_
    refine zW tyF ?_
    exact ⟨l.length - (i+1),by omega,i+1,rfl,hlt,g15,hr3,zL⟩
   by_cases q5:k=5
   ·subst q5
    by_cases q0:0<i
    ·have hi1:i - 1<l.length:=by omega
     have ey:l[i - 1]?=some l[i - 1]:=List.getElem?_eq_getElem hi1
     have hy1:=hat (i - 1) _ ey
     have hgw:Iu (l.take i)=(l[i - 1].2==5):=by
      unfold Iu
      rw[yp q0 ey];rfl
     generalize l[i - 1]=y at ey hy1 hgw
     have z1:(cells.drop (off+(i - 1)*2+1)).headD (.b false)=.i .i64 y.2:=hy1.snd
     have z2:=hy1.le2
     have hw1:IntKind.i64.wrap ((i:Int) - 1)=((i - 1:Nat):Int):=by rw[aX (by omega) (by omega)];omega
     have e0:(0:Int)<(i:Int):=by omega
     clear hy1 hat ex ey
     cases e5:(y.2==5) with
     | true=>
      have hn:42=r0:=by rw[←hr2.out];exact (if_pos ⟨rfl,hgw.trans e5⟩).symm
      replace hn:Hd _:=hn
      replace hgw:Hd _:=hgw
      clear hr2 go
      refine zK (qA tyF (ixC hi1)) ?_
      exact p4.out _ _ (k4.out _ _ (fin (42) _ _ qp qe (g15) (hn.out)))
     | false=>
      have hn:goW (l.take (i+1)) (l.drop (i+1))=r0:=by rw[←hr2.out];exact (if_neg (fun h=>by rw[hgw,e5] at h;exact absurd h.2 (by decide))).symm
      replace hn:Hd _:=hn
      replace hgw:Hd _:=hgw
      clear hr2
      refine zK (qA tyF (ixC hi1)) ?_
      exact go.out _ zL hn.out
    ·have hi0:i=0:=by omega
     subst hi0
     have hn:goW (l.take (0+1)) (l.drop (0+1))=r0:=by rw[←hr2.out];exact (if_neg (fun h=>by have h2:Iu (l.take 0)=true:=h.2;rw[List.take_zero] at h2;exact absurd h2 (by decide))).symm
     replace hn:Hd _:=hn
     clear hr2 hat ex
     refine zK tyF ?_
     exact go.out _ zL hn.out
   ·have e5:(k==5)=false:=beq_false_of_ne q5
    have hn:goW (l.take (i+1)) (l.drop (i+1))=r0:=by rw[←hr2.out];exact (if_neg (fun h=>q5 h.1)).symm
    replace hn:Hd _:=hn
    clear hr2 q5 hat ex
    refine zK tyF ?_
    exact go.out _ zL hn.out
 ·have he:i=l.length:=by omega
  subst he
  have hn:=hr.out
  rw[List.drop_length,goW] at hn
  replace hn:Hd _:=hn
  clear hr
  refine zW tyF ?_
  refine k2.out _ _ ?_
  refine zW tyF ?_
  exact fin (0) _ _ qp qe (g3) (hn.out)
theorem sL (H:Hp) (v:AC) (l:List Pr) (hv:SlP H v l) (hL:l.length≤4611686018427387904):Con E2 143 [.one v] H (fun _=>False) fun r _=>r=.one (.i .i64 (gI l)):=by
 refine Con.of rfl fun lg=>?_
 have hv:SlP ⟨H.t,H.nx,lg⟩ v l:=hv
 generalize (⟨H.t,H.nx,lg⟩:Hp)=H at hv ⊢
 refine C1.body (E:=E2) (nt:=40) (res:=[.tmp 2]) Tryz.func143 rfl rfl rfl rfl rfl fun tm hargs=>?_
 have h0:=hargs 0 _ rfl
 clear hargs
 have fin:∀ (e:Int) (A:ab) (H3:Hp),slot A.tm 2=.one (.i .i64 e)→A.dfr=[]→Gr H H3→e=gI l→∃ w H4,ao E2 [.tmp 2] (.ret,A,H3)=.ok [(w,H4)]∧Gr H H4∧∀ _:List Nat,w=.one (.i .i64 (gI l)):=fun e A H3 h1 h2 h3 h4=>⟨_,H3,ak (.i .i64 e) (.inr rfl) h2 h1,h3,fun _=>by rw[h4]⟩
 generalize hr0:gI l=r0 at fin
 have l1:=hv.len
 have l2:=hv.lt
 by_cases q1:(16:Int)<l.length
 ·have hn:42=r0:=by rw[←hr0];exact (if_pos q1).symm
  replace hn:Hd _:=hn
  clear hr0
  refine zW tyF ?_
  exact fin (42) _ _ qp qe (Fr.refl _) (hn.out)
 have hn:Hd (goW [] l=r0):=by rw[←hr0];exact (if_neg q1).symm
 clear hr0
 refine zW tyF ?_
 refine R1.cq fun K k1 k2 k3 k4=>?_
 refine R1.loop (fun z A H3=>∃ i:Nat,z=l.length - i∧i≤l.length∧Gr H H3∧Hd (goW (l.take i) (l.drop i)=r0)∧slot A.tm 0=.one (v)∧slot A.tm 3=.one (.i .i64 (i:Int))∧A.nt=40∧A.dfr=[]) ?_ l.length
  ⟨0,rfl,Nat.zero_le _,Fr.refl _,hn,zL⟩
 clear h0 hn tm l1 l2 k3
 rintro z A H3 ⟨i,rfl,hi,g3,hr,t0,t3,hnt,hdf⟩
 have hv3:=hv.gr g3
 have l1:=hv3.len
 have l2:=hv3.lt
 refine zW tyF ?_
 refine zI tyF (fun hc=>?_) (fun hc=>?_)
 ·have hlt:i<l.length:=by omega
  have ex:l[i]?=some l[i]:=List.getElem?_eq_getElem hlt
  have hdr:l.drop i=l[i]::l.drop (i+1):=List.drop_eq_getElem_cons hlt
  have htk:l.take (i+1)=l.take i++[l[i]]:=List.take_succ_eq_append_getElem hlt
  have hmem:l[i]∈l:=List.getElem_mem hlt
  generalize l[i]=x at ex hdr htk hmem
  have hw2:IntKind.i64.wrap ((i:Int)+1)=((i+1:Nat):Int):=by rw[aX (by omega) (by omega)];omega
  obtain ⟨id,g,off,cells,rfl,hid,hgr,hat⟩:=hv3.open (by omega)
  have hx1:=hat i x ex
  obtain ⟨s,k⟩:=x
  have y1:(cells.drop (off+i*2)).take 2=[.o (.str s),.i .i64 k]:=hx1.all
  have y2:=hx1.le
  have y3:(cells.drop (off+i*2+1)).headD (.b false)=.i .i64 k:=hx1.snd
  have y4:=hx1.le2
  have hr1:=hr.out
  rw[hdr,goW] at hr1
  clear hx1 hmem hdr hr
  rw[htk.symm] at hr1
  replace hr1:Hd _:=hr1
  clear htk
  refine zW tyF ?_
  refine R1.cq fun K2 p1 p2 p3 p4=>?_
  refine zG (qA tyF (qA (ixC hlt) QI)) fun K3 hK3=>?_
  refine WE.con (Nd H3 s k) fun w H5 g5 hq=>?_
  subst hq
  have hgr5:rowOf (H5.get id) g=some cells:=by rw[g5.get _ hid not_false];exact hgr
  have hid5:id<H5.nx:=Nat.lt_of_lt_of_le hid g5.nx
  have g15:=g3.gr g5
  clear hgr hid g5 hv3 l1 l2 y1 y2
  cases e1:iM (s,k) with
  | false=>
   have hn:42=r0:=by rw[←hr1.out];exact (if_pos e1).symm
   replace hn:Hd _:=hn
   clear hr1
   refine zK tyF ?_
   exact p4.out _ _ (k4.out _ _ (fin (42) _ _ qp qe (g15) (hn.out)))
  | true=>
   have hr2:=hr1.out
   rw[if_neg (by rw[e1];decide)] at hr2
   replace hr2:Hd _:=hr2
   clear hr1
   have go:Hd (∀ (A:ab),slot A.tm 0=.one ((.o (.sl id g off l.length 2)))∧slot A.tm 3=.one (.i .i64 (i:Int))∧A.nt=40∧A.dfr=[]→goW (l.take (i+1)) (l.drop (i+1))=r0→K2 .normal A H5):=by
    clear t0 t3 hnt hdf hK3 hr2
    rintro A ⟨t0,t3,hnt,hdf⟩ hr3
    replace hr3:Hd _:=hr3
    refine p1.out _ _ ?_
    refine zW tyF ?_
    exact ⟨l.length - (i+1),by omega,i+1,rfl,hlt,g15,hr3,zL⟩
   by_cases q0:0<i
   ·have hi1:i - 1<l.length:=by omega
    have ey:l[i - 1]?=some l[i - 1]:=List.getElem?_eq_getElem hi1
    have hy1:=hat (i - 1) _ ey
    have hgw:Iu (l.take i)=(l[i - 1].2==5):=by
     unfold Iu
     rw[yp q0 ey];rfl
    generalize l[i - 1]=y at ey hy1 hgw
    have z1:(cells.drop (off+(i - 1)*2+1)).headD (.b false)=.i .i64 y.2:=hy1.snd
    have z2:=hy1.le2
    have hw1:IntKind.i64.wrap ((i:Int) - 1)=((i - 1:Nat):Int):=by rw[aX (by omega) (by omega)];omega
    have e0:(0:Int)<(i:Int):=by omega
    clear hy1 hat ex ey
    by_cases q5:k=5
    ·subst q5
     cases e5:(y.2==5) with
     | true=>
      have hn:42=r0:=by rw[←hr2.out];exact (if_pos ⟨rfl,hgw.trans e5⟩).symm
      replace hn:Hd _:=hn
      replace hgw:Hd _:=hgw
      clear hr2 go
      refine zK (qA tyF (qA (ixC hlt) (ixC hi1))) ?_
      exact p4.out _ _ (k4.out _ _ (fin (42) _ _ qp qe (g15) (hn.out)))
     | false=>
      have hn:goW (l.take (i+1)) (l.drop (i+1))=r0:=by rw[←hr2.out];exact (if_neg (fun h=>by rw[hgw,e5] at h;exact absurd h.2 (by decide))).symm
      replace hn:Hd _:=hn
      replace hgw:Hd _:=hgw
      clear hr2
      refine zK (qA tyF (qA (ixC hlt) (ixC hi1))) ?_
      exact go.out _ zL hn.out
    ·have e5:(k==5)=false:=beq_false_of_ne q5
     have hn:goW (l.take (i+1)) (l.drop (i+1))=r0:=by rw[←hr2.out];exact (if_neg (fun h=>q5 h.1)).symm
     replace hn:Hd _:=hn
     clear hr2 q5 hgw
     refine zK (qA tyF (ixC hlt)) ?_
     exact go.out _ zL hn.out
   ·have hi0:i=0:=by omega
    subst hi0
    have hn:goW (l.take (0+1)) (l.drop (0+1))=r0:=by rw[←hr2.out];exact (if_neg (fun h=>by have h2:Iu (l.take 0)=true:=h.2;rw[List.take_zero] at h2;exact absurd h2 (by decide))).symm
    replace hn:Hd _:=hn
    clear hr2 hat ex
    refine zK tyF ?_
    exact go.out _ zL hn.out
 ·have he:i=l.length:=by omega
  subst he
  have hn:=hr.out
  rw[List.drop_length,goW] at hn
  replace hn:Hd _:=hn
  clear hr
  refine zW tyF ?_
  refine k2.out _ _ ?_
  refine zW tyF ?_
  exact fin (0) _ _ qp qe (g3) (hn.out)
end Go.Proofs.YtnhbkodnmkojpaaGreat
namespace Go.Proofs.YtnhbkodnmkojpaaGreat
open Go Go.Eng
theorem wi (H:Hp) (f cl ln k:Int) (nm:Nm) (gd:List UInt8) (ws:List Pr) (p q w:AC) (hp:aD H p nm.1) (hq:aD H q nm.2) (hw:SlP H w ws):
  Con E2 163 [.agg [.i .i64 f,.i .i64 cl,.i .i64 ln,.i .i64 k,p,q,.o (.str gd),w]] H (fun _=>False) fun r _=>r=.one (.b (fF ⟨f,cl,ln,k,nm,gd,ws⟩)):=by
 refine Con.of rfl fun lg=>?_
 have hp:aD ⟨H.t,H.nx,lg⟩ p nm.1:=hp
 have hq:aD ⟨H.t,H.nx,lg⟩ q nm.2:=hq
 have hw:SlP ⟨H.t,H.nx,lg⟩ w ws:=hw
 generalize (⟨H.t,H.nx,lg⟩:Hp)=H at hp hq hw ⊢
 refine C1.body (E:=E2) (nt:=70) (res:=[.tmp 2]) Tryz.func163 rfl rfl rfl rfl rfl fun tm hargs=>?_
 have h0:=hargs 0 _ rfl
 clear hargs
 have fin:∀ (e:Bool) (A:ab) (H3:Hp),slot A.tm 2=.one (.b e)→A.dfr=[]→Gr H H3→e=fF ⟨f,cl,ln,k,nm,gd,ws⟩→∃ w H4,ao E2 [.tmp 2] (.ret,A,H3)=.ok [(w,H4)]∧Gr H H4∧∀ _:List Nat,w=.one (.b (fF ⟨f,cl,ln,k,nm,gd,ws⟩)):=fun e A H3 h1 h2 h3 h4=>⟨_,H3,ak (.b e) (.inr rfl) h2 h1,h3,fun _=>by rw[h4]⟩
 generalize hr0:fF ⟨f,cl,ln,k,nm,gd,ws⟩=r0 at fin
 have lp:=hp.lt
 have lq:=hq.lt
 have lw:=hw.lt
 refine zG tyF fun K hK=>?_
 refine hK.out _ _ ?_
 refine R1.gen (fun A1 H1=>Gr H H1∧H.nx<H1.nx∧H1.get H.nx=some (.arr [.i .i64 f,.i .i64 cl,.i .i64 ln,.i .i64 k,p,q,.o (.str gd),w] 69 0 0)∧slot A1.tm 1=.one ((.o (.ptr H.nx 0 0 8)))∧A1.nt=70∧A1.dfr=[])
  ⟨(Fr.refl _).new _,Nat.lt_succ_self _,an rfl,zL⟩ ?_
 clear h0 tm hK K lp lq lw
 rintro A1 H1 ⟨g1,m1,rx,t1,hnt,hdf⟩
 obtain ⟨N,hN⟩:∃ N,N=H.nx:=⟨_,rfl⟩
 rw[←hN] at m1 rx t1
 clear hN
 have hp:=hp.gr g1
 have hq:=hq.gr g1
 have hw:=hw.gr g1
 replace hr0:Hd _:=hr0
 by_cases h1:f<1
 ·have hn:false=r0:=by
   rw[←hr0.out]
   exact (if_pos (by show f<1∨6<f∨cl<1∨12<cl∨ln<1∨99<ln;omega)).symm
  replace hn:Hd _:=hn
  clear hr0
  refine zW tyF ?_
  exact fin (false) _ _ qp qe (g1) (hn.out)
 by_cases h2:6<f
 ·have hn:false=r0:=by
   rw[←hr0.out]
   exact (if_pos (by show f<1∨6<f∨cl<1∨12<cl∨ln<1∨99<ln;omega)).symm
  replace hn:Hd _:=hn
  clear hr0
  refine zW tyF ?_
  exact fin (false) _ _ qp qe (g1) (hn.out)
 by_cases h3:cl<1
 ·have hn:false=r0:=by
   rw[←hr0.out]
   exact (if_pos (by show f<1∨6<f∨cl<1∨12<cl∨ln<1∨99<ln;omega)).symm
  replace hn:Hd _:=hn
  clear hr0
  refine zW tyF ?_
  exact fin (false) _ _ qp qe (g1) (hn.out)
 by_cases h4:12<cl
 ·have hn:false=r0:=by
   rw[←hr0.out]
   exact (if_pos (by show f<1∨6<f∨cl<1∨12<cl∨ln<1∨99<ln;omega)).symm
  replace hn:Hd _:=hn
  clear hr0
  refine zW tyF ?_
  exact fin (false) _ _ qp qe (g1) (hn.out)
 by_cases h5:ln<1
 ·have hn:false=r0:=by
   rw[←hr0.out]
   exact (if_pos (by show f<1∨6<f∨cl<1∨12<cl∨ln<1∨99<ln;omega)).symm
  replace hn:Hd _:=hn
  clear hr0
  refine zW tyF ?_
  exact fin (false) _ _ qp qe (g1) (hn.out)
 by_cases h6:99<ln
 ·have hn:false=r0:=by
   rw[←hr0.out]
   exact (if_pos (by show f<1∨6<f∨cl<1∨12<cl∨ln<1∨99<ln;omega)).symm
  replace hn:Hd _:=hn
  clear hr0
  refine zW tyF ?_
  exact fin (false) _ _ qp qe (g1) (hn.out)
 have hr:=hr0.out
 unfold fF at hr
 rw[if_neg (by show ¬(f<1∨6<f∨cl<1∨12<cl∨ln<1∨99<ln);omega)] at hr
 clear hr0
 have lp:=hp.len
 have lq:=hq.len
 have lp2:=hp.lt
 have lq2:=hq.lt
 have lw2:=hw.lt
 by_cases q4:k=4
 ·rw[if_pos (by exact q4)] at hr
  subst q4
  cases e1:decide (nm.1.length=0) with
  | false=>
   have hn:false=r0:=by rw[←hr];exact (by rw[show (decide ((⟨f,cl,ln,4,nm,gd,ws⟩:Cs).num.1.length=0))=false from e1];rfl)
   have z1:((nm.1.length:Int)==0)=false:=beq_false_of_ne (fun h=>by rw[decide_eq_false_iff_not] at e1;omega)
   replace hn:Hd _:=hn
   clear hr e1
   refine zW tyF ?_
   refine R1.cq fun K2 p1 p2 p3 p4=>?_
   refine zW tyF ?_
   exact p4.out _ _ (fin (false) _ _ qp qe (g1) (hn.out))
  | true=>
   have z1:((nm.1.length:Int)==0)=true:=by rw[decide_eq_true_eq] at e1;rw[beq_iff_eq];omega
   cases e2:decide (nm.2.length=0) with
   | false=>
    have hn:false=r0:=by rw[←hr];exact (by rw[show (decide ((⟨f,cl,ln,4,nm,gd,ws⟩:Cs).num.1.length=0))=true from e1,show (decide ((⟨f,cl,ln,4,nm,gd,ws⟩:Cs).num.2.length=0))=false from e2];rfl)
    have z2:((nm.2.length:Int)==0)=false:=beq_false_of_ne (fun h=>by rw[decide_eq_false_iff_not] at e2;omega)
    replace hn:Hd _:=hn
    clear hr e1 e2
    refine zW tyF ?_
    refine R1.cq fun K2 p1 p2 p3 p4=>?_
    refine zW tyF ?_
    exact p4.out _ _ (fin (false) _ _ qp qe (g1) (hn.out))
   | true=>
    have z2:((nm.2.length:Int)==0)=true:=by rw[decide_eq_true_eq] at e2;rw[beq_iff_eq];omega
    have hn:lEq gd []=r0:=by rw[←hr];exact (by rw[show (decide ((⟨f,cl,ln,4,nm,gd,ws⟩:Cs).num.1.length=0))=true from e1,show (decide ((⟨f,cl,ln,4,nm,gd,ws⟩:Cs).num.2.length=0))=true from e2];rfl)
    replace hn:Hd _:=hn
    clear hr e1 e2
    refine zW tyF ?_
    refine R1.cq fun K2 p1 p2 p3 p4=>?_
    refine zW tyF ?_
    exact p4.out _ _ (fin (lEq gd []) _ _ qp qe (g1) (hn.out))
 rw[if_neg (by exact q4)] at hr
 by_cases q3:k=1∨k=2∨k=3
 ·rw[if_pos (by exact q3)] at hr
  replace hr:Hd ((decide (dS nm=0)&&(lEq gd []||nmB gd))=r0):=hr
  clear q4 lp lq
  rcases q3 with rfl|rfl|rfl <;>
  ·refine zW tyF ?_
   refine R1.cq fun K2 p1 p2 p3 p4=>?_
   refine zW tyF ?_
   refine zG (qA tyF (qA sd fk)) fun K hK=>?_
   refine WE.con (pk H1 p q nm hp hq) fun w2 H2 g2 hq2=>?_
   subst hq2
   have rx:=(g2.get _ m1 not_false).trans rx
   have m1:=Nat.lt_of_lt_of_le m1 g2.nx
   have g12:=g1.gr g2
   clear g1 g2
   cases e1:decide (dS nm=0) with
   | false=>
    have z1:(dS nm==0)=false:=beq_false_of_ne (of_decide_eq_false e1)
    have hn:false=r0:=by rw[←hr.out,e1];rfl
    replace hn:Hd _:=hn
    clear hr e1
    refine zK tyF ?_
    exact p4.out _ _ (fin (false) _ _ qp qe (g12) (hn.out))
   | true=>
    have z1:(dS nm==0)=true:=beq_iff_eq.2 (of_decide_eq_true e1)
    cases e2:lEq gd [] with
    | true=>
     have hn:true=r0:=by rw[←hr.out,e1,e2];rfl
     replace hn:Hd _:=hn
     clear hr e1
     refine zK tyF ?_
     exact p4.out _ _ (fin (true) _ _ qp qe (g12) (hn.out))
    | false=>
     have hn:nmB gd=r0:=by rw[←hr.out,e1,e2];rfl
     replace hn:Hd _:=hn
     clear hr e1
     refine zS (qA tyF fk) ?_
     refine WE.con (oz (X:=fun _=>False) gd _) fun w3 H3 g3 hq3=>?_
     subst hq3
     refine zK tyF ?_
     exact p4.out _ _ (fin (nmB gd) _ _ qp qe (g12.gr g3) (hn.out))
 ·rw[if_neg (by exact q3)] at hr
  have hn:false=r0:=hr
  have e1:(k==1)=false:=beq_false_of_ne (by omega)
  have e2:(k==2)=false:=beq_false_of_ne (by omega)
  have e3:(k==3)=false:=beq_false_of_ne (by omega)
  have e4:(k==4)=false:=beq_false_of_ne q4
  replace hn:Hd _:=hn
  clear hr q3 q4
  refine zW tyF ?_
  refine R1.cq fun K2 p1 p2 p3 p4=>?_
  refine zW tyF ?_
  refine p1.out _ _ ?_
  refine zW tyF ?_
  exact fin (false) _ _ qp qe (g1) (hn.out)
theorem NG (H:Hp) (f cl ln k:Int) (nm:Nm) (gd:List UInt8) (ws:List Pr) (p q w:AC) (hp:aD H p nm.1) (hq:aD H q nm.2) (hw:SlP H w ws):
  Con E2 142 [.agg [.i .i64 f,.i .i64 cl,.i .i64 ln,.i .i64 k,p,q,.o (.str gd),w]] H (fun _=>False) fun r _=>r=.one (.b (fF ⟨f,cl,ln,k,nm,gd,ws⟩)):=by
 refine Con.of rfl fun lg=>?_
 have hp:aD ⟨H.t,H.nx,lg⟩ p nm.1:=hp
 have hq:aD ⟨H.t,H.nx,lg⟩ q nm.2:=hq
 have hw:SlP ⟨H.t,H.nx,lg⟩ w ws:=hw
 generalize (⟨H.t,H.nx,lg⟩:Hp)=H at hp hq hw ⊢
 refine C1.body (E:=E2) (nt:=75) (res:=[.tmp 2]) Tryz.func142 rfl rfl rfl rfl rfl fun tm hargs=>?_
 have h0:=hargs 0 _ rfl
 clear hargs
 have fin:∀ (e:Bool) (A:ab) (H3:Hp),slot A.tm 2=.one (.b e)→A.dfr=[]→Gr H H3→e=fF ⟨f,cl,ln,k,nm,gd,ws⟩→∃ w H4,ao E2 [.tmp 2] (.ret,A,H3)=.ok [(w,H4)]∧Gr H H4∧∀ _:List Nat,w=.one (.b (fF ⟨f,cl,ln,k,nm,gd,ws⟩)):=fun e A H3 h1 h2 h3 h4=>⟨_,H3,ak (.b e) (.inr rfl) h2 h1,h3,fun _=>by rw[h4]⟩
 generalize hr0:fF ⟨f,cl,ln,k,nm,gd,ws⟩=r0 at fin
 have lp:=hp.lt
 have lq:=hq.lt
 have lw:=hw.lt
 refine zG tyF fun K hK=>?_
 refine hK.out _ _ ?_
 refine R1.gen (fun A1 H1=>Gr H H1∧H.nx<H1.nx∧H1.get H.nx=some (.arr [.i .i64 f,.i .i64 cl,.i .i64 ln,.i .i64 k,p,q,.o (.str gd),w] 69 0 0)∧slot A1.tm 1=.one ((.o (.ptr H.nx 0 0 8)))∧A1.nt=75∧A1.dfr=[])
  ⟨(Fr.refl _).new _,Nat.lt_succ_self _,an rfl,zL⟩ ?_
 clear h0 tm hK K lp lq lw
 rintro A1 H1 ⟨g1,m1,rx,t1,hnt,hdf⟩
 obtain ⟨N,hN⟩:∃ N,N=H.nx:=⟨_,rfl⟩
 rw[←hN] at m1 rx t1
 clear hN
 have hp:=hp.gr g1
 have hq:=hq.gr g1
 have hw:=hw.gr g1
 replace hr0:Hd _:=hr0
 by_cases h1:f<1
 ·have hn:false=r0:=by
   rw[←hr0.out]
   exact (if_pos (by show f<1∨6<f∨cl<1∨12<cl∨ln<1∨99<ln;omega)).symm
  replace hn:Hd _:=hn
  clear hr0
  refine zW tyF ?_
  exact fin (false) _ _ qp qe (g1) (hn.out)
 by_cases h2:6<f
 ·have hn:false=r0:=by
   rw[←hr0.out]
   exact (if_pos (by show f<1∨6<f∨cl<1∨12<cl∨ln<1∨99<ln;omega)).symm
  replace hn:Hd _:=hn
  clear hr0
  refine zW tyF ?_
  exact fin (false) _ _ qp qe (g1) (hn.out)
 by_cases h3:cl<1
 ·have hn:false=r0:=by
   rw[←hr0.out]
   exact (if_pos (by show f<1∨6<f∨cl<1∨12<cl∨ln<1∨99<ln;omega)).symm
  replace hn:Hd _:=hn
  clear hr0
  refine zW tyF ?_
  exact fin (false) _ _ qp qe (g1) (hn.out)
 by_cases h4:12<cl
 ·have hn:false=r0:=by
   rw[←hr0.out]
   exact (if_pos (by show f<1∨6<f∨cl<1∨12<cl∨ln<1∨99<ln;omega)).symm
  replace hn:Hd _:=hn
  clear hr0
  refine zW tyF ?_
  exact fin (false) _ _ qp qe (g1) (hn.out)
 by_cases h5:ln<1
 ·have hn:false=r0:=by
   rw[←hr0.out]
   exact (if_pos (by show f<1∨6<f∨cl<1∨12<cl∨ln<1∨99<ln;omega)).symm
  replace hn:Hd _:=hn
  clear hr0
  refine zW tyF ?_
  exact fin (false) _ _ qp qe (g1) (hn.out)
 by_cases h6:99<ln
 ·have hn:false=r0:=by
   rw[←hr0.out]
   exact (if_pos (by show f<1∨6<f∨cl<1∨12<cl∨ln<1∨99<ln;omega)).symm
  replace hn:Hd _:=hn
  clear hr0
  refine zW tyF ?_
  exact fin (false) _ _ qp qe (g1) (hn.out)
 by_cases h7:k<1
 ·have hn:false=r0:=by
   rw[←hr0.out]
   unfold fF
   rw[if_neg (by show ¬(f<1∨6<f∨cl<1∨12<cl∨ln<1∨99<ln);omega),if_neg (by show ¬k=4;omega),if_neg (by show ¬(k=1∨k=2∨k=3);omega)]
  replace hn:Hd _:=hn
  clear hr0
  refine zW tyF ?_
  exact fin (false) _ _ qp qe (g1) (hn.out)
 by_cases h8:4<k
 ·have hn:false=r0:=by
   rw[←hr0.out]
   unfold fF
   rw[if_neg (by show ¬(f<1∨6<f∨cl<1∨12<cl∨ln<1∨99<ln);omega),if_neg (by show ¬k=4;omega),if_neg (by show ¬(k=1∨k=2∨k=3);omega)]
  replace hn:Hd _:=hn
  clear hr0
  refine zW tyF ?_
  exact fin (false) _ _ qp qe (g1) (hn.out)
 have hr:=hr0.out
 unfold fF at hr
 rw[if_neg (by show ¬(f<1∨6<f∨cl<1∨12<cl∨ln<1∨99<ln);omega)] at hr
 clear hr0
 have lp:=hp.len
 have lq:=hq.len
 have lp2:=hp.lt
 have lq2:=hq.lt
 have lw2:=hw.lt
 by_cases q4:k=4
 ·rw[if_pos (by exact q4)] at hr
  subst q4
  cases e1:decide (nm.1.length=0) with
  | false=>
   have hn:false=r0:=by rw[←hr];exact (by rw[show (decide ((⟨f,cl,ln,4,nm,gd,ws⟩:Cs).num.1.length=0))=false from e1];rfl)
   have z1:((nm.1.length:Int)==0)=false:=beq_false_of_ne (fun h=>by rw[decide_eq_false_iff_not] at e1;omega)
   replace hn:Hd _:=hn
   clear hr e1
   refine zW tyF ?_
   exact fin (false) _ _ qp qe (g1) (hn.out)
  | true=>
   have z1:((nm.1.length:Int)==0)=true:=by rw[decide_eq_true_eq] at e1;rw[beq_iff_eq];omega
   cases e2:decide (nm.2.length=0) with
   | false=>
    have hn:false=r0:=by rw[←hr];exact (by rw[show (decide ((⟨f,cl,ln,4,nm,gd,ws⟩:Cs).num.1.length=0))=true from e1,show (decide ((⟨f,cl,ln,4,nm,gd,ws⟩:Cs).num.2.length=0))=false from e2];rfl)
    have z2:((nm.2.length:Int)==0)=false:=beq_false_of_ne (fun h=>by rw[decide_eq_false_iff_not] at e2;omega)
    replace hn:Hd _:=hn
    clear hr e1 e2
    refine zW tyF ?_
    exact fin (false) _ _ qp qe (g1) (hn.out)
   | true=>
    have z2:((nm.2.length:Int)==0)=true:=by rw[decide_eq_true_eq] at e2;rw[beq_iff_eq];omega
    have hn:lEq gd []=r0:=by rw[←hr];exact (by rw[show (decide ((⟨f,cl,ln,4,nm,gd,ws⟩:Cs).num.1.length=0))=true from e1,show (decide ((⟨f,cl,ln,4,nm,gd,ws⟩:Cs).num.2.length=0))=true from e2];rfl)
    replace hn:Hd _:=hn
    clear hr e1 e2
    refine zW tyF ?_
    exact fin (lEq gd []) _ _ qp qe (g1) (hn.out)
 rw[if_neg (by exact q4)] at hr
 by_cases q3:k=1∨k=2∨k=3
 ·rw[if_pos (by exact q3)] at hr
  replace hr:Hd ((decide (dS nm=0)&&(lEq gd []||nmB gd))=r0):=hr
  clear q4 lp lq
  have e4:(k==4)=false:=beq_false_of_ne (by omega)
  clear q3
  refine zW tyF ?_
  refine zG (qA tyF (qA pz iC)) fun K hK=>?_
  refine WE.con (nQ H1 p q nm hp hq) fun w2 H2 g2 hq2=>?_
  subst hq2
  have rx:=(g2.get _ m1 not_false).trans rx
  have m1:=Nat.lt_of_lt_of_le m1 g2.nx
  have g12:=g1.gr g2
  clear g1 g2
  cases e1:decide (dS nm=0) with
  | false=>
   have z1:(dS nm==0)=false:=beq_false_of_ne (of_decide_eq_false e1)
   have hn:false=r0:=by rw[←hr.out,e1];rfl
   replace hn:Hd _:=hn
   clear hr e1
   refine zK tyF ?_
   exact fin (false) _ _ qp qe (g12) (hn.out)
  | true=>
   have z1:(dS nm==0)=true:=beq_iff_eq.2 (of_decide_eq_true e1)
   cases e2:lEq gd [] with
   | true=>
    have hn:true=r0:=by rw[←hr.out,e1,e2];rfl
    replace hn:Hd _:=hn
    clear hr e1
    refine zK tyF ?_
    exact fin (true) _ _ qp qe (g12) (hn.out)
   | false=>
    have hn:nmB gd=r0:=by rw[←hr.out,e1,e2];rfl
    replace hn:Hd _:=hn
    clear hr e1
    refine zS (qA tyF iC) ?_
    refine WE.con (dE _ gd) fun w3 H3 g3 hq3=>?_
    subst hq3
    refine zK tyF ?_
    exact fin (nmB gd) _ _ qp qe (g12.gr g3) (hn.out)
 ·rw[if_neg (by exact q3)] at hr
  exact absurd (by omega:k=1∨k=2∨k=3) q3
theorem MJ (H:Hp) (c c':Cs) (p q w p' q' w':AC) (hp:ltV (.one p) H.nx) (hq:ltV (.one q) H.nx) (hw:ltV (.one w) H.nx) (hp':ltV (.one p') H.nx) (hq':ltV (.one q') H.nx) (hw':ltV (.one w') H.nx):
  Con E2 165 [.agg [.i .i64 c.face,.i .i64 c.col,.i .i64 c.line,.i .i64 c.kind,p,q,.o (.str c.good),w],.agg [.i .i64 c'.face,.i .i64 c'.col,.i .i64 c'.line,.i .i64 c'.kind,p',q',.o (.str c'.good),w']] H (fun _=>False) fun r _=>r=.one (.b (kH c' c)):=by
 refine Con.of rfl fun lg=>?_
 have hp:ltV (.one p) (⟨H.t,H.nx,lg⟩:Hp).nx:=hp
 have hq:ltV (.one q) (⟨H.t,H.nx,lg⟩:Hp).nx:=hq
 have hw:ltV (.one w) (⟨H.t,H.nx,lg⟩:Hp).nx:=hw
 have hp':ltV (.one p') (⟨H.t,H.nx,lg⟩:Hp).nx:=hp'
 have hq':ltV (.one q') (⟨H.t,H.nx,lg⟩:Hp).nx:=hq'
 have hw':ltV (.one w') (⟨H.t,H.nx,lg⟩:Hp).nx:=hw'
 generalize (⟨H.t,H.nx,lg⟩:Hp)=H at hp hq hw hp' hq' hw' ⊢
 refine C1.body (E:=E2) (nt:=30) (res:=[.tmp 4]) Tryz.func165 rfl rfl rfl rfl rfl fun tm hargs=>?_
 have h0:=hargs 0 _ rfl
 have h1:=hargs 1 _ rfl
 clear hargs
 have fin:∀ (e:Bool) (A:ab) (H3:Hp),slot A.tm 4=.one (.b e)→A.dfr=[]→Gr H H3→e=kH c' c→∃ w H4,ao E2 [.tmp 4] (.ret,A,H3)=.ok [(w,H4)]∧Gr H H4∧∀ _:List Nat,w=.one (.b (kH c' c)):=fun e A H3 h1 h2 h3 h4=>⟨_,H3,ak (.b e) (.inr rfl) h2 h1,h3,fun _=>by rw[h4]⟩
 generalize hr0:kH c' c=r0 at fin
 replace hr0:Hd _:=hr0
 refine zG tyF fun K hK=>?_
 refine hK.out _ _ ?_
 refine R1.gen (fun A1 H1=>Gr H H1∧H.nx+1<H1.nx∧H1.get H.nx=some (.arr [.i .i64 c.face,.i .i64 c.col,.i .i64 c.line,.i .i64 c.kind,p,q,.o (.str c.good),w] 69 0 0)∧H1.get (H.nx+1)=some (.arr [.i .i64 c'.face,.i .i64 c'.col,.i .i64 c'.line,.i .i64 c'.kind,p',q',.o (.str c'.good),w'] 69 0 0)∧slot A1.tm 2=.one ((.o (.ptr H.nx 0 0 8)))∧slot A1.tm 3=.one ((.o (.ptr (H.nx+1) 0 0 8)))∧A1.nt=30∧A1.dfr=[])
  ⟨((Fr.refl _).new _).new _,by show H.nx+1<H.nx+1+1;omega,by rw[aN (by show H.nx<H.nx+1;omega)];exact an rfl,an rfl,zL⟩ ?_
 clear h0 h1 tm hK K hp hq hw hp' hq' hw'
 rintro A1 H1 ⟨g1,n1,ra,rb,t2,t3,hnt,hdf⟩
 obtain ⟨N,hN⟩:∃ N,N=H.nx:=⟨_,rfl⟩
 rw[←hN] at n1 ra rb t2 t3
 clear hN
 have n0:N<H1.nx:=by omega
 by_cases q1:c.face=c'.face
 ·have e1:(c.face==c'.face)=true:=beq_iff_eq.2 (by omega)
  by_cases q2:c.col=c'.col
  ·have hn:decide (c'.line<c.line)=r0:=by
    rw[←hr0.out]
    unfold kH
    rw[if_pos q1,if_pos q2]
   have e2:(c.col==c'.col)=true:=beq_iff_eq.2 (by omega)
   replace hn:Hd _:=hn
   clear hr0 q1 q2
   refine zW tyF ?_
   exact fin (decide (c'.line<c.line)) _ _ qp qe (g1) (hn.out)
  ·have hn:decide (c'.col<c.col)=r0:=by
    rw[←hr0.out]
    unfold kH
    rw[if_pos q1,if_neg q2]
   have e2:(c.col==c'.col)=false:=beq_false_of_ne (fun h=>q2 (by omega))
   replace hn:Hd _:=hn
   clear hr0 q1 q2
   refine zW tyF ?_
   exact fin (decide (c'.col<c.col)) _ _ qp qe (g1) (hn.out)
 ·have hn:decide (c'.face<c.face)=r0:=by
   rw[←hr0.out]
   unfold kH
   rw[if_neg q1]
  have e1:(c.face==c'.face)=false:=beq_false_of_ne (fun h=>q1 (by omega))
  replace hn:Hd _:=hn
  clear hr0 q1
  refine zW tyF ?_
  exact fin (decide (c'.face<c.face)) _ _ qp qe (g1) (hn.out)
theorem EJ (H:Hp) (c c':Cs) (p q w p' q' w':AC) (hp:ltV (.one p) H.nx) (hq:ltV (.one q) H.nx) (hw:ltV (.one w) H.nx) (hp':ltV (.one p') H.nx) (hq':ltV (.one q') H.nx) (hw':ltV (.one w') H.nx):
  Con E2 144 [.agg [.i .i64 c.face,.i .i64 c.col,.i .i64 c.line,.i .i64 c.kind,p,q,.o (.str c.good),w],.agg [.i .i64 c'.face,.i .i64 c'.col,.i .i64 c'.line,.i .i64 c'.kind,p',q',.o (.str c'.good),w']] H (fun _=>False) fun r _=>r=.one (.b (kH c c')):=by
 refine Con.of rfl fun lg=>?_
 have hp:ltV (.one p) (⟨H.t,H.nx,lg⟩:Hp).nx:=hp
 have hq:ltV (.one q) (⟨H.t,H.nx,lg⟩:Hp).nx:=hq
 have hw:ltV (.one w) (⟨H.t,H.nx,lg⟩:Hp).nx:=hw
 have hp':ltV (.one p') (⟨H.t,H.nx,lg⟩:Hp).nx:=hp'
 have hq':ltV (.one q') (⟨H.t,H.nx,lg⟩:Hp).nx:=hq'
 have hw':ltV (.one w') (⟨H.t,H.nx,lg⟩:Hp).nx:=hw'
 generalize (⟨H.t,H.nx,lg⟩:Hp)=H at hp hq hw hp' hq' hw' ⊢
 refine C1.body (E:=E2) (nt:=30) (res:=[.tmp 4]) Tryz.func144 rfl rfl rfl rfl rfl fun tm hargs=>?_
 have h0:=hargs 0 _ rfl
 have h1:=hargs 1 _ rfl
 clear hargs
 have fin:∀ (e:Bool) (A:ab) (H3:Hp),slot A.tm 4=.one (.b e)→A.dfr=[]→Gr H H3→e=kH c c'→∃ w H4,ao E2 [.tmp 4] (.ret,A,H3)=.ok [(w,H4)]∧Gr H H4∧∀ _:List Nat,w=.one (.b (kH c c')):=fun e A H3 h1 h2 h3 h4=>⟨_,H3,ak (.b e) (.inr rfl) h2 h1,h3,fun _=>by rw[h4]⟩
 generalize hr0:kH c c'=r0 at fin
 replace hr0:Hd _:=hr0
 refine zG tyF fun K hK=>?_
 refine hK.out _ _ ?_
 refine R1.gen (fun A1 H1=>Gr H H1∧H.nx+1<H1.nx∧H1.get H.nx=some (.arr [.i .i64 c.face,.i .i64 c.col,.i .i64 c.line,.i .i64 c.kind,p,q,.o (.str c.good),w] 69 0 0)∧H1.get (H.nx+1)=some (.arr [.i .i64 c'.face,.i .i64 c'.col,.i .i64 c'.line,.i .i64 c'.kind,p',q',.o (.str c'.good),w'] 69 0 0)∧slot A1.tm 2=.one ((.o (.ptr H.nx 0 0 8)))∧slot A1.tm 3=.one ((.o (.ptr (H.nx+1) 0 0 8)))∧A1.nt=30∧A1.dfr=[])
  ⟨((Fr.refl _).new _).new _,by show H.nx+1<H.nx+1+1;omega,by rw[aN (by show H.nx<H.nx+1;omega)];exact an rfl,an rfl,zL⟩ ?_
 clear h0 h1 tm hK K hp hq hw hp' hq' hw'
 rintro A1 H1 ⟨g1,n1,ra,rb,t2,t3,hnt,hdf⟩
 obtain ⟨N,hN⟩:∃ N,N=H.nx:=⟨_,rfl⟩
 rw[←hN] at n1 ra rb t2 t3
 clear hN
 have n0:N<H1.nx:=by omega
 by_cases q1:c'.face=c.face
 ·have e1:(c.face==c'.face)=true:=beq_iff_eq.2 (by omega)
  by_cases q2:c'.col=c.col
  ·have hn:decide (c.line<c'.line)=r0:=by
    rw[←hr0.out]
    unfold kH
    rw[if_pos q1,if_pos q2]
   have e2:(c.col==c'.col)=true:=beq_iff_eq.2 (by omega)
   replace hn:Hd _:=hn
   clear hr0 q1 q2
   refine zW tyF ?_
   exact fin (decide (c.line<c'.line)) _ _ qp qe (g1) (hn.out)
  ·have hn:decide (c.col<c'.col)=r0:=by
    rw[←hr0.out]
    unfold kH
    rw[if_pos q1,if_neg q2]
   have e2:(c.col==c'.col)=false:=beq_false_of_ne (fun h=>q2 (by omega))
   replace hn:Hd _:=hn
   clear hr0 q1 q2
   refine zW tyF ?_
   exact fin (decide (c.col<c'.col)) _ _ qp qe (g1) (hn.out)
 ·have hn:decide (c.face<c'.face)=r0:=by
   rw[←hr0.out]
   unfold kH
   rw[if_neg q1]
  have e1:(c.face==c'.face)=false:=beq_false_of_ne (fun h=>q1 (by omega))
  replace hn:Hd _:=hn
  clear hr0 q1
  refine zW tyF ?_
  exact fin (decide (c.face<c'.face)) _ _ qp qe (g1) (hn.out)
end Go.Proofs.YtnhbkodnmkojpaaGreat
