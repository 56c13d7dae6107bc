/- A part of the proof: BkWr2, BkWr3, BkCo1, BkCo2, BkCo3, BkCo4, BkCo5. No conditions. -/
import Derived.Test.YtnhbkodnmkojpaaGreatPAq
set_option maxRecDepth 100000
set_option maxHeartbeats 64000000
namespace Go.Proofs.YtnhbkodnmkojpaaGreat
open Go Go.Eng
theorem Iz:al Tryz.prog 111=true:=by kernel_rfl
theorem BD:al Tryz.prog 112=true:=by kernel_rfl
theorem Mz:al Tryz.prog 110=true:=by kernel_rfl
theorem Dj (H:Hp) (nm:List UInt8) (u:AC) (us:List Pr) (n:Int) (hu:SlP H u us) (hck:aP nm us=0) (hn0:0≤n) (hn:n≤1099511627776):
  Con E2 111 [.agg [.o (.str nm),u],.one (.i .i64 n)] H (fun _=>False) fun r H'=>∃ c,r=.one c∧aD H' c (wrN us (bz us n))∧∀ id∈(AV.one c).ids,H.nx≤id:=by
 refine Con.of rfl fun lg=>?_
 have hu:SlP ⟨H.t,H.nx,lg⟩ u us:=hu
 have e0:H.nx=(⟨H.t,H.nx,lg⟩:Hp).nx:=rfl
 rw[e0]
 clear e0
 generalize (⟨H.t,H.nx,lg⟩:Hp)=H at hu ⊢
 refine C1.body (E:=E2) (nt:=42) (res:=[.tmp 4]) Tryz.func111 rfl rfl rfl rfl rfl fun tm hargs=>?_
 have h0:=hargs 0 _ rfl
 have h1:=hargs 1 _ rfl
 clear hargs
 have hs:gN nm us n=(bz us n,0):=by unfold gN;rw[if_neg (fun h=>h hck),if_pos ⟨hn0,hn⟩]
 obtain ⟨hul,_,hf⟩:=fT hck
 obtain ⟨x0,l0,hx0,_⟩:=hY hck
 have hu1:1≤us.length:=by rw[hx0,List.length_cons];omega
 have hcl:=eW us n
 generalize bz us n=cs at hs hcl ⊢
 generalize hw:wrN us cs=r0
 have fin:∀ (c:AC) (A:ab) (H3:Hp),slot A.tm 4=.one c→A.dfr=[]→Gr H H3→aD H3 c r0→(∀ id∈(AV.one c).ids,H.nx≤id)→∃ w H4,ao E2 [.tmp 4] (.ret,A,H3)=.ok [(w,H4)]∧Gr H H4∧∀ lg':List Nat,∃ c,w=.one c∧aD ⟨H4.t,H4.nx,lg'⟩ c r0∧∀ id∈(AV.one c).ids,H.nx≤id:=fun c A H3 h1 hd hg h2 h3=>⟨_,H3,ak c (.inr rfl) hd h1,hg,fun _=>⟨c,rfl,h2,h3⟩⟩
 obtain ⟨z,hz,hzl⟩:=Bh
 replace hz:Hd _:=hz
 replace hzl:Hd _:=hzl
 replace hw:Hd _:=hw
 replace hck:Hd _:=hck
 clear hx0 hf
 refine zG tyF fun K hK=>?_
 refine hK.out _ _ ?_
 refine R1.gen (fun A1 H1=>Gr H H1∧H.nx<H1.nx∧H1.get H.nx=some (.arr [.o (.str nm),u] 97 0 0)∧slot A1.tm 1=.one (.i .i64 (n:Int))∧slot A1.tm 2=.one ((.o (.ptr H.nx 0 0 2)))∧A1.nt=42∧A1.dfr=[]) ⟨(Fr.refl _).new _,Nat.lt_succ_self _,an rfl,zL⟩ ?_
 rintro A1 H1 ⟨g1,m1,rx,t1,t2,hnt,hdf⟩
 clear h0 h1 tm hK K
 obtain ⟨N,hN⟩:∃ N,N=H.nx:=⟨_,rfl⟩
 rw[←hN] at m1 rx t2
 clear hN
 have hu:=hu.gr g1
 refine zG (qA tyF QJ) fun K hK=>?_
 refine WE.con (Ix H1 nm u us n hu) fun w H2 g2 ⟨c,hq,hc,hci⟩=>?_
 rw[hs] at hq hc
 have hc:SlI H2 c cs:=hc
 subst hq
 clear hs hci
 have rx:=(g2.get _ m1 not_false).trans rx
 have m1:=Nat.lt_of_lt_of_le m1 g2.nx
 have hu:=hu.gr g2
 have g2:=g1.gr g2
 clear g1
 have l1:=hc.len
 have hw0:IntKind.i64.wrap ((cs.length:Int) - 1)=(cs.length:Int) - 1:=aX (by omega) (by omega)
 have lc:=hc.lt
 replace hcl:Hd (cs.length=us.length):=hcl
 refine zK tyF ?_
 refine R1.cq fun K k1 k2 k3 k4=>?_
 refine R1.loop (fun m A H5=>∃ (i:Nat) (v:AC) (r:Option Nat),m=i∧i≤us.length∧Gr H2 H5∧dO H5 v 181 3 (wrN (us.drop i) (cs.drop i)).length ((wrN (us.drop i) (cs.drop i)).flatMap gpC) r∧(∀ q,r=some q→H2.nx≤q)∧slot A.tm 2=.one ((.o (.ptr N 0 0 2)))∧slot A.tm 5=.one (c)∧slot A.tm 7=.one (v)∧slot A.tm 8=.one (.i .i64 (((i:Int) - 1):Int))∧A.nt=42∧A.dfr=[]) ?_ us.length
  ⟨us.length,.o .nilS,none,rfl,Nat.le_refl _,Fr.refl _,by rw[List.drop_length];exact .inl ⟨rfl,rfl,rfl,rfl⟩,fun q hq=>(by cases hq),by rw[←hcl.out];exact zL⟩
 clear t1 t2 hnt hdf A1 hw0 k3 l1
 rintro m A H5 ⟨i,v,r,hmi,hi,g5,hown,hrow,t2,t5,t7,t8,hnt,hdf⟩
 have rx5:=(g5.get _ m1 not_false).trans rx
 have m5:=Nat.lt_of_lt_of_le m1 g5.nx
 refine zW tyF ?_
 refine zI tyF (fun hq=>?_) (fun hq=>?_)
 ·obtain ⟨j,rfl⟩:∃ j,i=j+1:=⟨i - 1,by omega⟩
  have hlt:j<us.length:=by omega
  have hltc:j<cs.length:=by rw[hcl.out];omega
  have ew:cs[j]?=some cs[j]:=List.getElem?_eq_getElem hltc
  have ex:us[j]?=some us[j]:=List.getElem?_eq_getElem hlt
  have hst:=Od ex ew
  generalize cs[j]=w at ew hst
  generalize us[j]=x at ex hst
  obtain ⟨id,g,off,cells,rfl,hid,hgr,hat⟩:=(hc.gr g5).open (by omega)
  obtain ⟨y1,y2⟩:=hat j w ew
  rw[Nat.mul_one] at y1 y2
  obtain ⟨id2,gg2,off2,cells2,rfl,hid2,hgr2,hat2⟩:=(hu.gr g5).open (by omega)
  have hx:=hat2 j x ex
  have x1:=hx.fst
  have x2:=hx.le1
  have ej:(((j+1:Nat):Int) - 1)=(j:Int):=by omega
  have ej2:IntKind.i64.wrap ((j:Int) - 1)=(j:Int) - 1:=aX (by omega) (by omega)
  have hln:=tc (us.drop (j+1)) (cs.drop (j+1))
  rw[List.length_drop] at hln
  rw[ej] at t8
  clear hat hat2 hx hq ex ew
  replace hst:Hd _:=hst
  refine zW tyF ?_
  refine R1.cq fun K2 q1 q2 q3 q4=>?_
  by_cases hp:0<w
  ·have hst:=hst.out
   rw[if_pos hp] at hst
   obtain ⟨hlt5,v6,H6,r6,happ,ho6,hf6,hr6⟩:=eP cd tx hz.out hzl.out (by decide) hown [.i .i64 w,.o (.str x.1),.b false] rfl (by omega)
   have g6:Gr H2 H6:=g5.then hf6 fun q hq=>.inl (hrow q hq)
   have hown6:dO H6 v6 181 3 (wrN (us.drop j) (cs.drop j)).length ((wrN (us.drop j) (cs.drop j)).flatMap gpC) (some r6):=by
    rw[hst,List.length_append,List.flatMap_append];exact ho6
   have hrow6:∀ q,some r6=some q→H2.nx≤q:=fun q hq=>by
    cases hq
    rcases hr6 with e|e
    ·exact hrow _ e
    ·exact Nat.le_trans g5.nx e
   clear ho6 hf6 hr6 hst hown hrow
   replace hown6:Hd _:=hown6
   replace hrow6:Hd _:=hrow6
   refine zW (qA tyF (qA (ixC hltc) Nat.mul_one)) ?_
   refine zG (qA tyF (qA (ixC hltc) (qA (ixC hlt) (qA Nat.mul_one (qA gS happ))))) fun K3 hK3=>?_
   refine ⟨hlt5,?_⟩
   refine zK tyF ?_
   refine q1.out _ _ ?_
   refine zW tyF ?_
   exact ⟨j,by omega,j,v6,some r6,rfl,by omega,g6,hown6.out,hrow6.out,zL⟩
  ·have hst:=hst.out
   rw[if_neg hp,List.append_nil] at hst
   rw[←hst] at hown
   clear hst
   refine zW (qA tyF (qA (ixC hltc) Nat.mul_one)) ?_
   refine q1.out _ _ ?_
   refine zW tyF ?_
   exact ⟨j,by omega,j,v,r,rfl,by omega,g5,hown,hrow,zL⟩
 ·have hie:i=0:=by omega
  subst hie
  rw[List.drop_zero,List.drop_zero,hw.out] at hown
  have lv:=hown.lt
  refine zW tyF ?_
  refine k2.out _ _ ?_
  refine zW tyF ?_
  exact fin v _ _ qp qe (g2.gr g5) hown.slc fun id hid=>by
   have:=hrow id (vC hown id hid)
   have:=g2.nx
   omega
theorem wq (H:Hp) (nm:List UInt8) (u:AC) (us:List Pr) (n:Int) (hu:SlP H u us) (hck:aP nm us=0) (hn0:0≤n) (hn:n≤1099511627776):
  Con E2 112 [.agg [.o (.str nm),u],.one (.i .i64 n)] H (fun _=>False) fun r H'=>∃ c,r=.tup [(false,[c]),(false,[.b (!fP (bz us n))])]∧aD H' c (if fP (bz us n)=true then [] else wrN us (bz us n))∧∀ id∈(AV.one c).ids,H.nx≤id:=by
 refine Con.of rfl fun lg=>?_
 have hu:SlP ⟨H.t,H.nx,lg⟩ u us:=hu
 have e0:H.nx=(⟨H.t,H.nx,lg⟩:Hp).nx:=rfl
 rw[e0]
 clear e0
 generalize (⟨H.t,H.nx,lg⟩:Hp)=H at hu ⊢
 refine C1.body (E:=E2) (nt:=48) (res:=[.tmp 4,.tmp 5]) Tryz.func112 rfl rfl rfl rfl rfl fun tm hargs=>?_
 have h0:=hargs 0 _ rfl
 have h1:=hargs 1 _ rfl
 clear hargs
 have hs:gN nm us n=(bz us n,0):=by unfold gN;rw[if_neg (fun h=>h hck),if_pos ⟨hn0,hn⟩]
 obtain ⟨hul,_,hf⟩:=fT hck
 obtain ⟨x0,l0,hx0,_⟩:=hY hck
 have hu1:1≤us.length:=by rw[hx0,List.length_cons];omega
 have hcl:=eW us n
 generalize bz us n=cs at hs hcl ⊢
 have fin:∀ (c:AC) (b:Bool) (A:ab) (H3:Hp),slot A.tm 4=.one c→slot A.tm 5=.one (.b b)→A.dfr=[]→Gr H H3→(b=!fP cs)→aD H3 c (if fP cs=true then [] else wrN us cs)→(∀ id∈(AV.one c).ids,H.nx≤id)→∃ w H4,ao E2 [.tmp 4,.tmp 5] (.ret,A,H3)=.ok [(w,H4)]∧Gr H H4∧∀ lg':List Nat,∃ c,w=.tup [(false,[c]),(false,[.b (!fP cs)])]∧aD ⟨H4.t,H4.nx,lg'⟩ c (if fP cs=true then [] else wrN us cs)∧∀ id∈(AV.one c).ids,H.nx≤id:=fun c b A H3 h1 h2 hd hg hb h3 h4=>⟨_,H3,aZ c (.b b) (.inr rfl) hd h1 h2,hg,fun _=>⟨c,by rw[hb],h3,h4⟩⟩
 obtain ⟨z,hz,hzl⟩:=Bh
 replace hz:Hd _:=hz
 replace hzl:Hd _:=hzl
 replace hck:Hd _:=hck
 clear hx0 hf
 refine zG tyF fun K hK=>?_
 refine hK.out _ _ ?_
 refine R1.gen (fun A1 H1=>Gr H H1∧H.nx<H1.nx∧H1.get H.nx=some (.arr [.o (.str nm),u] 97 0 0)∧slot A1.tm 1=.one (.i .i64 (n:Int))∧slot A1.tm 2=.one ((.o (.ptr H.nx 0 0 2)))∧A1.nt=48∧A1.dfr=[]) ⟨(Fr.refl _).new _,Nat.lt_succ_self _,an rfl,zL⟩ ?_
 rintro A1 H1 ⟨g1,m1,rx,t1,t2,hnt,hdf⟩
 clear h0 h1 tm hK K
 obtain ⟨N,hN⟩:∃ N,N=H.nx:=⟨_,rfl⟩
 rw[←hN] at m1 rx t2
 clear hN
 have hu:=hu.gr g1
 refine zG (qA tyF MZ) fun K hK=>?_
 refine WE.con (HY H1 nm u us n hu) fun w H2 g2 ⟨c,hq,hc⟩=>?_
 rw[hs] at hq hc
 have hc:SlI H2 c cs:=hc
 subst hq
 clear hs
 have rx:=(g2.get _ m1 not_false).trans rx
 have m1:=Nat.lt_of_lt_of_le m1 g2.nx
 have hu:=hu.gr g2
 have g2:=g1.gr g2
 clear g1
 have l1:=hc.len
 have hw0:IntKind.i64.wrap ((cs.length:Int) - 1)=(cs.length:Int) - 1:=aX (by omega) (by omega)
 have lc:=hc.lt
 replace hcl:Hd (cs.length=us.length):=hcl
 refine zK tyF ?_
 refine R1.cq fun K k1 k2 k3 k4=>?_
 refine R1.loop (fun m A H5=>∃ (i:Nat) (v:AC) (r:Option Nat),m=i∧i≤us.length∧Gr H2 H5∧Hd (fP (cs.drop i)=false)∧dO H5 v 181 3 (wrN (us.drop i) (cs.drop i)).length ((wrN (us.drop i) (cs.drop i)).flatMap gpC) r∧(∀ q,r=some q→H2.nx≤q)∧slot A.tm 2=.one ((.o (.ptr N 0 0 2)))∧slot A.tm 6=.one (c)∧slot A.tm 8=.one (v)∧slot A.tm 9=.one (.i .i64 (((i:Int) - 1):Int))∧A.nt=48∧A.dfr=[]) ?_ us.length
  ⟨us.length,.o .nilS,none,rfl,Nat.le_refl _,Fr.refl _,by rw[←hcl.out,List.drop_length];rfl,by rw[List.drop_length];exact .inl ⟨rfl,rfl,rfl,rfl⟩,fun q hq=>(by cases hq),by rw[←hcl.out];exact zL⟩
 clear t1 t2 hnt hdf A1 hw0 k3 l1
 rintro m A H5 ⟨i,v,r,hmi,hi,g5,hmany,hown,hrow,t2,t6,t8,t9,hnt,hdf⟩
 have rx5:=(g5.get _ m1 not_false).trans rx
 have m5:=Nat.lt_of_lt_of_le m1 g5.nx
 refine zW tyF ?_
 refine zI tyF (fun hq=>?_) (fun hq=>?_)
 ·obtain ⟨j,rfl⟩:∃ j,i=j+1:=⟨i - 1,by omega⟩
  have hlt:j<us.length:=by omega
  have hltc:j<cs.length:=by rw[hcl.out];omega
  have ew:cs[j]?=some cs[j]:=List.getElem?_eq_getElem hltc
  have ex:us[j]?=some us[j]:=List.getElem?_eq_getElem hlt
  have hst:=Od ex ew
  have hmd:fP (cs.drop j)=(decide (99<cs[j])||fP (cs.drop (j+1))):=by
   rw[List.drop_eq_getElem_cons hltc];rfl
  have hmem:cs[j]∈cs:=List.getElem_mem hltc
  rw[hmany.out,Bool.or_false] at hmd
  generalize cs[j]=w at ew hst hmd hmem
  generalize us[j]=x at ex hst
  obtain ⟨id,g,off,cells,rfl,hid,hgr,hat⟩:=(hc.gr g5).open (by omega)
  obtain ⟨y1,y2⟩:=hat j w ew
  rw[Nat.mul_one] at y1 y2
  obtain ⟨id2,gg2,off2,cells2,rfl,hid2,hgr2,hat2⟩:=(hu.gr g5).open (by omega)
  have hx:=hat2 j x ex
  have x1:=hx.fst
  have x2:=hx.le1
  have ej:(((j+1:Nat):Int) - 1)=(j:Int):=by omega
  have ej2:IntKind.i64.wrap ((j:Int) - 1)=(j:Int) - 1:=aX (by omega) (by omega)
  have hln:=tc (us.drop (j+1)) (cs.drop (j+1))
  rw[List.length_drop] at hln
  rw[ej] at t9
  clear hat hat2 hx hq ex ew hmany
  replace hst:Hd _:=hst
  replace hmd:Hd _:=hmd
  replace hmem:Hd _:=hmem
  refine zW tyF ?_
  refine R1.cq fun K2 q1 q2 q3 q4=>?_
  by_cases h99:99<w
  ·have hm1:fP cs=true:=List.any_eq_true.2 ⟨w,hmem.out,decide_eq_true h99⟩
   replace hm1:Hd _:=hm1
   refine zW (qA tyF (qA (ixC hltc) Nat.mul_one)) ?_
   exact q4.out _ _ (k4.out _ _ (fin (.o .nilS) false _ _ qp qp qe (g2.gr g5) (by rw[hm1.out];rfl) (by rw[if_pos hm1.out];exact aD.nil) (fun id h=>by cases h)))
  have hmj:fP (cs.drop j)=false:=by rw[hmd.out];exact decide_eq_false h99
  replace hmj:Hd _:=hmj
  by_cases hp:0<w
  ·have hst:=hst.out
   rw[if_pos hp] at hst
   obtain ⟨hlt5,v6,H6,r6,happ,ho6,hf6,hr6⟩:=eP cd tx hz.out hzl.out (by decide) hown [.i .i64 w,.o (.str x.1),.b false] rfl (by omega)
   have g6:Gr H2 H6:=g5.then hf6 fun q hq=>.inl (hrow q hq)
   have hown6:dO H6 v6 181 3 (wrN (us.drop j) (cs.drop j)).length ((wrN (us.drop j) (cs.drop j)).flatMap gpC) (some r6):=by
    rw[hst,List.length_append,List.flatMap_append];exact ho6
   have hrow6:∀ q,some r6=some q→H2.nx≤q:=fun q hq=>by
    cases hq
    rcases hr6 with e|e
    ·exact hrow _ e
    ·exact Nat.le_trans g5.nx e
   clear ho6 hf6 hr6 hst hown hrow
   replace hown6:Hd _:=hown6
   replace hrow6:Hd _:=hrow6
   refine zW (qA tyF (qA (ixC hltc) Nat.mul_one)) ?_
   refine zG (qA tyF (qA (ixC hltc) (qA (ixC hlt) (qA Nat.mul_one (qA gS happ))))) fun K3 hK3=>?_
   refine ⟨hlt5,?_⟩
   refine zK tyF ?_
   refine q1.out _ _ ?_
   refine zW tyF ?_
   exact ⟨j,by omega,j,v6,some r6,rfl,by omega,g6,hmj,hown6.out,hrow6.out,zL⟩
  ·have hst:=hst.out
   rw[if_neg hp,List.append_nil] at hst
   rw[←hst] at hown
   clear hst
   refine zW (qA tyF (qA (ixC hltc) Nat.mul_one)) ?_
   refine q1.out _ _ ?_
   refine zW tyF ?_
   exact ⟨j,by omega,j,v,r,rfl,by omega,g5,hmj,hown,hrow,zL⟩
 ·have hie:i=0:=by omega
  subst hie
  rw[List.drop_zero,List.drop_zero] at hown
  have hm0:fP cs=false:=by have:=hmany.out;rwa [List.drop_zero] at this
  have lv:=hown.lt
  replace hm0:Hd _:=hm0
  refine zW tyF ?_
  refine k2.out _ _ ?_
  refine zW tyF ?_
  exact fin v true _ _ qp qp qe (g2.gr g5) (by rw[hm0.out];rfl) (by rw[if_neg (by rw[hm0.out];decide)];exact hown.slc) fun id hid=>by
   have:=hrow id (vC hown id hid)
   have:=g2.nx
   omega
end Go.Proofs.YtnhbkodnmkojpaaGreat
namespace Go.Proofs.YtnhbkodnmkojpaaGreat
open Go Go.Eng
theorem Qj:al Tryz.prog 57=true:=by kernel_rfl
theorem Nl:al Tryz.prog 60=true:=by kernel_rfl
theorem ix0 {len:Nat} (h:0<len):∀ (H:Hp) (id g off sz:Nat),bR H sz (.one (.o (.sl id g off len sz))) (.one (.i .i64 0))=.val (.one (.o (.ptr id g off sz))) H:=fun H id g off sz=>by
 have:=nv (H:=H) (id:=id) (g:=g) (off:=off) (sz:=sz) (Int.le_refl 0) (by omega:(0:Int)<len)
 rw[this,Int.toNat_zero,Nat.zero_mul,Nat.add_zero]
noncomputable def wa (nm:List UInt8) (us:List Pr) (n:Int):Int:=if aP nm us≠0 then aP nm us else if 1≤n∧n≤1099511627776 then 0 else 8
theorem HP (H:Hp) (nm:List UInt8) (u:AC) (us:List Pr) (n:Int) (hu:SlP H u us):
  Con E2 110 [.agg [.o (.str nm),u],.one (.i .i64 n)] H (fun _=>False) fun r _=>r=.one (.i .i64 (wa nm us n)):=by
 refine Con.of rfl fun lg=>?_
 have hu:SlP ⟨H.t,H.nx,lg⟩ u us:=hu
 generalize (⟨H.t,H.nx,lg⟩:Hp)=H at hu ⊢
 refine C1.body (E:=E2) (nt:=17) (res:=[.tmp 4]) Tryz.func110 rfl rfl rfl rfl rfl fun tm hargs=>?_
 have h0:=hargs 0 _ rfl
 have h1:=hargs 1 _ rfl
 clear hargs
 have fin:∀ (e:Int) (A:ab) (H3:Hp),slot A.tm 4=.one (.i .i64 e)→A.dfr=[]→Gr H H3→e=wa nm us n→∃ w H4,ao E2 [.tmp 4] (.ret,A,H3)=.ok [(w,H4)]∧Gr H H4∧∀ _:List Nat,w=.one (.i .i64 (wa nm us n)):=fun e A H3 h1 h2 h3 h4=>⟨_,H3,ak (.i .i64 e) (.inr rfl) h2 h1,h3,fun _=>by rw[h4]⟩
 generalize hr0:wa nm us n=r0 at fin
 refine zG tyF fun K hK=>?_
 refine hK.out _ _ ?_
 refine R1.gen (fun A1 H1=>Gr H H1∧H.nx<H1.nx∧H1.get H.nx=some (.arr [.o (.str nm),u] 97 0 0)∧slot A1.tm 1=.one (.i .i64 (n:Int))∧slot A1.tm 2=.one ((.o (.ptr H.nx 0 0 2)))∧A1.nt=17∧A1.dfr=[]) ⟨(Fr.refl _).new _,Nat.lt_succ_self _,an rfl,zL⟩ ?_
 rintro A1 H1 ⟨g1,m1,rx,t1,t2,hnt,hdf⟩
 clear h0 h1 tm hK K
 have hu:=hu.gr g1
 refine zG (qA tyF mu) fun K hK=>?_
 refine WE.con (jF H1 nm u us hu) fun w H2 g2 hq=>?_
 subst hq
 have g2:=g1.gr g2
 unfold wa at hr0
 generalize aP nm us=e0 at hr0
 by_cases he0:e0=0
 case neg=>
  have ce:(e0==0)=false:=beq_false_of_ne he0
  refine zK tyF ?_
  exact fin (e0) _ _ qp qe (g2) ((by rw[if_pos he0] at hr0;exact hr0))
 rw[if_neg (fun h=>h he0)] at hr0
 have ce:(e0==0)=true:=by rw[he0];rfl
 replace he0:Hd (e0=0):=he0
 by_cases c0:n<1
 ·refine zK tyF ?_
  exact fin (8) _ _ qp qe (g2) ((by rw[if_neg (fun h=>absurd h.1 (by omega))] at hr0;exact hr0))
 by_cases c1:1099511627776<n
 ·refine zK tyF ?_
  exact fin (8) _ _ qp qe (g2) ((by rw[if_neg (fun h=>absurd h.2 (by omega))] at hr0;exact hr0))
 rw[if_pos ⟨by omega,by omega⟩] at hr0
 replace hr0:Hd _:=hr0
 refine zK tyF ?_
 exact fin (0) _ _ qp qe (g2) (hr0.out)
theorem ME (H:Hp) (nm:List UInt8) (u:AC) (us:List Pr) (n:Int) (hu:SlP H u us):
  Con E2 57 [.agg [.o (.str nm),u],.one (.i .i64 n)] H (fun _=>False) fun r H'=>∃ a,r=.tup [(true,[a,.o .nilS]),(false,[.i .i64 (kJ nm us n).2])]∧aD H' a (kJ nm us n).1∧∀ id∈(AV.one a).ids,H.nx≤id:=by
 refine Con.of rfl fun lg=>?_
 have hu:SlP ⟨H.t,H.nx,lg⟩ u us:=hu
 have e0:H.nx=(⟨H.t,H.nx,lg⟩:Hp).nx:=rfl
 rw[e0]
 clear e0
 generalize (⟨H.t,H.nx,lg⟩:Hp)=H at hu ⊢
 refine C1.body (E:=E2) (nt:=26) (res:=[.cell 4 66,.tmp 5]) Tryz.func57 rfl rfl rfl rfl rfl fun tm hargs=>?_
 have h0:=hargs 0 _ rfl
 have h1:=hargs 1 _ rfl
 clear hargs
 generalize hr0:kJ nm us n=r0
 have fin:∀ (a:AC) (e:Int) (A:ab) (H9:Hp) (M:Nat),slot A.tm 4=.one (.o (.ptr M 0 0 2))→slot A.tm 5=.one (.i .i64 e)→closeAll H9 A.dfr=some H9→H9.get M=some (.arr [a,.o .nilS] 66 0 0)→Gr H H9→aD H9 a r0.1→e=r0.2→(∀ id∈(AV.one a).ids,H.nx≤id) →
   ∃ w H4,ao E2 [.cell 4 66,.tmp 5] (.ret,A,H9)=.ok [(w,H4)]∧Gr H H4∧∀ lg:List Nat,∃ a,w=.tup [(true,[a,.o .nilS]),(false,[.i .i64 r0.2])]∧aD ⟨H4.t,H4.nx,lg⟩ a r0.1∧∀ id∈(AV.one a).ids,H.nx≤id:=fun a e A H9 M s4 s5 hd r1 hgr h1 he h2=>
  ⟨_,H9,cE (.inr rfl) hd (fw iI s4 (by rw[r1];exact qq) (Nat.le_refl _) rfl (kS s5 lL)),hgr,fun lg=>⟨a,by rw[←he];rfl,h1,h2⟩⟩
 refine zG tyF fun K hK=>?_
 refine hK.out _ _ ?_
 refine R1.gen (fun A1 H1=>Gr H H1∧H.nx+1<H1.nx∧H1.get H.nx=some (.arr [.o (.str nm),u] 97 0 0)∧H1.get (H.nx+1)=some (.arr [.o .nilS,.o .nilS] 66 0 0)∧slot A1.tm 1=.one (.i .i64 (n:Int))∧slot A1.tm 2=.one ((.o (.ptr H.nx 0 0 2)))∧slot A1.tm 4=.one ((.o (.ptr (H.nx+1) 0 0 2)))∧A1.nt=26∧A1.dfr=[])
  ⟨((Fr.refl _).new _).new _,by show H.nx+1<H.nx+1+1;omega,by rw[aN (by show H.nx<H.nx+1;omega)];exact an rfl,an rfl,zL⟩ ?_
 rintro A1 H1 ⟨g1,m1,rx,ry,t1,t2,t4,hnt,hdf⟩
 clear h0 h1 tm hK K
 obtain ⟨N,hN⟩:∃ N,N=H.nx:=⟨_,rfl⟩
 rw[←hN] at m1 rx ry t2 t4
 have hNl:H.nx≤N:=Nat.le_of_eq hN.symm
 have n0:N<H1.nx:=by omega
 replace hN:Hd _:=hN
 have hu:=hu.gr g1
 refine zG (qA tyF Mz) fun K hK=>?_
 refine WE.con (HP H1 nm u us n hu) fun w H2 g2 hq=>?_
 subst hq
 have rx:=(g2.get _ n0 not_false).trans rx
 have n0:=Nat.lt_of_lt_of_le n0 g2.nx
 have ry:=(g2.get _ m1 not_false).trans ry
 have m1:=Nat.lt_of_lt_of_le m1 g2.nx
 have hu:=hu.gr g2
 have g2:=g1.gr g2
 clear g1
 by_cases hck:aP nm us=0
 case neg=>
  have he:wa nm us n=aP nm us:=if_pos hck
  have ce:(aP nm us==0)=false:=beq_false_of_ne hck
  have hr1:([],aP nm us)=r0:=by rw[←hr0];exact (if_pos hck).symm
  replace hr1:Hd _:=hr1
  rw[he]
  clear he hr0 hck
  refine zK tyF ?_
  exact fin (.o .nilS) (aP nm us) _ _ (N+1) (by simp only[aa,Nat.reduceEqDiff,reduceIte,t4]) qp (by simp only[ag,hdf];rfl) (ai rfl) (g2.mod _ (.inl (by omega))) (by rw[←hr1.out];exact aD.nil) (by rw[←hr1.out]) (fun id h=>by cases h)
 by_cases hn:1≤n∧n≤1099511627776
 case neg=>
  have he:wa nm us n=8:=by unfold wa;rw[if_neg (fun h=>h hck),if_neg hn]
  have hr1:(([]:List Gp),(8:Int))=r0:=by rw[←hr0];unfold kJ;rw[if_neg (fun h=>h hck),if_neg hn]
  replace hr1:Hd _:=hr1
  rw[he]
  clear he hr0 hck hn
  refine zK tyF ?_
  exact fin (.o .nilS) 8 _ _ (N+1) (by simp only[aa,Nat.reduceEqDiff,reduceIte,t4]) qp (by simp only[ag,hdf];rfl) (ai rfl) (g2.mod _ (.inl (by omega))) (by rw[←hr1.out];exact aD.nil) (by rw[←hr1.out]) (fun id h=>by cases h)
 have he:wa nm us n=0:=by unfold wa;rw[if_neg (fun h=>h hck),if_pos hn]
 obtain ⟨gg,gl,hg1,hg2⟩:=RO hck hn.1
 unfold kJ at hr0
 rw[if_neg (fun h=>h hck),if_pos hn,hg1] at hr0
 rw[he]
 clear he
 refine zK tyF ?_
 refine zG (qA tyF Iz) fun K hK=>?_
 refine WE.con (Dj H2 nm u us n hu hck (by omega) hn.2) fun w H3 g3 ⟨c,hq,hc,hci⟩=>?_
 subst hq
 rw[hg1] at hc
 have rx:=(g3.get _ n0 not_false).trans rx
 have n0:=Nat.lt_of_lt_of_le n0 g3.nx
 have ry:=(g3.get _ m1 not_false).trans ry
 have m1:=Nat.lt_of_lt_of_le m1 g3.nx
 have g23:=g2.nx
 have g3:=g2.gr g3
 clear g2 hck hg1 hn
 obtain ⟨id,g,off,cells,rfl,hid,hgr,hat⟩:=hc.open (by rw[List.length_cons];omega)
 have hx:=hat 0 gg rfl
 rw[Nat.zero_mul,Nat.add_zero] at hx
 have x1:=hx.f1
 have x2:=hx.le1
 have hlen:0<(gg::gl).length:=by rw[List.length_cons];omega
 clear hat hx
 replace hr0:Hd _:=hr0
 replace hci:Hd _:=hci
 replace hg2:Hd _:=hg2
 by_cases h99:99<gg.1
 ·have hr1:(([]:List Gp),(21:Int))=r0:=by rw[←hr0.out,if_pos (by rw[←hg2.out];exact decide_eq_true h99)]
  replace hr1:Hd _:=hr1
  clear hr0 hg2
  refine zK tyF ?_
  refine zW (qA tyF (ix0 hlen)) ?_
  exact fin (.o .nilS) 21 _ _ (N+1) (by simp only[aa,Nat.reduceEqDiff,reduceIte,t4]) qp (by simp only[ag,hdf];rfl) (ai rfl) (g3.mod _ (.inl (by omega))) (by rw[←hr1.out];exact aD.nil) (by rw[←hr1.out]) (fun id h=>by cases h)
 ·have hr1:(gg::gl,(0:Int))=r0:=by rw[←hr0.out,if_neg (by rw[←hg2.out];simpa using h99)]
  replace hr1:Hd _:=hr1
  have hidN:N+1≠id:=fun e=>by
   have:=hci.out id (List.mem_singleton.2 rfl)
   omega
  clear hr0 hg2
  refine zK tyF ?_
  refine zW (qA tyF (ix0 hlen)) ?_
  exact fin (.o (.sl id g off (gg::gl).length 3)) 0 _ _ (N+1) (by simp only[aa,Nat.reduceEqDiff,reduceIte,t4]) qp (by simp only[ag,hdf];rfl) (ai rfl) (g3.mod _ (.inl (by omega))) (by rw[←hr1.out];exact SlC.fr hc ((Fr.refl _).mod _ (.inr rfl):Fr (fun i=>i=N+1) _ _) (fun i hi e=>by rw[List.mem_singleton.1 hi] at e;exact hidN e.symm)) (by rw[←hr1.out]) (fun i hi=>by have:=hci.out i hi;omega)
theorem HX (H:Hp) (nm:List UInt8) (u:AC) (us:List Pr) (n:Int) (hu:SlP H u us):
  Con E2 60 [.agg [.o (.str nm),u],.one (.i .i64 n)] H (fun _=>False) fun r H'=>∃ a,r=.tup [(true,[a,.o .nilS]),(false,[.i .i64 (kJ nm us n).2])]∧aD H' a (kJ nm us n).1∧∀ id∈(AV.one a).ids,H.nx≤id:=by
 refine Con.of rfl fun lg=>?_
 have hu:SlP ⟨H.t,H.nx,lg⟩ u us:=hu
 have e0:H.nx=(⟨H.t,H.nx,lg⟩:Hp).nx:=rfl
 rw[e0]
 clear e0
 generalize (⟨H.t,H.nx,lg⟩:Hp)=H at hu ⊢
 refine C1.body (E:=E2) (nt:=33) (res:=[.cell 4 66,.tmp 5]) Tryz.func60 rfl rfl rfl rfl rfl fun tm hargs=>?_
 have h0:=hargs 0 _ rfl
 have h1:=hargs 1 _ rfl
 clear hargs
 generalize hr0:kJ nm us n=r0
 have fin:∀ (a:AC) (e:Int) (A:ab) (H9:Hp) (M:Nat),slot A.tm 4=.one (.o (.ptr M 0 0 2))→slot A.tm 5=.one (.i .i64 e)→closeAll H9 A.dfr=some H9→H9.get M=some (.arr [a,.o .nilS] 66 0 0)→Gr H H9→aD H9 a r0.1→e=r0.2→(∀ id∈(AV.one a).ids,H.nx≤id) →
   ∃ w H4,ao E2 [.cell 4 66,.tmp 5] (.ret,A,H9)=.ok [(w,H4)]∧Gr H H4∧∀ lg:List Nat,∃ a,w=.tup [(true,[a,.o .nilS]),(false,[.i .i64 r0.2])]∧aD ⟨H4.t,H4.nx,lg⟩ a r0.1∧∀ id∈(AV.one a).ids,H.nx≤id:=fun a e A H9 M s4 s5 hd r1 hgr h1 he h2=>
  ⟨_,H9,cE (.inr rfl) hd (fw iI s4 (by rw[r1];exact qq) (Nat.le_refl _) rfl (kS s5 lL)),hgr,fun lg=>⟨a,by rw[←he];rfl,h1,h2⟩⟩
 refine zG tyF fun K hK=>?_
 refine hK.out _ _ ?_
 refine R1.gen (fun A1 H1=>Gr H H1∧H.nx+1<H1.nx∧H1.get H.nx=some (.arr [.o (.str nm),u] 97 0 0)∧H1.get (H.nx+1)=some (.arr [.o .nilS,.o .nilS] 66 0 0)∧slot A1.tm 1=.one (.i .i64 (n:Int))∧slot A1.tm 2=.one ((.o (.ptr H.nx 0 0 2)))∧slot A1.tm 4=.one ((.o (.ptr (H.nx+1) 0 0 2)))∧A1.nt=33∧A1.dfr=[])
  ⟨((Fr.refl _).new _).new _,by show H.nx+1<H.nx+1+1;omega,by rw[aN (by show H.nx<H.nx+1;omega)];exact an rfl,an rfl,zL⟩ ?_
 rintro A1 H1 ⟨g1,m1,rx,ry,t1,t2,t4,hnt,hdf⟩
 clear h0 h1 tm hK K
 obtain ⟨N,hN⟩:∃ N,N=H.nx:=⟨_,rfl⟩
 rw[←hN] at m1 rx ry t2 t4
 have hNl:H.nx≤N:=Nat.le_of_eq hN.symm
 have n0:N<H1.nx:=by omega
 replace hN:Hd _:=hN
 have hu:=hu.gr g1
 refine zG (qA tyF gF) fun K hK=>?_
 refine WE.con (fJ H1 nm u us hu) fun w H2 g2 hq=>?_
 subst hq
 have rx:=(g2.get _ n0 not_false).trans rx
 have n0:=Nat.lt_of_lt_of_le n0 g2.nx
 have ry:=(g2.get _ m1 not_false).trans ry
 have m1:=Nat.lt_of_lt_of_le m1 g2.nx
 have hu:=hu.gr g2
 have g2:=g1.gr g2
 clear g1
 by_cases hck:aP nm us=0
 case neg=>
  have ce:(aP nm us==0)=false:=beq_false_of_ne hck
  have hr1:([],aP nm us)=r0:=by rw[←hr0];exact (if_pos hck).symm
  replace hr1:Hd _:=hr1
  clear hr0 hck
  refine zK tyF ?_
  exact fin (.o .nilS) (aP nm us) _ _ (N+1) (by simp only[aa,Nat.reduceEqDiff,reduceIte,t4]) qp (by simp only[ag,hdf];rfl) (ai rfl) (g2.mod _ (.inl (by omega))) (by rw[←hr1.out];exact aD.nil) (by rw[←hr1.out]) (fun id h=>by cases h)
 have ce:(aP nm us==0)=true:=beq_iff_eq.2 hck
 unfold kJ at hr0
 rw[if_neg (fun h=>h hck)] at hr0
 replace hr0:Hd _:=hr0
 replace hck:Hd _:=hck
 by_cases c0:n<1
 ·have hr1:(([]:List Gp),(8:Int))=r0:=by rw[←hr0.out,if_neg (fun h=>absurd h.1 (by omega))]
  replace hr1:Hd _:=hr1
  clear hr0
  refine zK tyF ?_
  exact fin (.o .nilS) 8 _ _ (N+1) (by simp only[aa,Nat.reduceEqDiff,reduceIte,t4]) qp (by simp only[ag,hdf];rfl) (ai rfl) (g2.mod _ (.inl (by omega))) (by rw[←hr1.out];exact aD.nil) (by rw[←hr1.out]) (fun id h=>by cases h)
 by_cases c1:1099511627776<n
 ·have hr1:(([]:List Gp),(8:Int))=r0:=by rw[←hr0.out,if_neg (fun h=>absurd h.2 (by omega))]
  replace hr1:Hd _:=hr1
  clear hr0
  refine zK tyF ?_
  exact fin (.o .nilS) 8 _ _ (N+1) (by simp only[aa,Nat.reduceEqDiff,reduceIte,t4]) qp (by simp only[ag,hdf];rfl) (ai rfl) (g2.mod _ (.inl (by omega))) (by rw[←hr1.out];exact aD.nil) (by rw[←hr1.out]) (fun id h=>by cases h)
 have hr1:=hr0.out
 rw[if_pos ⟨by omega,by omega⟩] at hr1
 clear hr0
 replace hr1:Hd _:=hr1
 refine zK tyF ?_
 refine zG (qA tyF BD) fun K hK=>?_
 refine WE.con (wq H2 nm u us n hu hck.out (by omega) (by omega)) fun w H3 g3 ⟨c,hq,hc,hci⟩=>?_
 subst hq
 have rx:=(g3.get _ n0 not_false).trans rx
 have n0:=Nat.lt_of_lt_of_le n0 g3.nx
 have ry:=(g3.get _ m1 not_false).trans ry
 have m1:=Nat.lt_of_lt_of_le m1 g3.nx
 have hci3:∀ id∈(AV.one c).ids,H.nx≤id:=fun id hid=>by have:=hci id hid;have:=g2.nx;omega
 have hci2:∀ id∈(AV.one c).ids,¬id=N+1:=fun id hid e=>by have:=hci id hid;omega
 have g3:=g2.gr g3
 clear g2 hci
 replace hci2:Hd _:=hci2
 replace hci3:Hd _:=hci3
 generalize bz us n=cs at hr1 hc ⊢
 have lc:=hc.lt
 cases hm:fP cs with
 | true=>
  have hr2:=hr1.out
  rw[if_pos hm] at hr2
  replace hr2:Hd _:=hr2
  clear hr1 hm
  refine zK tyF ?_
  exact fin (.o .nilS) 21 _ _ (N+1) (by simp only[aa,Nat.reduceEqDiff,reduceIte,t4]) qp (by simp only[ag,hdf];rfl) (ai rfl) (g3.mod _ (.inl (by omega))) (by rw[←hr2.out];exact aD.nil) (by rw[←hr2.out]) (fun id h=>by cases h)
 | false=>
  have hr2:=hr1.out
  rw[if_neg (by rw[hm];decide)] at hr2 hc
  replace hr2:Hd _:=hr2
  clear hr1 hm
  refine zK tyF ?_
  exact fin c 0 _ _ (N+1) (by simp only[aa,Nat.reduceEqDiff,reduceIte,t4]) qp (by simp only[ag,hdf];rfl) (ai rfl) (g3.mod _ (.inl (by omega))) (by rw[←hr2.out];exact SlC.fr hc ((Fr.refl _).mod _ (.inr rfl):Fr (fun i=>i=N+1) _ _) hci2.out) (by rw[←hr2.out]) hci3.out
end Go.Proofs.YtnhbkodnmkojpaaGreat
namespace Go.Proofs.YtnhbkodnmkojpaaGreat
open Go Go.Eng
def Cs.amt (c:Cs) (y:Nm):Cs:=⟨c.face,c.col,c.line,c.kind,y,c.good,c.ws⟩
def eM (cs:List Cs) (i:Nat) (y:Nm):List Cs:=match cs[i]? with
 | some c=>cs.set i (c.amt y)
 | none=>cs
noncomputable def okV (o:Option (List Lad)) (x:Cl) (v:Int):Bool:=decide ((dA (aT o x.2.2.1).1 (aT o x.2.2.1).2 x.2.2.2).2=0)&&decide ((dA (aT o x.2.2.1).1 (aT o x.2.2.1).2 x.2.2.2).1=v)
noncomputable def lj (o:Option (List Lad)):List Cl→List Int→List Cs→List Cs×Int
 | x::l,v::vs,cs=>if okV o x v=true then lj o l vs cs else if (kJ (aT o x.2.2.1).1 (aT o x.2.2.1).2 v).2≠0 then ([],(kJ (aT o x.2.2.1).1 (aT o x.2.2.1).2 v).2) else lj o l vs (eM cs x.1.toNat ((kJ (aT o x.2.2.1).1 (aT o x.2.2.1).2 v).1,[]))
 | _,_,cs=>(cs,0)
noncomputable def lf (o:Option (List Lad)) (gs:List Gd) (t:Tb) (v:List Int):Tb×Int:=
 if gV o gs t≠0 then (([],[]),gV o gs t) else if nW (iO o gs t).1 v=false then (([],[]),54) else
 if (lj o (iO o gs t).1 v t.2).2≠0 then (([],[]),(lj o (iO o gs t).1 v t.2).2) else ((t.1,(lj o (iO o gs t).1 v t.2).1),0)
theorem jX (cs:List Cs) (i:Nat) (y:Nm):(eM cs i y).length=cs.length:=by
 unfold eM
 split
 ·rw[List.length_set]
 ·rfl
theorem Ni {cs:List Cs} {i:Nat} {c:Cs} (h:cs[i]?=some c) (y:Nm):eM cs i y=cs.set i (c.amt y):=by
 unfold eM
 rw[h]
theorem EK {sz:Nat}:∀ (i:Nat) (css:List (List AC)) (c c':List AC) (a b:Nat) (m:List AC),(∀ d∈css,d.length=sz)→css[i]?=some c→c'=c.take a++m++c.drop (a+m.length)→a+m.length≤sz →
  (css.set i c').flatMap id=(css.flatMap id).take (i*sz+a)++m++(css.flatMap id).drop (i*sz+a+m.length)
 | _,[],_,_,_,_,_,_,h,_,_=>by cases h
 | 0,d::css,c,c',a,_,m,hl,h,hc,ha=>by
  cases h
  have hd:=hl d (List.mem_cons_self ..)
  rw[List.set_cons_zero,List.flatMap_cons,List.flatMap_cons,hc,Nat.zero_mul,Nat.zero_add]
  show d.take a++m++d.drop (a+m.length)++css.flatMap id=(d++css.flatMap id).take a++m++(d++css.flatMap id).drop (a+m.length)
  rw[List.take_append_of_le_length (by omega),List.drop_append_of_le_length (by omega),List.append_assoc,List.append_assoc]
 | i+1,d::css,c,c',a,b,m,hl,h,hc,ha=>by
  have hd:=hl d (List.mem_cons_self ..)
  have ih:=EK i css c c' a b m (fun d h=>hl d (List.mem_cons_of_mem _ h)) (by simpa using h) hc ha
  rw[List.set_cons_succ,List.flatMap_cons,List.flatMap_cons,ih]
  show d++_=(d++css.flatMap id).take ((i+1)*sz+a)++m++(d++css.flatMap id).drop ((i+1)*sz+a+m.length)
  have e1:(i+1)*sz+a=d.length+(i*sz+a):=by rw[hd,Nat.succ_mul];omega
  have e2:(i+1)*sz+a+m.length=d.length+(i*sz+a+m.length):=by rw[hd,Nat.succ_mul];omega
  rw[e2,e1,List.take_length_add_append,List.drop_length_add_append]
  simp only[List.append_assoc]
theorem Al.setAt {α β:Type} {R R':β→α→Prop}:∀ (i:Nat) {cs:List β} {xs:List α} {c':β} {x':α},Al R cs xs→(∀ c x,R c x→R' c x)→R' c' x'→Al R' (cs.set i c') (xs.set i x')
 | _,[],[],_,_,_,_,_=>trivial
 | 0,_::_,_::_,_,_,h,h1,h2=>⟨h2,h.2.mono h1⟩
 | i+1,_::_,_::_,_,_,h,h1,h2=>⟨h1 _ _ h.1,Al.setAt i h.2 h1 h2⟩
 | _,[],_::_,_,_,h,_,_=>h.elim
 | _,_::_,[],_,_,h,_,_=>h.elim
theorem Al.at {α β:Type} {R:β→α→Prop}:∀ (i:Nat) {cs:List β} {xs:List α} {x:α},Al R cs xs→xs[i]?=some x→∃ c,cs[i]?=some c∧R c x
 | _,[],[],_,_,h=>by cases h
 | 0,c::_,_::_,_,h,hx=>by cases hx;exact ⟨c,rfl,h.1⟩
 | i+1,_::_,_::_,_,h,hx=>Al.at i h.2 (by simpa using hx)
 | _,[],_::_,_,h,_=>h.elim
 | _,_::_,[],_,h,_=>h.elim
theorem Al.Vj {α β:Type} {R:List β→α→Prop} {n:Nat} (hR:∀ c x,R c x→c.length=n):∀ {cs:List (List β)} {xs:List α},Al R cs xs→(∀ c∈cs,c.length=n)∧cs.length=xs.length
 | [],[],_=>⟨fun _ h=>absurd h List.not_mem_nil,rfl⟩
 | c::cs,x::xs,h=>by
  obtain ⟨h1,h2⟩:=Al.Vj hR h.2
  refine ⟨fun d hd=>?_,congrArg (·+1) h2⟩
  rcases List.mem_cons.1 hd with rfl|hd
  ·exact hR _ _ h.1
  ·exact h1 d hd
 | [],_::_,h=>h.elim
 | _::_,[],h=>h.elim
theorem aY.eM {X:Nat→Prop} {H:Hp} {v:AC} {l:List Cs} {r:Option Nat} {e:TypeId} (ho:aY CsR 8 e X H v l r) {i:Nat} {x:Cs} (hx:l[i]?=some x) {p q:AC} {y:Nm} (hp:aD H p y.1) (hq:aD H q y.2) (hip:∀ id∈(AV.one p).ids,¬X id∧some id≠r) (hiq:∀ id∈(AV.one q).ids,¬X id∧some id≠r):
  ∃ k gen lo cells,v=.o (.sl k gen 0 l.length 8)∧r=some k∧k<H.nx∧H.get k=some (.arr cells e lo gen)∧lo≤gen∧i*8+8≤cells.length ∧
   aY CsR 8 e X (H.mod k (.arr (cells.take (i*8+4)++[p,q]++cells.drop (i*8+4+2)) e gen gen)) v (eM l i y) r:=by
 obtain ⟨css,a,b⟩:=ho.own
 have hi:=(List.getElem?_eq_some_iff.1 hx).1
 rcases a with ⟨rfl,h0,_⟩|⟨k,lo,gen,rfl,rfl,h3,h4,h5,h6⟩
 ·omega
 obtain ⟨hl8,hln⟩:=Al.Vj (fun c x (h:c.length=8∧_)=>h.1) b
 obtain ⟨c,hc,hc8,⟨p0,q0,w0,rfl,r1,r2,r3⟩,hcn⟩:=Al.at i b hx
 have hrow:=ho.row k rfl
 have hfr:Fr (fun j=>j=k) H (H.mod k (.arr ((css.flatMap id).take (i*8+4)++[p,q]++(css.flatMap id).drop (i*8+4+2)) e gen gen)):=(Fr.refl _).mod _ (.inr rfl)
 have hflat:=EK (sz:=8) i css _ [.i .i64 x.face,.i .i64 x.col,.i .i64 x.line,.i .i64 x.kind,p,q,.o (.str x.good),w0] 4 0 [p,q] hl8 hc rfl (by show 4+2≤8;decide)
 have hflat2:(css.set i [.i .i64 x.face,.i .i64 x.col,.i .i64 x.line,.i .i64 x.kind,p,q,.o (.str x.good),w0]).flatMap id=(css.flatMap id).take (i*8+4)++[p,q]++(css.flatMap id).drop (i*8+4+2):=hflat
 have hw0:∀ j∈(AV.one w0).ids,¬X j∧some j≠some k:=fun j hj=>hcn j (by rw[mB];exact List.mem_append_right _ (List.mem_append_right _ hj))
 refine ⟨k,gen,lo,css.flatMap id,rfl,rfl,h6,h3,h4,by omega,⟨fun q hq=>?_,css.set i [.i .i64 x.face,.i .i64 x.col,.i .i64 x.line,.i .i64 x.kind,p,q,.o (.str x.good),w0],?_,?_⟩⟩
 ·cases hq
  exact ⟨hrow.1,h6⟩
 ·refine .inr ⟨k,gen,gen,rfl,by rw[jX],by rw[hflat2];exact ai rfl,Nat.le_refl _,?_,h6⟩
  rw[hflat2,jX,List.length_append,List.length_append,List.length_take,List.length_drop]
  show min (i*8+4) _+2+_=_
  omega
 ·rw[Ni hx]
  refine Al.setAt i b (fun c x ⟨h1,h2,h3⟩=>⟨h1,bG _ _ _ _ _ h2 hfr fun j hj e=>(h3 j hj).2 (by rw[e]),h3⟩) ⟨rfl,⟨p,q,w0,rfl,SlC.fr hp hfr fun j hj e=>(hip j hj).2 (by rw[e]),SlC.fr hq hfr fun j hj e=>(hiq j hj).2 (by rw[e]),SlC.fr r3 hfr fun j hj e=>(hw0 j hj).2 (by rw[e])⟩,fun j hj=>?_⟩
  have hj:j∈gM [.i .i64 x.face,.i .i64 x.col,.i .i64 x.line,.i .i64 x.kind,p,q,.o (.str x.good),w0]:=hj
  rw[mB] at hj
  rcases List.mem_append.1 hj with hj|hj
  ·exact hip j hj
  ·rcases List.mem_append.1 hj with hj|hj
   ·exact hiq j hj
   ·exact hw0 j hj
end Go.Proofs.YtnhbkodnmkojpaaGreat
namespace Go.Proofs.YtnhbkodnmkojpaaGreat
open Go Go.Eng
theorem LW (ls:List Lad):∀ (acc gs:List Gd),goG ls acc gs=0→∀ g∈gs,fM (some ls) g.2.1=0
 | _,[],_=>fun _ h=>absurd h List.not_mem_nil
 | acc,x::gs,h=>fun g hg=>by
  unfold goG at h
  split at h
  ·cases h
  ·split at h
   ·cases h
   ·split at h
    ·cases h
    ·rename_i c3
     split at h
     ·cases h
     ·rcases List.mem_cons.1 hg with rfl|hg
      ·exact Classical.byContradiction c3
      ·exact LW ls (acc++[x]) gs h g hg
theorem QZ {o:Option (List Lad)} {gs:List Gd} (h:jy o gs=0):∀ g∈gs,fM o g.2.1=0:=by
 cases o with
 | none=>cases h
 | some ls=>
  have h':(if (32:Int)<gs.length then 3 else goG ls [] gs)=0:=h
  by_cases c:(32:Int)<gs.length
  ·rw[if_pos c] at h';cases h'
  ·rw[if_neg c] at h'
   exact LW ls [] gs h'
theorem vr {o:Option (List Lad)} {gs:List Gd} {t:Tb} (h:gV o gs t=0):jy o gs=0∧ir t=0∧(cy gs 0 t.2 []).2=0:=by
 unfold gV at h
 by_cases h1:jy o gs=0
 ·rw[if_neg (fun hh=>hh h1)] at h
  by_cases h2:ir t=0
  ·rw[if_neg (fun hh=>hh h2)] at h
   exact ⟨h1,h2,h⟩
  ·rw[if_pos h2] at h;exact absurd h h2
 ·rw[if_pos h1] at h;exact absurd h h1
theorem Mg {o:Option (List Lad)} {gs:List Gd} {t:Tb} (h:gV o gs t=0):(∀ x∈qk o gs t,UC gs t.2 x∧fM o x.1.2.2.1=0)∧(qk o gs t).length≤64:=by
 obtain ⟨h1,h2,h3⟩:=vr h
 have hk:qk o gs t=(cy gs 0 t.2 []).1:=if_pos h
 rw[hk]
 obtain ⟨a,b⟩:=ni gs t.2 0 t.2 [] rfl (fun _ h=>absurd h List.not_mem_nil) (Nat.zero_le _)
 refine ⟨fun x hx=>⟨a x hx,?_⟩,b⟩
 obtain ⟨j,c,_,_,_,_,hi,hl,_⟩:=a x hx
 obtain ⟨gi,_,hgat,_⟩:=sU hi
 rw[hl]
 exact QZ h1 _ (List.mem_of_getElem? hgat)
theorem tH {o:Option (List Lad)} {gs:List Gd} {t:Tb} (h:gV o gs t=0):(∀ x∈(iO o gs t).1,(∃ j:Nat,x.1=(j:Int)∧j<t.2.length)∧fM o x.2.2.1=0∧∃ c∈t.2,x.2.2.2=c.num)∧(iO o gs t).1.length≤64:=by
 obtain ⟨a,b⟩:=Mg h
 refine ⟨fun x hx=>?_,by show ((qk o gs t).map Prod.fst).length≤64;rw[List.length_map];exact b⟩
 obtain ⟨y,hy,rfl⟩:=List.mem_map.1 hx
 obtain ⟨⟨j,c,h1,h2,_,_,_,_,h3,_⟩,h4⟩:=a y hy
 exact ⟨⟨j,h1,(List.getElem?_eq_some_iff.1 h2).1⟩,h4,c,List.mem_of_getElem? h2,h3⟩
theorem MR {gs:List Gd} {t:Tb}:gV none gs t=1:=rfl
theorem Hj {lc:List Cl} {v:List Int} (h:nW lc v=true):v.length=lc.length:=by
 unfold nW at h
 rw[Bool.and_eq_true,beq_iff_eq] at h
 have:=h.1
 omega
end Go.Proofs.YtnhbkodnmkojpaaGreat
namespace Go.Proofs.YtnhbkodnmkojpaaGreat
open Go Go.Eng
theorem Vf:al Tryz.prog 19=true:=by kernel_rfl
theorem Hm:al Tryz.prog 21=true:=by kernel_rfl
theorem tA {P:Program} {tm:PT AV} {H:Hp} {d:Option Tmp} {x:Operand} {n:Nat} {ty:TypeId} {pos:String} {af:Array Edge} {g:Option (Nat×Bool)}:(aq P ⟨d,.extract x n,ty,pos,af,g⟩).run tm H=cN H (ev tm x) n:=by cases x <;> rfl
theorem qL (o:Option (List Lad)) (x:Cl) (l:List Cl) (y:Int) (vs:List Int) (cs:List Cs):lj o (x::l) (y::vs) cs=if okV o x y=true then lj o l vs cs else if (kJ (aT o x.2.2.1).1 (aT o x.2.2.1).2 y).2≠0 then ([],(kJ (aT o x.2.2.1).1 (aT o x.2.2.1).2 y).2) else lj o l vs (eM cs x.1.toNat ((kJ (aT o x.2.2.1).1 (aT o x.2.2.1).2 y).1,[])):=rfl
theorem vW (o:Option (List Lad)) (vs:List Int) (cs:List Cs):lj o [] vs cs=(cs,0):=by
 unfold lj;rfl
theorem FY (H:Hp) (k gv v w:AC) (o:Option (List Lad)) (gs:List Gd) (nm:List UInt8) (cs:List Cs) (vs:List Int) (hk:cT H k o) (hbl:∀ ls,o=some ls→∀ x∈ls,x.2.length≤1000000) (hg:SlG H gv gs) (hv:bX H v cs) (hB:TbB cs) (hO:∀ x∈gs,x.2.2.length≤4611686018427387904) (hw:SlI H w vs) (hV:vs.length≤4611686018427387904):
  Con E2 21 [.one k,.one gv,.agg [.o (.str nm),v],.one w] H (fun _=>False) fun r H'=>∃ v',r=.tup [(true,[.o (.str (lf o gs (nm,cs) vs).1.1),v']),(false,[.i .i64 (lf o gs (nm,cs) vs).2])]∧bX H' v' (lf o gs (nm,cs) vs).1.2:=by
 refine Con.of rfl fun lg=>?_
 have hk:cT ⟨H.t,H.nx,lg⟩ k o:=cT.same (H:=H) rfl rfl hk
 have hg:SlG ⟨H.t,H.nx,lg⟩ gv gs:=hg
 have hv:bX ⟨H.t,H.nx,lg⟩ v cs:=hv
 have hw:SlI ⟨H.t,H.nx,lg⟩ w vs:=hw
 generalize (⟨H.t,H.nx,lg⟩:Hp)=H at hk hg hv hw ⊢
 refine C1.body (E:=E2) (nt:=101) (res:=[.cell 8 26,.tmp 9]) Tryz.func21 rfl rfl rfl rfl rfl fun tm hargs=>?_
 have h0:=hargs 0 _ rfl
 have h1:=hargs 1 _ rfl
 have h2:=hargs 2 _ rfl
 have h3:=hargs 3 _ rfl
 clear hargs
 have hl:cs.length*120≤140737488355328:=hB.c
 generalize hr0:lf o gs (nm,cs) vs=r0
 have fin:∀ (s:List UInt8) (v':AC) (e:Int) (A:ab) (H9:Hp) (M:Nat),slot A.tm 8=.one (.o (.ptr M 0 0 2))→slot A.tm 9=.one (.i .i64 e)→closeAll H9 A.dfr=some H9→H9.get M=some (.arr [.o (.str s),v'] 26 0 0)→Gr H H9→bX H9 v' r0.1.2→s=r0.1.1→e=r0.2 →
   ∃ w H4,ao E2 [.cell 8 26,.tmp 9] (.ret,A,H9)=.ok [(w,H4)]∧Gr H H4∧∀ lg:List Nat,∃ v',w=.tup [(true,[.o (.str r0.1.1),v']),(false,[.i .i64 r0.2])]∧bX ⟨H4.t,H4.nx,lg⟩ v' r0.1.2:=fun s v' e A H9 M s8 s9 hd r1 hgr h1 hs he=>
  ⟨_,H9,cE (.inr rfl) hd (fw iP s8 (by rw[r1];exact qq) (Nat.le_refl _) rfl (kS s9 lL)),hgr,fun lg=>⟨v',by rw[←hs,←he];rfl,h1⟩⟩
 have bad:∀ (e:Int) (H9:Hp),((([],[]):Tb),e)=r0→bX H9 (.o .nilS) r0.1.2∧([]:List UInt8)=r0.1.1∧e=r0.2:=fun e H9 h=>by
  rw[←h]
  exact ⟨⟨[],⟨rfl,.inl ⟨rfl,rfl⟩⟩,trivial⟩,rfl,rfl⟩
 unfold lf at hr0
 have lv:=hv.lt
 replace hr0:Hd _:=hr0
 refine zG tyF fun K hK=>?_
 refine hK.out _ _ ?_
 refine R1.gen (fun A1 H1=>Gr H H1∧H.nx+1<H1.nx∧H1.get H.nx=some (.arr [.o (.str nm),v] 26 0 0)∧H1.get (H.nx+1)=some (.arr [.o (.str []),.o .nilS] 26 0 0)∧slot A1.tm 0=.one (k)∧slot A1.tm 1=.one (gv)∧slot A1.tm 3=.one (w)∧slot A1.tm 6=.one ((.o (.ptr H.nx 0 0 2)))∧slot A1.tm 8=.one ((.o (.ptr (H.nx+1) 0 0 2)))∧A1.nt=101∧A1.dfr=[])
  ⟨((Fr.refl _).new _).new _,by show H.nx+1<H.nx+1+1;omega,by rw[aN (by show H.nx<H.nx+1;omega)];exact an rfl,an rfl,zL⟩ ?_
 clear h0 h1 h2 h3 tm hK K lv
 rintro A1 H1 ⟨g1,n1,r0',r1,t0,t1,t3,t6,t8,hnt,hdf⟩
 obtain ⟨N,hN⟩:∃ N,N=H.nx:=⟨_,rfl⟩
 rw[←hN] at n1 r0' r1 t6 t8
 have hNl:H.nx≤N:=Nat.le_of_eq hN.symm
 clear hN
 have n0:N<H1.nx:=by omega
 have hk1:=hk.gr g1
 have hg1:=hg.gr g1
 have hv1:=hv.gr g1
 refine zG (qA tyF Of) fun K hK=>?_
 refine WE.con (Ho H1 k gv v o gs nm cs hk1 hbl hg1 hv1 hB hO) fun w2 H2 g2 ⟨a,b,hq2,ha,hb⟩=>?_
 subst hq2
 have r0':=(g2.get _ n0 not_false).trans r0'
 have n0:=Nat.lt_of_lt_of_le n0 g2.nx
 have r1:=(g2.get _ n1 not_false).trans r1
 have n1:=Nat.lt_of_lt_of_le n1 g2.nx
 have g2:=g1.gr g2
 have la:=ha.lt
 have lb:=hb.lt
 have hbc:=@tH o gs (nm,cs)
 have hrow:=hr0.out
 clear hr0 g1 hk1 hg1 hv1
 by_cases c1:gV o gs (nm,cs)=0
 case neg=>
  rw[if_pos c1] at hrow
  obtain ⟨b1,b2,b3⟩:=bad (gV o gs (nm,cs)) (((H2.new (.arr [.o .nilS,.o .nilS] 37 0 0)).mod H2.nx (.arr [a,b] 37 0 0)).mod (N+1) (.arr [.o (.str []),.o .nilS] 26 0 0)) hrow
  have e1:(gV o gs (nm,cs)==0)=false:=beq_false_of_ne c1
  have g9:Gr H (((H2.new (.arr [.o .nilS,.o .nilS] 37 0 0)).mod H2.nx (.arr [a,b] 37 0 0)).mod (N+1) (.arr [.o (.str []),.o .nilS] 26 0 0)):=((g2.new _).mod _ (.inl (by have:=g2.nx;omega))).mod _ (.inl (by omega))
  replace b1:Hd _:=b1
  replace b2:Hd _:=b2
  replace b3:Hd _:=b3
  replace g9:Hd _:=g9
  clear hrow c1 bad hbc ha hb
  refine zK tyF ?_
  exact fin [] (.o .nilS) _ _ _ (N+1) (by simp only[aa,Nat.reduceEqDiff,reduceIte,t8]) qp (by simp only[ag,hdf];rfl) (ai rfl) g9.out b1.out b2.out b3.out
 rw[if_neg (fun h=>h c1)] at hrow
 obtain ⟨hbc,hlc⟩:=hbc c1
 have hcut:AK (nm,cs) (cs.length:Int)=0:=by
  unfold AK
  rw[if_neg (fun h=>h (vr c1).2.1),if_neg (by show ¬((cs.length:Int)<0∨(cs.length:Int)<cs.length);omega)]
 rw[c1]
 generalize (iO o gs (nm,cs)).1=lc at hbc hlc hrow ha
 generalize (iO o gs (nm,cs)).2=lr at hb
 clear c1
 replace hrow:Hd _:=hrow
 replace hbc:Hd _:=hbc
 replace hcut:Hd _:=hcut
 refine zK tyF ?_
 refine R1.gen (fun A3 H3=>Gr H2 H3∧H2.nx<H3.nx∧H3.get H2.nx=some (.arr [a,b] 37 0 0)∧slot A3.tm 0=.one (k)∧slot A3.tm 3=.one (w)∧slot A3.tm 6=.one ((.o (.ptr N 0 0 2)))∧slot A3.tm 8=.one ((.o (.ptr (N+1) 0 0 2)))∧slot A3.tm 10=.one ((.o (.ptr H2.nx 0 0 2)))∧A3.nt=101∧A3.dfr=[])
  ⟨((Fr.refl _).new _).mod _ (.inl (Nat.le_refl _)),Nat.lt_succ_self _,ai rfl,zL⟩ ?_
 clear t0 t1 t3 t6 t8 hnt hdf A1 la lb
 rintro A3 H3 ⟨g3,mP,rP,t0,t3,t6,t8,t10,hnt,hdf⟩
 obtain ⟨P,hP⟩:∃ P,P=H2.nx:=⟨_,rfl⟩
 have hNP:N+1<P:=by omega
 rw[←hP] at mP rP t10
 clear hP
 have r0':=(g3.get _ n0 not_false).trans r0'
 have n0:=Nat.lt_of_lt_of_le n0 g3.nx
 have r1:=(g3.get _ n1 not_false).trans r1
 have n1:=Nat.lt_of_lt_of_le n1 g3.nx
 have ha3:=ha.gr g3
 have hb3:=hb.gr g3
 have g3:=g2.gr g3
 have hw3:=hw.gr g3
 clear g2 ha hb
 refine zG (qA tyF Cm) fun K hK=>?_
 refine WE.con (wA H3 a b w lc vs ha3 hw3 hV) fun w4 H4 g4 hq4=>?_
 subst hq4
 have r0':=(g4.get _ n0 not_false).trans r0'
 have n0:=Nat.lt_of_lt_of_le n0 g4.nx
 have r1:=(g4.get _ n1 not_false).trans r1
 have n1:=Nat.lt_of_lt_of_le n1 g4.nx
 have rP:=(g4.get _ mP not_false).trans rP
 have mP:=Nat.lt_of_lt_of_le mP g4.nx
 have ha4:=ha3.gr g4
 have g4:=g3.gr g4
 clear g3 ha3 hb3 hw3
 cases hvb:nW lc vs with
 | false=>
  have hr1:=hrow.out
  rw[if_pos hvb] at hr1
  obtain ⟨b1,b2,b3⟩:=bad 54 (H4.mod (N+1) (.arr [.o (.str []),.o .nilS] 26 0 0)) hr1
  have g9:Gr H (H4.mod (N+1) (.arr [.o (.str []),.o .nilS] 26 0 0)):=g4.mod _ (.inl (by omega))
  replace b1:Hd _:=b1
  replace b2:Hd _:=b2
  replace b3:Hd _:=b3
  clear hr1 hrow bad hbc hvb
  refine zK tyF ?_
  exact fin [] (.o .nilS) 54 _ _ (N+1) (by simp only[aa,Nat.reduceEqDiff,reduceIte,t8]) qp (by simp only[ag,hdf];rfl) (ai rfl) g9 b1.out b2.out b3.out
 | true=>
 have hr1:=hrow.out
 rw[if_neg (by rw[hvb];decide)] at hr1
 have hvl:=Hj hvb
 have hv4:=hv.gr g4
 have ll:=hv4.len
 have lv:=hv4.lt
 have r14:=r1
 have n14:=n1
 clear hrow hvb
 replace hvl:Hd _:=hvl
 generalize hr9:lj o lc vs cs=r9 at hr1
 have hr1:(if r9.2≠0 then (([],[]),r9.2) else ((nm,r9.1),0))=r0:=hr1
 replace hr1:Hd _:=hr1
 replace hr9:Hd _:=hr9
 refine zK tyF ?_
 refine zG (qA tyF Vf) fun K hK=>?_
 refine WE.con (SX H4 nm v cs (cs.length:Int) hv4 hB) fun w5 H5 g5 ⟨va,vb,hq5,hq6,_⟩=>?_
 rw[hcut.out] at hq5
 obtain ⟨q,_,hoa,hob⟩:=hq6 hcut.out
 have lb:=hob.lt
 rw[Int.toNat_natCast,List.take_length] at hoa
 subst hq5
 clear hq6 hob hcut ll lv
 have r0':=(g5.get _ n0 not_false).trans r0'
 have n0:=Nat.lt_of_lt_of_le n0 g5.nx
 have r1:=(g5.get _ n1 not_false).trans r1
 have n1:=Nat.lt_of_lt_of_le n1 g5.nx
 have rP:=(g5.get _ mP not_false).trans rP
 have mP:=Nat.lt_of_lt_of_le mP g5.nx
 have la:=hoa.lt
 have n45:=g5.nx
 have g5':Gr H4 H5:=g5
 refine zK tyF ?_
 refine R1.gen (fun A6 H6=>Gr H5 H6∧H5.nx<H6.nx∧H6.get H5.nx=some (.arr [.o (.str nm),va] 26 0 0)∧slot A6.tm 0=.one (k)∧slot A6.tm 3=.one (w)∧slot A6.tm 8=.one ((.o (.ptr (N+1) 0 0 2)))∧slot A6.tm 10=.one ((.o (.ptr P 0 0 2)))∧slot A6.tm 12=.one ((.o (.ptr H5.nx 0 0 2)))∧A6.nt=101∧A6.dfr=[])
  ⟨((((Fr.refl _).new _).new _).mod _ (.inl (Nat.le_refl _))).mod _ (.inl (Nat.le_succ _)),by show H5.nx<H5.nx+1+1;omega,by rw[az (by omega)];exact ai rfl,zL⟩ ?_
 clear t0 t3 t6 t8 t10 hnt hdf A3 la lb
 rintro A6 H6 ⟨g6,mT,rT,t0,t3,t8,t10,t12,hnt,hdf⟩
 obtain ⟨T,hT⟩:∃ T,T=H5.nx:=⟨_,rfl⟩
 have hT5:H5.nx≤T:=by omega
 rw[←hT] at mT rT t12
 clear hT
 have ho6:aY CsR 8 69 (fun j=>j<H4.nx∨j=T) H6 va cs q:=((hoa.OW bB).less (X':=fun j=>j<H4.nx∨j=T) fun j h=>h.elim .inl fun h=>.inr (by omega)).gr bG bB g6
 obtain ⟨B,hB4⟩:∃ B,B=H4.nx:=⟨_,rfl⟩
 rw[←hB4] at ho6
 have hBT:B≤T:=by omega
 have hPB:P<B:=by have:=mP;omega
 have hBH:H.nx≤B:=by omega
 have g46:Gr H4 H6:=g5'.gr g6
 have r0':=(g6.get _ n0 not_false).trans r0'
 have n0:=Nat.lt_of_lt_of_le n0 g6.nx
 have r1:=(g6.get _ n1 not_false).trans r1
 have n1:=Nat.lt_of_lt_of_le n1 g6.nx
 have rP:=(g6.get _ mP not_false).trans rP
 have mP:=Nat.lt_of_lt_of_le mP g6.nx
 have hBl:B≤H4.nx:=by omega
 have hBg:H4.nx≤B:=by omega
 have la6:=(ha4.gr g46).len
 have la7:=(ha4.gr g46).lt
 clear g5 g5' g6 hoa n45 hB4
 replace ho6:Hd _:=ho6
 refine zW tyF ?_
 refine R1.cq fun K k1 k2 k3 k4=>?_
 refine R1.loop (fun z A H7=>∃ (i:Nat) (ds:List Cs),z=lc.length - i∧i≤lc.length∧ds.length=cs.length∧Gr H4 H7∧T<H7.nx∧H7.get T=some (.arr [.o (.str nm),va] 26 0 0)∧Hd (aY CsR 8 69 (fun j=>j<B∨j=T) H7 va ds q)∧Hd (lj o (lc.drop i) (vs.drop i) ds=r9) ∧
   slot A.tm 0=.one (k)∧slot A.tm 3=.one (w)∧slot A.tm 8=.one ((.o (.ptr (N+1) 0 0 2)))∧slot A.tm 10=.one ((.o (.ptr P 0 0 2)))∧slot A.tm 12=.one ((.o (.ptr T 0 0 2)))∧slot A.tm 49=.one (a)∧slot A.tm 50=.one (.i .i64 (lc.length:Int))∧slot A.tm 51=.one (.i .i64 (i:Int))∧A.nt=101∧A.dfr=[]) ?_ lc.length
  ⟨0,cs,rfl,Nat.zero_le _,rfl,g46,mT,rT,ho6,hr9,zL⟩
 clear t0 t3 t8 t10 t12 hnt hdf A6 k3 g46 mT rT ho6 hr9 la6 la7
 rintro z A H7 ⟨i,ds,rfl,hi,hds,g7,mT,rT,ho,hr,t0,t3,t8,t10,t12,t49,t50,t51,hnt,hdf⟩
 refine zW tyF ?_
 refine zI tyF (fun hc=>?_) (fun hc=>?_)
 ·have hlt:i<lc.length:=by omega
  have ex:lc[i]?=some lc[i]:=List.getElem?_eq_getElem hlt
  have hdr:lc.drop i=lc[i]::lc.drop (i+1):=List.drop_eq_getElem_cons hlt
  have htk:lc.take (i+1)=lc.take i++[lc[i]]:=List.take_succ_eq_append_getElem hlt
  have hmem:lc[i]∈lc:=List.getElem_mem hlt
  generalize lc[i]=x at ex hdr htk hmem
  have hw2:IntKind.i64.wrap ((i:Int)+1)=((i+1:Nat):Int):=by rw[aX (by omega) (by omega)];omega
  obtain ⟨y,ey⟩:∃ y,vs[i]?=some y:=⟨_,List.getElem?_eq_getElem (by rw[hvl.out];exact hlt)⟩
  have hltv:i<vs.length:=(List.getElem?_eq_some_iff.1 ey).1
  have hdv:vs.drop i=y::vs.drop (i+1):=by
   rw[List.drop_eq_getElem_cons hltv]
   have h1:=(List.getElem?_eq_some_iff.1 ey).2
   rw[h1]
  have hr1':=hr.out
  rw[hdr,hdv,qL] at hr1'
  obtain ⟨⟨j,hxj,hj⟩,hxl,_⟩:=hbc.out x hmem
  have hj:j<cs.length:=hj
  have hrd:nF o x=dA (aT o x.2.2.1).1 (aT o x.2.2.1).2 x.2.2.2:=Qw hxl
  obtain ⟨id,g,off,cells,rfl,hid,hgr,hat⟩:=(ha4.gr g7).open (by omega)
  obtain ⟨p,q',hx⟩:=hat i x ex
  have y1:=hx.all
  have y2:=hx.le
  have hp7:=hx.of1
  have hq7:=hx.of2
  have hw7:=(hw.gr g4).gr g7
  have hk7:=(hk.gr g4).gr g7
  clear hx hat hdr hdv ex hmem htk hr
  replace hr1':Hd _:=hr1'
  replace hrd:Hd _:=hrd
  replace hxj:Hd _:=hxj
  refine zW tyF ?_
  refine R1.cq fun K2 p1 p2 p3 p4=>?_
  refine zG (qA tyF (ixC hlt)) fun K3 hK3=>?_
  refine hK3.out _ _ ?_
  refine R1.gen (fun A8 H8=>Gr H7 H8∧H7.nx<H8.nx∧H8.get H7.nx=some (.arr [.i .i64 x.1,.o (.str x.2.1),.o (.str x.2.2.1),p,q'] 84 0 0)∧slot A8.tm 0=.one (k)∧slot A8.tm 3=.one (w)∧slot A8.tm 8=.one ((.o (.ptr (N+1) 0 0 2)))∧slot A8.tm 10=.one ((.o (.ptr P 0 0 2)))∧slot A8.tm 12=.one ((.o (.ptr T 0 0 2)))∧slot A8.tm 15=.one (.i .i64 (i:Int))∧slot A8.tm 16=.one ((.o (.ptr H7.nx 0 0 5)))∧slot A8.tm 49=.one ((.o (.sl id g off lc.length 5)))∧slot A8.tm 50=.one (.i .i64 (lc.length:Int))∧slot A8.tm 51=.one (.i .i64 (i:Int))∧A8.nt=101∧A8.dfr=[])
   ⟨((Fr.refl _).new _).mod _ (.inl (Nat.le_refl _)),Nat.lt_succ_self _,ai rfl,zL⟩ ?_
  clear t0 t3 t8 t10 t12 t49 t50 t51 hnt hdf A y1 y2 hK3 K3 hgr hid
  rintro A H8 ⟨g8,mC,rC,t0,t3,t8,t10,t12,t15,t16,t49,t50,t51,hnt,hdf⟩
  obtain ⟨C,hC⟩:∃ C,C=H7.nx:=⟨_,rfl⟩
  have hBC:B≤C:=by have:=g7.nx;omega
  have hTC:T<C:=by omega
  rw[←hC] at mC rC t16
  clear hC
  have ho8:=ho.out.gr bG bB g8
  have rT:=(g8.get _ mT not_false).trans rT
  have mT:=Nat.lt_of_lt_of_le mT g8.nx
  have g78:=g7.gr g8
  have hk8:=hk7.gr g8
  have hp8:=hp7.gr g8
  have hq8:=hq7.gr g8
  clear hp7 hq7 g7 g8 hk7 ho
  replace ho8:Hd _:=ho8
  have go:Hd (∀ (ds':List Cs) (A:ab) (H5:Hp),slot A.tm 0=.one (k)∧slot A.tm 3=.one (w)∧slot A.tm 8=.one ((.o (.ptr (N+1) 0 0 2)))∧slot A.tm 10=.one ((.o (.ptr P 0 0 2)))∧slot A.tm 12=.one ((.o (.ptr T 0 0 2)))∧slot A.tm 49=.one ((.o (.sl id g off lc.length 5)))∧slot A.tm 50=.one (.i .i64 (lc.length:Int))∧slot A.tm 51=.one (.i .i64 (i:Int))∧A.nt=101∧A.dfr=[]→ds'.length=cs.length→Gr H4 H5→T<H5.nx→H5.get T=some (.arr [.o (.str nm),va] 26 0 0)→aY CsR 8 69 (fun j=>j<B∨j=T) H5 va ds' q→lj o (lc.drop (i+1)) (vs.drop (i+1)) ds'=r9→K2 (.exit 1) A H5∧K2 .normal A H5):=by
   clear t0 t3 t8 t10 t12 t15 t16 t49 t50 t51 hnt hdf hr1' ho8 g78 hk8 hp8 hq8 rC rT mC mT A
   rintro ds' A H5 ⟨t0,t3,t8,t10,t12,t49,t50,t51,hnt,hdf⟩ hdl g5 mT rT ho5 hr3
   replace hr3:Hd _:=hr3
   replace ho5:Hd _:=ho5
   constructor
   ·refine p2.out _ _ ?_
    refine zW tyF ?_
    exact ⟨lc.length - (i+1),by omega,i+1,ds',rfl,hlt,hdl,g5,mT,rT,ho5,hr3,zL⟩
   ·refine p1.out _ _ ?_
    refine zW tyF ?_
    exact ⟨lc.length - (i+1),by omega,i+1,ds',rfl,hlt,hdl,g5,mT,rT,ho5,hr3,zL⟩
  refine zG (qA tyF Tj) fun K3 hK3=>?_
  refine WE.con (Rt H8 k p q' o x hk8 hbl hp8 hq8) fun w9 H9 g9 hq9=>?_
  rw[hrd.out] at hq9
  subst hq9
  have ho9:=ho8.out.gr bG bB g9
  have rT:=(g9.get _ mT not_false).trans rT
  have mT:=Nat.lt_of_lt_of_le mT g9.nx
  have rC:=(g9.get _ mC not_false).trans rC
  have mC:=Nat.lt_of_lt_of_le mC g9.nx
  have g79:=g78.gr g9
  have hk9:=hk8.gr g9
  have hw9:=(hw.gr g4).gr g79
  clear ho8 g78 hk8 hp8 hq8 g9 hw7
  replace ho9:Hd _:=ho9
  obtain ⟨wid,wg,woff,wcells,rfl,hwid,hwgr,hwat⟩:=hw9.open (by omega)
  obtain ⟨y1,y2⟩:=hwat i y ey
  rw[Nat.mul_one] at y1 y2
  clear hwat
  have hok:okV o x y=(decide ((dA (aT o x.2.2.1).1 (aT o x.2.2.1).2 x.2.2.2).2=0)&&decide ((dA (aT o x.2.2.1).1 (aT o x.2.2.1).2 x.2.2.2).1=y)):=rfl
  generalize hrn:dA (aT o x.2.2.1).1 (aT o x.2.2.1).2 x.2.2.2=rn at hok ⊢
  clear hrn hrd
  replace hok:Hd _:=hok
  refine zE tyF ?_
  repeat refine R1.aw ?_
  refine R1.s_h (by kernel_rfl) fun K6 hK6=>?_
  have key:Hd (∀ (A:ab),slot A.tm 0=.one (k)∧slot A.tm 3=.one ((.o (.sl wid wg woff vs.length 1)))∧slot A.tm 8=.one ((.o (.ptr (N+1) 0 0 2)))∧slot A.tm 10=.one ((.o (.ptr P 0 0 2)))∧slot A.tm 12=.one ((.o (.ptr T 0 0 2)))∧slot A.tm 15=.one (.i .i64 (i:Int))∧slot A.tm 16=.one ((.o (.ptr C 0 0 5)))∧slot A.tm 49=.one ((.o (.sl id g off lc.length 5)))∧slot A.tm 50=.one (.i .i64 (lc.length:Int))∧slot A.tm 51=.one (.i .i64 (i:Int))∧slot A.tm 71=.one ((.b (okV o x y)))∧A.nt=101∧A.dfr=[]→K6 A H9):=by
   clear t0 t3 t8 t10 t12 t15 t16 t49 t50 t51 hnt hdf A hok
   rintro A ⟨t0,t3,t8,t10,t12,t15,t16,t49,t50,t51,t71,hnt,hdf⟩
   refine hK6.out _ _ ?_
   clear hK6 K6
   cases hokb:okV o x y with
   | true=>
    have hr2:=hr1'.out
    rw[if_pos hokb] at hr2
    rw[hokb] at t71
    clear hr1' hokb
    replace hr2:Hd _:=hr2
    refine zW tyF ?_
    exact (go.out ds _ _ zL hds g79 mT rT ho9.out hr2.out).1
   | false=>
   have hr2:=hr1'.out
   rw[if_neg (by rw[hokb];decide)] at hr2
   rw[hokb] at t71
   clear hr1' hokb
   replace hr2:Hd _:=hr2
   refine zW tyF ?_
   refine zG (qA tyF mI) fun K7 hK7=>?_
   refine WE.con (kG H9 k o x.2.2.1 hk9 hbl) fun w10 H10 g10 ⟨c10,hq10,hc10,hcl10⟩=>?_
   rw[hxl] at hq10
   subst hq10
   obtain ⟨u,rfl,hu⟩:=hc10.of
   have ho10:=ho9.out.gr bG bB g10
   have rT:=(g10.get _ mT not_false).trans rT
   have mT:=Nat.lt_of_lt_of_le mT g10.nx
   have rC:=(g10.get _ mC not_false).trans rC
   have mC:=Nat.lt_of_lt_of_le mC g10.nx
   have g710:=g79.gr g10
   have hwid10:=Nat.lt_of_lt_of_le hwid g10.nx
   have hwgr10:rowOf (H10.get wid) wg=some wcells:=by rw[g10.get _ hwid not_false];exact hwgr
   have lu:=hu.lt
   clear ho9 g79 hk9 g10 hwid hwgr hw9 hcl10 hc10
   replace ho10:Hd _:=ho10
   refine zE tyF ?_
   refine R1.gen (fun A11 H11=>Gr H10 H11∧H10.nx<H11.nx∧H11.get H10.nx=some (.arr [.o (.str (aT o x.2.2.1).1),u] 97 0 0)∧slot A11.tm 0=.one (k)∧slot A11.tm 3=.one ((.o (.sl wid wg woff vs.length 1)))∧slot A11.tm 8=.one ((.o (.ptr (N+1) 0 0 2)))∧slot A11.tm 10=.one ((.o (.ptr P 0 0 2)))∧slot A11.tm 12=.one ((.o (.ptr T 0 0 2)))∧slot A11.tm 15=.one (.i .i64 (i:Int))∧slot A11.tm 16=.one ((.o (.ptr C 0 0 5)))∧slot A11.tm 19=.one ((.o (.ptr H10.nx 0 0 2)))∧slot A11.tm 49=.one ((.o (.sl id g off lc.length 5)))∧slot A11.tm 50=.one (.i .i64 (lc.length:Int))∧slot A11.tm 51=.one (.i .i64 (i:Int))∧A11.nt=101∧A11.dfr=[])
    ⟨((Fr.refl _).new _).mod _ (.inl (Nat.le_refl _)),Nat.lt_succ_self _,ai rfl,zL⟩ ?_
   clear t0 t3 t8 t10 t12 t15 t16 t49 t50 t51 t71 hnt hdf A lu hK7 K7
   rintro A11 H11 ⟨g11,mL,rL,t0,t3,t8,t10,t12,t15,t16,t19,t49,t50,t51,hnt,hdf⟩
   obtain ⟨L,hL2⟩:∃ L,L=H10.nx:=⟨_,rfl⟩
   rw[←hL2] at mL rL t19
   clear hL2
   have ho11:=ho10.out.gr bG bB g11
   have rT:=(g11.get _ mT not_false).trans rT
   have mT:=Nat.lt_of_lt_of_le mT g11.nx
   have rC:=(g11.get _ mC not_false).trans rC
   have mC:=Nat.lt_of_lt_of_le mC g11.nx
   have g711:=g710.gr g11
   have hu11:=hu.gr g11
   have hwid11:=Nat.lt_of_lt_of_le hwid10 g11.nx
   have hwgr11:rowOf (H11.get wid) wg=some wcells:=by rw[g11.get _ hwid10 not_false];exact hwgr10
   have hB11:B≤H11.nx:=by have:=g711.nx;omega
   clear ho10 g710 g11 hwid10 hwgr10 hu
   replace ho11:Hd _:=ho11
   generalize hwr:kJ (aT o x.2.2.1).1 (aT o x.2.2.1).2 y=wr at hr2
   replace hwr:Hd _:=hwr
   repeat refine R1.aw ?_
   repeat refine R1.aw ?_
   (first|refine R1.kY (ms:=[0,0,0,6,14,31,63,127,127,0,767,2047]) (by kernel_rfl) (by kernel_rfl) fun K hK=>?_|refine R1.e_drw (ms:=[0,0,0,6,14,31,63,127,127,0,767,2047]) (by kernel_rfl) (by kernel_rfl) fun K hK=>?_)
   simp (config:={decide:=true}) only [qB,au,Nat.reduceLT,Nat.reduceAdd,qD,bw,aM,ad,t3,t15,t19,hnt,rL,mL,bP,cj,dZ,cX hltv,Nat.mul_one,hwid11,hwgr11,y1,y2,Qj]
   refine ga (fun r H'=>∃ a',r=.tup [(true,[a',.o .nilS]),(false,[.i .i64 wr.2])]∧aD H' a' wr.1∧∀ id∈(AV.one a').ids,H11.nx≤id) (fun v h1 h2 hg ⟨a',e1,e2,e3⟩=>⟨a',e1,e2.gr hg,e3⟩) ?_ (fun h hg hn=>by have:=ME h (aT o x.2.2.1).1 u (aT o x.2.2.1).2 y (hu11.gr hg);rw[hn,hwr.out] at this;exact this) ?_
   ·exact unU (by simp (config:={decide:=true}) only [aM,if_true])
   rintro w12 kx H12 ⟨a',rfl,ha',hai⟩ hkx hn12 g12
   subst hn12
   simp (config:={decide:=true}) only [qB,Nat.reduceLT,Nat.reduceAdd,qD,bw,bJ,aM,hnt,lP,ow,@tA]
   refine hK _ _ ?_
   refine R1.gen (fun A13 H13=>Gr H12 H13∧H12.nx<H13.nx∧H13.get H12.nx=some (.arr [a',.o .nilS] 66 0 0)∧slot A13.tm 0=.one (k)∧slot A13.tm 3=.one ((.o (.sl wid wg woff vs.length 1)))∧slot A13.tm 8=.one ((.o (.ptr (N+1) 0 0 2)))∧slot A13.tm 10=.one ((.o (.ptr P 0 0 2)))∧slot A13.tm 12=.one ((.o (.ptr T 0 0 2)))∧slot A13.tm 15=.one (.i .i64 (i:Int))∧slot A13.tm 16=.one ((.o (.ptr C 0 0 5)))∧slot A13.tm 21=.one ((.o (.ptr H12.nx 0 0 2)))∧slot A13.tm 22=.one ((.i .i64 wr.2))∧slot A13.tm 49=.one ((.o (.sl id g off lc.length 5)))∧slot A13.tm 50=.one (.i .i64 (lc.length:Int))∧slot A13.tm 51=.one (.i .i64 (i:Int))∧A13.nt=101∧A13.dfr=[])
    ⟨((Fr.refl _).new _).mod _ (.inl (Nat.le_refl _)),Nat.lt_succ_self _,ai rfl,zL⟩ ?_
   clear t0 t3 t8 t10 t12 t15 t16 t19 t49 t50 t51 hnt hdf A11 hK K hwid11 hwgr11 y1 y2 rL mL
   rintro A13 H13 ⟨g13,mU,rU,t0,t3,t8,t10,t12,t15,t16,t21,t22,t49,t50,t51,hnt,hdf⟩
   obtain ⟨U,hU⟩:∃ U,U=H12.nx:=⟨_,rfl⟩
   have hUl:H12.nx≤U:=by omega
   rw[←hU] at mU rU t21
   clear hU
   have hn12:=g12.nx
   have ha13:=ha'.gr g13
   have ho13:=(ho11.out.gr bG bB g12).gr bG bB g13
   have hip:∀ id∈(AV.one a').ids,¬(id<B∨id=T)∧some id≠q:=fun id hid=>by
    have h1:=hai id hid
    refine ⟨by omega,fun e=>?_⟩
    have:=(ho11.out.row id e.symm).2
    omega
   have rT:=(g12.get _ mT not_false).trans rT
   have mT:=Nat.lt_of_lt_of_le mT g12.nx
   have rC:=(g12.get _ mC not_false).trans rC
   have mC:=Nat.lt_of_lt_of_le mC g12.nx
   have rT:=(g13.get _ mT not_false).trans rT
   have mT:=Nat.lt_of_lt_of_le mT g13.nx
   have rC:=(g13.get _ mC not_false).trans rC
   have mC:=Nat.lt_of_lt_of_le mC g13.nx
   have g713:=(g711.gr g12).gr g13
   have nN13:N+1<H13.nx:=Nat.lt_of_lt_of_le n14 g713.nx
   have r113:=(g713.get _ n14 not_false).trans r14
   clear ho11 ha' hai g711 g12 g13
   replace ho13:Hd _:=ho13
   replace hip:Hd _:=hip
   by_cases e0:wr.2=0
   case neg=>
    have hr3:=hr2.out
    rw[if_pos e0] at hr3
    have hr4:=hr1.out
    rw[←hr3,if_pos e0] at hr4
    obtain ⟨b1,b2,b3⟩:=bad wr.2 (H13.mod (N+1) (.arr [.o (.str []),.o .nilS] 26 0 0)) hr4
    have e1:(wr.2==0)=false:=beq_false_of_ne e0
    have g9:Gr H (H13.mod (N+1) (.arr [.o (.str []),.o .nilS] 26 0 0)):=(g4.gr g713).mod _ (.inl (by omega))
    replace b1:Hd _:=b1
    replace b2:Hd _:=b2
    replace b3:Hd _:=b3
    replace g9:Hd _:=g9
    clear hr3 hr4 hr2 hr1 bad e0 go
    refine zW tyF ?_
    exact p4.out _ _ (k4.out _ _ (fin [] (.o .nilS) wr.2 _ _ (N+1) (by simp only[aa,Nat.reduceEqDiff,reduceIte,t8]) qp (by simp only[ag,hdf];rfl) (ai rfl) g9.out b1.out b2.out b3.out))
   have hr3:=hr2.out
   rw[if_neg (fun h=>h e0),hxj.out,Int.toNat_natCast] at hr3
   rw[e0] at t22
   have hjd:j<ds.length:=by omega
   have hj2:j<cs.length:=by omega
   obtain ⟨kq,gen,lo,qcells,hva,hqq,hkq,hget,hlo,hle,hoS⟩:=aY.eM ho13.out (List.getElem?_eq_getElem hjd) (p:=a') (q:=.o .nilS) (y:=(wr.1,[])) ha13 aD.nil hip.out (fun id hid=>by cases hid)
   have hXq:=(ho13.out.row kq hqq).1
   rw[List.append_assoc] at hoS
   subst hva
   rw[hxj.out] at rC
   have hle2:j*8+4+2≤qcells.length:=by omega
   have hdl:(eM ds j (wr.1,[])).length=cs.length:=by rw[jX,hds]
   have hTk:T≠kq:=fun e=>hXq (.inr e.symm)
   have hBk:H4.nx≤kq:=by omega
   clear hr2 hr1 e0 ho13 hip bad fin hxj hle
   replace hoS:Hd _:=hoS
   replace hr3:Hd _:=hr3
   replace hXq:Hd _:=hXq
   replace hqq:Hd _:=hqq
   replace hds:Hd _:=hds
   refine zW (qA tyF (ixC hjd)) ?_
   exact (go.out _ _ _ zL hdl (g713.mod _ (.inl hBk)) mT (by rw[az hTk];exact rT) hoS.out hr3.out).2
  clear hr1' go
  by_cases d1:rn.2=0
  ·have e1:(rn.2==0)=true:=beq_iff_eq.2 d1
   by_cases d2:rn.1=y
   ·have e2:(rn.1==y)=true:=beq_iff_eq.2 d2
    have hokt:Hd (okV o x y=true):=by show okV o x y=true;rw[hok.out,decide_eq_true d1,decide_eq_true d2];rfl
    clear hok d1 d2
    rw[hokt.out] at key
    refine zS (qA tyF (qA (ixC hltv) Nat.mul_one)) ?_
    exact key.out _ zL
   ·have e2:(rn.1==y)=false:=beq_false_of_ne d2
    have hokt:Hd (okV o x y=false):=by show okV o x y=false;rw[hok.out,decide_eq_false d2,Bool.and_false]
    clear hok d1 d2
    rw[hokt.out] at key
    refine zS (qA tyF (qA (ixC hltv) Nat.mul_one)) ?_
    exact key.out _ zL
  ·have e1:(rn.2==0)=false:=beq_false_of_ne d1
   have hokt:Hd (okV o x y=false):=by show okV o x y=false;rw[hok.out,decide_eq_false d1,Bool.false_and]
   clear hok d1
   rw[hokt.out] at key
   refine zS (qA tyF (qA (ixC hltv) Nat.mul_one)) ?_
   exact key.out _ zL
 ·have hie:i=lc.length:=by omega
  subst hie
  have hn:=hr.out
  rw[List.drop_length,vW] at hn
  have hn:(ds,(0:Int))=r9:=hn
  have hr3:=hr1.out
  rw[←hn,if_neg (fun h=>h rfl)] at hr3
  have r17:=(g7.get _ n14 not_false).trans r14
  have nN7:N+1<H7.nx:=Nat.lt_of_lt_of_le n14 g7.nx
  have lv:=ho.out.lt
  have ho8:=ho.out.fr bG bB (Y:=fun i=>i=N+1) (H':=H7.mod (N+1) (.arr [.o (.str nm),va] 26 0 0)) ((Fr.refl _).mod _ (.inr rfl)) fun i h=>.inl (.inl (by omega))
  have b1:bX (H7.mod (N+1) (.arr [.o (.str nm),va] 26 0 0)) va r0.1.2:=by rw[←hr3];exact ho8.slr
  have b2:nm=r0.1.1:=by rw[←hr3]
  have b3:(0:Int)=r0.2:=by rw[←hr3]
  have g9:Gr H (H7.mod (N+1) (.arr [.o (.str nm),va] 26 0 0)):=(g4.gr g7).mod _ (.inl (by omega))
  clear hn hr hr1 hr3 ho ho8 bad
  replace b1:Hd _:=b1
  replace b2:Hd _:=b2
  replace b3:Hd _:=b3
  replace g9:Hd _:=g9
  refine zW tyF ?_
  refine k2.out _ _ ?_
  refine zW tyF ?_
  exact fin nm va 0 _ _ (N+1) (by simp only[aa,Nat.reduceEqDiff,reduceIte,t8]) qp (by simp only[ag,hdf];rfl) (ai rfl) g9.out b1.out b2.out b3.out
end Go.Proofs.YtnhbkodnmkojpaaGreat
namespace Go.Proofs.YtnhbkodnmkojpaaGreat
open Go Go.Eng
theorem GP:al Tryz.prog 22=true:=by kernel_rfl
theorem PW:al Tryz.prog 59=true:=by kernel_rfl
theorem uJ:al Tryz.prog 8=true:=by kernel_rfl
theorem CW:al Tryz.prog 40=true:=by kernel_rfl
theorem Qi {H H':Hp} {u:AC} {us:List Pr} {q:Nat} {t:TypeId} {a b:AC} (h:SlP H u us) (hq:H.get q=some (.arr [.o (.str []),.o .nilS] t 0 0)) (hf:Fr (fun k=>k=q) H H') (hq':H'.get q=some (.arr [a,b] t 0 0)):SlP H' u us:=by
 obtain ⟨h1,h2⟩:=h
 refine ⟨h1,?_⟩
 rcases h2 with h2|⟨id,g,off,e,hid,cells,hr,hl,hc⟩
 ·exact .inl h2
 ·refine .inr ⟨id,g,off,e,Nat.lt_of_lt_of_le hid hf.nx,?_⟩
  by_cases heq:id=q
  ·subst heq
   rw[hq] at hr
   have hg:cells=[.o (.str []),.o .nilS]∧g=0:=by
    by_cases hgg:0≤g∧g≤0
    ·rw[bm hgg.1 hgg.2] at hr;exact ⟨(Option.some.inj hr).symm,by omega⟩
    ·have e:rowOf (some (.arr [.o (.str []),.o .nilS] t 0 0)) g=none:=if_neg hgg
     rw[e] at hr;cases hr
   obtain ⟨rfl,rfl⟩:=hg
   cases us with
   | nil=>exact ⟨[a,b],by rw[hq'];exact bm (Nat.le_refl _) (Nat.le_refl _),hl,by rw[List.length_nil,Nat.zero_mul,List.take_zero];rfl⟩
   | cons x l=>
    exfalso
    simp only[List.length_cons,List.length_nil] at hl
    have ho:off=0:=by omega
    have hll:l=[]:=List.eq_nil_of_length_eq_zero (by omega)
    subst ho
    subst hll
    have:([AC.o (.str []),.o .nilS]:List AC)=prC x:=by
     have e:([x].flatMap prC)=prC x:=by rw[List.flatMap_cons,List.flatMap_nil,List.append_nil]
     rw[e] at hc;exact hc
    exact absurd (List.cons.inj (List.cons.inj this).2).1 (by intro h;cases h)
  ·exact ⟨cells,by rw[hf.get _ hid heq];exact hr,hl,hc⟩
theorem Mn (H:Hp) (k a b:AC) (ls:List Lad) (lc:List Cl) (x:Int) (y:Cl) (hk:RBk H k ls) (hL1:∀ x∈ls,x.2.length≤1000000) (hL2:ls.length≤1000000) (ha:gP H a lc) (hb:ltV (.one b) H.nx) (hx0:0≤x) (hx1:x<lc.length) (hy:lc[x.toNat]?=some y):
  Con E2 59 [.one k,.agg [a,b],.one (.i .i64 x)] H (fun _=>False) fun r H'=>∃ u,r=.agg [.o (.str (aT (some ls) y.2.2.1).1),u]∧SlP H' u (aT (some ls) y.2.2.1).2:=by
 refine Con.of rfl fun lg=>?_
 have hk:RBk ⟨H.t,H.nx,lg⟩ k ls:=hk
 have ha:gP ⟨H.t,H.nx,lg⟩ a lc:=ha
 have hb:ltV (.one b) (⟨H.t,H.nx,lg⟩:Hp).nx:=hb
 generalize (⟨H.t,H.nx,lg⟩:Hp)=H at hk ha hb ⊢
 refine C1.body (E:=E2) (nt:=21) (res:=[.cell 6 97]) Tryz.func59 rfl rfl rfl rfl rfl fun tm hargs=>?_
 have h0:=hargs 0 _ rfl
 have h1:=hargs 1 _ rfl
 have h2:=hargs 2 _ rfl
 clear hargs
 have l2:=ha.lt
 have hk0:ltV (.one k) H.nx:=by
  obtain ⟨kb,lad,rfl,h,_⟩:=hk
  exact fun i hi=>(by rw[List.mem_singleton.1 hi];exact h)
 refine zG tyF fun K hK=>?_
 refine hK.out _ _ ?_
 refine R1.gen (fun A1 H1=>Gr H H1∧H.nx+1<H1.nx∧H1.get H.nx=some (.arr [a,b] 37 0 0)∧H1.get (H.nx+1)=some (.arr [.o (.str []),.o .nilS] 97 0 0)∧slot A1.tm 0=.one (k)∧slot A1.tm 2=.one (.i .i64 (x:Int))∧slot A1.tm 4=.one ((.o (.ptr H.nx 0 0 2)))∧slot A1.tm 6=.one ((.o (.ptr (H.nx+1) 0 0 2)))∧A1.nt=21∧A1.dfr=[])
  ⟨((Fr.refl _).new _).new _,by show H.nx+1<H.nx+1+1;omega,by rw[aN (by show H.nx<H.nx+1;omega)];exact an rfl,an rfl,zL⟩ ?_
 clear h0 h1 h2 tm hK K l2 hk0
 rintro A1 H1 ⟨g1,n1,r1,r2,t0,t2,t4,t6,hnt,hdf⟩
 have n0:H.nx<H1.nx:=by omega
 obtain ⟨N,hN⟩:∃ N,N=H.nx:=⟨_,rfl⟩
 rw[←hN] at n0 n1 r1 r2 t4 t6
 have hNH:H.nx≤N:=by omega
 clear hN
 have hk0:=hk
 have hk:=hk.gr g1
 have ha:=ha.gr g1
 obtain ⟨id,g,off,cells,rfl,hid,hgr,hat⟩:=ha.open (by omega)
 obtain ⟨p,q,hx⟩:=hat x.toNat y hy
 have y1:=hx.f3
 have y2:=hx.le3
 clear hat hx hy
 refine zG (qA tyF (qA (ixI hx0 hx1) CW)) fun K hK=>?_
 refine WE.con (sc H1 k ls y.2.2.1 hk hL1 hL2) fun w H2 g2 ⟨c,hw,hc1,hcl⟩=>?_
 subst hw
 have r1:=(g2.get _ n0 not_false).trans r1
 have n0:=Nat.lt_of_lt_of_le n0 g2.nx
 have r2:=(g2.get _ n1 not_false).trans r2
 have n1:=Nat.lt_of_lt_of_le n1 g2.nx
 obtain ⟨u,rfl,hu⟩:=hc1.of
 have l2:=hu.lt
 clear hcl
 refine zK tyF ?_
 have fin:∀ (A:ab) (o:aO) (H3:Hp),H3=((H2.new o).mod H2.nx (.arr [.o (.str (aT (some ls) y.2.2.1).1),u] 97 0 0)).mod (N+1) (.arr [.o (.str (aT (some ls) y.2.2.1).1),u] 97 0 0)→slot A.tm 6=.one (.o (.ptr (N+1) 0 0 2))→A.dfr=[]→∃ w H4,ao E2 [.cell 6 97] (.ret,A,H3)=.ok [(w,H4)]∧Gr H H4∧∀ lg':List Nat,∃ u,w=.agg [.o (.str (aT (some ls) y.2.2.1).1),u]∧SlP ⟨H4.t,H4.nx,lg'⟩ u (aT (some ls) y.2.2.1).2:=fun A o H3 h0 h1 h2=>by
  subst h0
  have hs:SlP (((H2.new o).mod H2.nx (.arr [.o (.str (aT (some ls) y.2.2.1).1),u] 97 0 0)).mod (N+1) (.arr [.o (.str (aT (some ls) y.2.2.1).1),u] 97 0 0)) u (aT (some ls) y.2.2.1).2:=Qi (q:=N+1) hu r2 ((((Fr.refl H2).new o).mod _ (.inl (Nat.le_refl _))).mod _ (.inr rfl)) (ai rfl)
  refine ⟨_,_,cG (id:=N+1) (g:=0) bP (.inr rfl) (by rw[h2];rfl) h1 (by rw[ai rfl];exact bm (Nat.le_refl _) (Nat.le_refl _)) (Nat.le_refl _) rfl,(((g1.gr g2).new _).mod _ (.inl (by have:=g2.nx;have:=g1.nx;omega))).mod _ (.inl (by omega)),fun _=>⟨u,rfl,?_⟩⟩
  exact hs
 exact fin _ _ _ rfl zL qe
theorem BR (H:Hp) (k gv v w:AC) (o:Option (List Lad)) (gs:List Gd) (nm:List UInt8) (cs:List Cs) (vs:List Int) (hk:pP H k o) (hbl:∀ ls,o=some ls→(∀ x∈ls,x.2.length≤1000000)∧ls.length≤1000000) (hg:SlG H gv gs) (hv:bX H v cs) (hB:TbB cs) (hO:∀ x∈gs,x.2.2.length≤4611686018427387904) (hw:SlI H w vs) (hV:vs.length≤4611686018427387904):
  Con E2 22 [.one k,.one gv,.agg [.o (.str nm),v],.one w] H (fun _=>False) fun r H'=>∃ v',r=.tup [(true,[.o (.str (lf o gs (nm,cs) vs).1.1),v']),(false,[.i .i64 (lf o gs (nm,cs) vs).2])]∧bX H' v' (lf o gs (nm,cs) vs).1.2:=by
 refine Con.of rfl fun lg=>?_
 have hk:pP ⟨H.t,H.nx,lg⟩ k o:=by cases o <;> exact hk
 have hg:SlG ⟨H.t,H.nx,lg⟩ gv gs:=hg
 have hv:bX ⟨H.t,H.nx,lg⟩ v cs:=hv
 have hw:SlI ⟨H.t,H.nx,lg⟩ w vs:=hw
 generalize (⟨H.t,H.nx,lg⟩:Hp)=H at hk hg hv hw ⊢
 refine C1.body (E:=E2) (nt:=94) (res:=[.cell 8 26,.tmp 9]) Tryz.func22 rfl rfl rfl rfl rfl fun tm hargs=>?_
 have h0:=hargs 0 _ rfl
 have h1:=hargs 1 _ rfl
 have h2:=hargs 2 _ rfl
 have h3:=hargs 3 _ rfl
 clear hargs
 have hl:cs.length*120≤140737488355328:=hB.c
 generalize hr0:lf o gs (nm,cs) vs=r0
 have fin:∀ (s:List UInt8) (v':AC) (e:Int) (A:ab) (H9:Hp) (M:Nat),slot A.tm 8=.one (.o (.ptr M 0 0 2))→slot A.tm 9=.one (.i .i64 e)→closeAll H9 A.dfr=some H9→H9.get M=some (.arr [.o (.str s),v'] 26 0 0)→Gr H H9→bX H9 v' r0.1.2→s=r0.1.1→e=r0.2 →
   ∃ w H4,ao E2 [.cell 8 26,.tmp 9] (.ret,A,H9)=.ok [(w,H4)]∧Gr H H4∧∀ lg:List Nat,∃ v',w=.tup [(true,[.o (.str r0.1.1),v']),(false,[.i .i64 r0.2])]∧bX ⟨H4.t,H4.nx,lg⟩ v' r0.1.2:=fun s v' e A H9 M s8 s9 hd r1 hgr h1 hs he=>
  ⟨_,H9,cE (.inr rfl) hd (fw iP s8 (by rw[r1];exact qq) (Nat.le_refl _) rfl (kS s9 lL)),hgr,fun lg=>⟨v',by rw[←hs,←he];rfl,h1⟩⟩
 have bad:∀ (e:Int) (H9:Hp),((([],[]):Tb),e)=r0→bX H9 (.o .nilS) r0.1.2∧([]:List UInt8)=r0.1.1∧e=r0.2:=fun e H9 h=>by
  rw[←h]
  exact ⟨⟨[],⟨rfl,.inl ⟨rfl,rfl⟩⟩,trivial⟩,rfl,rfl⟩
 unfold lf at hr0
 have lv:=hv.lt
 replace hr0:Hd _:=hr0
 refine zG tyF fun K hK=>?_
 refine hK.out _ _ ?_
 refine R1.gen (fun A1 H1=>Gr H H1∧H.nx+1<H1.nx∧H1.get H.nx=some (.arr [.o (.str nm),v] 26 0 0)∧H1.get (H.nx+1)=some (.arr [.o (.str []),.o .nilS] 26 0 0)∧slot A1.tm 0=.one (k)∧slot A1.tm 1=.one (gv)∧slot A1.tm 3=.one (w)∧slot A1.tm 6=.one ((.o (.ptr H.nx 0 0 2)))∧slot A1.tm 8=.one ((.o (.ptr (H.nx+1) 0 0 2)))∧A1.nt=94∧A1.dfr=[])
  ⟨((Fr.refl _).new _).new _,by show H.nx+1<H.nx+1+1;omega,by rw[aN (by show H.nx<H.nx+1;omega)];exact an rfl,an rfl,zL⟩ ?_
 clear h0 h1 h2 h3 tm hK K lv
 rintro A1 H1 ⟨g1,n1,r0',r1,t0,t1,t3,t6,t8,hnt,hdf⟩
 obtain ⟨N,hN⟩:∃ N,N=H.nx:=⟨_,rfl⟩
 rw[←hN] at n1 r0' r1 t6 t8
 have hNl:H.nx≤N:=Nat.le_of_eq hN.symm
 clear hN
 have n0:N<H1.nx:=by omega
 have hk1:=hk.gr g1
 have hg1:=hg.gr g1
 have hv1:=hv.gr g1
 refine zG (qA tyF No) fun K hK=>?_
 refine WE.con (HF H1 k gv v o gs nm cs hk1 hbl hg1 hv1 hB hO) fun w2 H2 g2 ⟨a,b,hq2,ha,hb⟩=>?_
 subst hq2
 have r0':=(g2.get _ n0 not_false).trans r0'
 have n0:=Nat.lt_of_lt_of_le n0 g2.nx
 have r1:=(g2.get _ n1 not_false).trans r1
 have n1:=Nat.lt_of_lt_of_le n1 g2.nx
 have g2:=g1.gr g2
 have la:=ha.lt
 have lb:=hb.lt
 have hbc:=@tH o gs (nm,cs)
 have hrow:=hr0.out
 clear hr0 g1 hk1 hg1 hv1
 by_cases c1:gV o gs (nm,cs)=0
 case neg=>
  rw[if_pos c1] at hrow
  obtain ⟨b1,b2,b3⟩:=bad (gV o gs (nm,cs)) (((H2.new (.arr [.o .nilS,.o .nilS] 37 0 0)).mod H2.nx (.arr [a,b] 37 0 0)).mod (N+1) (.arr [.o (.str []),.o .nilS] 26 0 0)) hrow
  have e1:(gV o gs (nm,cs)==0)=false:=beq_false_of_ne c1
  have g9:Gr H (((H2.new (.arr [.o .nilS,.o .nilS] 37 0 0)).mod H2.nx (.arr [a,b] 37 0 0)).mod (N+1) (.arr [.o (.str []),.o .nilS] 26 0 0)):=((g2.new _).mod _ (.inl (by have:=g2.nx;omega))).mod _ (.inl (by omega))
  replace b1:Hd _:=b1
  replace b2:Hd _:=b2
  replace b3:Hd _:=b3
  replace g9:Hd _:=g9
  clear hrow c1 bad hbc ha hb
  refine zK tyF ?_
  exact fin [] (.o .nilS) _ _ _ (N+1) (by simp only[aa,Nat.reduceEqDiff,reduceIte,t8]) qp (by simp only[ag,hdf];rfl) (ai rfl) g9.out b1.out b2.out b3.out
 rw[if_neg (fun h=>h c1)] at hrow
 obtain ⟨hbc,hlc⟩:=hbc c1
 rw[c1]
 generalize (iO o gs (nm,cs)).1=lc at hbc hlc hrow ha
 generalize (iO o gs (nm,cs)).2=lr at hb
 obtain ⟨ls,rfl⟩:∃ ls,o=some ls:=by
  cases o with
  | none=>exact absurd c1 (by rw[MR];decide)
  | some ls=>exact ⟨ls,rfl⟩
 clear c1
 replace hrow:Hd _:=hrow
 replace hbc:Hd _:=hbc
 refine zK tyF ?_
 refine R1.gen (fun A3 H3=>Gr H2 H3∧H2.nx<H3.nx∧H3.get H2.nx=some (.arr [a,b] 37 0 0)∧slot A3.tm 0=.one (k)∧slot A3.tm 3=.one (w)∧slot A3.tm 6=.one ((.o (.ptr N 0 0 2)))∧slot A3.tm 8=.one ((.o (.ptr (N+1) 0 0 2)))∧slot A3.tm 10=.one ((.o (.ptr H2.nx 0 0 2)))∧A3.nt=94∧A3.dfr=[])
  ⟨((Fr.refl _).new _).mod _ (.inl (Nat.le_refl _)),Nat.lt_succ_self _,ai rfl,zL⟩ ?_
 clear t0 t1 t3 t6 t8 hnt hdf A1 la lb
 rintro A3 H3 ⟨g3,mP,rP,t0,t3,t6,t8,t10,hnt,hdf⟩
 obtain ⟨P,hP⟩:∃ P,P=H2.nx:=⟨_,rfl⟩
 have hNP:N+1<P:=by omega
 rw[←hP] at mP rP t10
 clear hP
 have r0':=(g3.get _ n0 not_false).trans r0'
 have n0:=Nat.lt_of_lt_of_le n0 g3.nx
 have r1:=(g3.get _ n1 not_false).trans r1
 have n1:=Nat.lt_of_lt_of_le n1 g3.nx
 have ha3:=ha.gr g3
 have hb3:=hb.gr g3
 have g3:=g2.gr g3
 have hw3:=hw.gr g3
 clear g2 ha hb
 refine zG (qA tyF AQ) fun K hK=>?_
 refine WE.con (vZ H3 a b w lc vs ha3 hw3 hV) fun w4 H4 g4 hq4=>?_
 subst hq4
 have r0':=(g4.get _ n0 not_false).trans r0'
 have n0:=Nat.lt_of_lt_of_le n0 g4.nx
 have r1:=(g4.get _ n1 not_false).trans r1
 have n1:=Nat.lt_of_lt_of_le n1 g4.nx
 have rP:=(g4.get _ mP not_false).trans rP
 have mP:=Nat.lt_of_lt_of_le mP g4.nx
 have ha4:=ha3.gr g4
 have hb4:=hb3.gr g4
 have g4:=g3.gr g4
 clear g3 ha3 hb3 hw3
 cases hvb:nW lc vs with
 | false=>
  have hr1:=hrow.out
  rw[if_pos hvb] at hr1
  obtain ⟨b1,b2,b3⟩:=bad 54 (H4.mod (N+1) (.arr [.o (.str []),.o .nilS] 26 0 0)) hr1
  have g9:Gr H (H4.mod (N+1) (.arr [.o (.str []),.o .nilS] 26 0 0)):=g4.mod _ (.inl (by omega))
  replace b1:Hd _:=b1
  replace b2:Hd _:=b2
  replace b3:Hd _:=b3
  clear hr1 hrow bad hbc hvb
  refine zK tyF ?_
  exact fin [] (.o .nilS) 54 _ _ (N+1) (by simp only[aa,Nat.reduceEqDiff,reduceIte,t8]) qp (by simp only[ag,hdf];rfl) (ai rfl) g9 b1.out b2.out b3.out
 | true=>
 have hr1:=hrow.out
 rw[if_neg (by rw[hvb];decide)] at hr1
 have hvl:=Hj hvb
 have hv4:=hv.gr g4
 have lv:=hv4.lt
 have r14:=r1
 have n14:=n1
 have rP4:=rP
 have mP4:=mP
 obtain ⟨hbl1,hbl2⟩:=hbl _ rfl
 have hk4:RBk H4 k ls:=hk.gr g4
 clear hrow hvb
 replace hvl:Hd _:=hvl
 generalize hr9:lj (some ls) lc vs cs=r9 at hr1
 have hr1:(if r9.2≠0 then (([],[]),r9.2) else ((nm,r9.1),0))=r0:=hr1
 replace hr1:Hd _:=hr1
 replace hr9:Hd _:=hr9
 refine zK tyF ?_
 refine zG (qA tyF uJ) fun K hK=>?_
 refine WE.con (rE H4 nm v cs hv4 hB) fun w5 H5 g5 ⟨va,q,hq5,hoa⟩=>?_
 subst hq5
 clear lv
 have r0':=(g5.get _ n0 not_false).trans r0'
 have n0:=Nat.lt_of_lt_of_le n0 g5.nx
 have r1:=(g5.get _ n1 not_false).trans r1
 have n1:=Nat.lt_of_lt_of_le n1 g5.nx
 have rP:=(g5.get _ mP not_false).trans rP
 have mP:=Nat.lt_of_lt_of_le mP g5.nx
 have la:=hoa.lt
 have n45:=g5.nx
 have g5':Gr H4 H5:=g5
 refine zK tyF ?_
 refine R1.gen (fun A6 H6=>Gr H5 H6∧H5.nx<H6.nx∧H6.get H5.nx=some (.arr [.o (.str nm),va] 26 0 0)∧slot A6.tm 0=.one (k)∧slot A6.tm 3=.one (w)∧slot A6.tm 8=.one ((.o (.ptr (N+1) 0 0 2)))∧slot A6.tm 10=.one ((.o (.ptr P 0 0 2)))∧slot A6.tm 12=.one ((.o (.ptr H5.nx 0 0 2)))∧slot A6.tm 13=.one ((.i .i64 0))∧A6.nt=94∧A6.dfr=[])
  ⟨((Fr.refl _).new _).mod _ (.inl (Nat.le_refl _)),Nat.lt_succ_self _,ai rfl,zL⟩ ?_
 clear t0 t3 t6 t8 t10 hnt hdf A3 la
 rintro A6 H6 ⟨g6,mT,rT,t0,t3,t8,t10,t12,t13,hnt,hdf⟩
 obtain ⟨T,hT⟩:∃ T,T=H5.nx:=⟨_,rfl⟩
 have hT5:H5.nx≤T:=by omega
 rw[←hT] at mT rT t12
 clear hT
 have ho6:aY CsR 8 69 (fun j=>j<H4.nx∨j=T) H6 va cs q:=((hoa.OW bB).less (X':=fun j=>j<H4.nx∨j=T) fun j h=>h.elim .inl fun h=>.inr (by omega)).gr bG bB g6
 obtain ⟨B,hB4⟩:∃ B,B=H4.nx:=⟨_,rfl⟩
 rw[←hB4] at ho6
 have hBT:B≤T:=by omega
 have hPB:P<B:=by omega
 have hBH:H.nx≤B:=by omega
 have g46:Gr H4 H6:=g5'.gr g6
 have hBl:B≤H4.nx:=by omega
 have hBg:H4.nx≤B:=by omega
 clear g5 g5' g6 hoa n45 hB4
 replace ho6:Hd _:=ho6
 refine R1.cq fun K k1 k2 k3 k4=>?_
 refine R1.loop (fun z A H7=>∃ (i:Nat) (ds:List Cs),z=lc.length - i∧i≤lc.length∧ds.length=cs.length∧Gr H4 H7∧T<H7.nx∧H7.get T=some (.arr [.o (.str nm),va] 26 0 0)∧Hd (aY CsR 8 69 (fun j=>j<B∨j=T) H7 va ds q)∧Hd (lj (some ls) (lc.drop i) (vs.drop i) ds=r9) ∧
   slot A.tm 0=.one (k)∧slot A.tm 3=.one (w)∧slot A.tm 8=.one ((.o (.ptr (N+1) 0 0 2)))∧slot A.tm 10=.one ((.o (.ptr P 0 0 2)))∧slot A.tm 12=.one ((.o (.ptr T 0 0 2)))∧slot A.tm 13=.one (.i .i64 (i:Int))∧A.nt=94∧A.dfr=[]) ?_ lc.length
  ⟨0,cs,rfl,Nat.zero_le _,rfl,g46,mT,rT,ho6,hr9,zL⟩
 clear t0 t3 t8 t10 t12 t13 hnt hdf A6 k3 g46 mT rT ho6 hr9
 rintro z A H7 ⟨i,ds,rfl,hi,hds,g7,mT,rT,ho,hr,t0,t3,t8,t10,t12,t13,hnt,hdf⟩
 have ha7:=ha4.gr g7
 have l1:=ha7.len
 have l2:=ha7.lt
 have rP7:=(g7.get _ mP4 not_false).trans rP4
 have mP7:=Nat.lt_of_lt_of_le mP4 g7.nx
 refine zW tyF ?_
 refine zI tyF (fun hc=>?_) (fun hc=>?_)
 ·have hlt:i<lc.length:=by omega
  have ex:lc[i]?=some lc[i]:=List.getElem?_eq_getElem hlt
  have hdr:lc.drop i=lc[i]::lc.drop (i+1):=List.drop_eq_getElem_cons hlt
  have htk:lc.take (i+1)=lc.take i++[lc[i]]:=List.take_succ_eq_append_getElem hlt
  have hmem:lc[i]∈lc:=List.getElem_mem hlt
  generalize lc[i]=x at ex hdr htk hmem
  have hw2:IntKind.i64.wrap ((i:Int)+1)=((i+1:Nat):Int):=by rw[aX (by omega) (by omega)];omega
  obtain ⟨y,ey⟩:∃ y,vs[i]?=some y:=⟨_,List.getElem?_eq_getElem (by rw[hvl.out];exact hlt)⟩
  have hltv:i<vs.length:=(List.getElem?_eq_some_iff.1 ey).1
  have hdv:vs.drop i=y::vs.drop (i+1):=by
   rw[List.drop_eq_getElem_cons hltv]
   have h1:=(List.getElem?_eq_some_iff.1 ey).2
   rw[h1]
  have hr1':=hr.out
  rw[hdr,hdv,qL] at hr1'
  obtain ⟨⟨j,hxj,hj⟩,hxl,_⟩:=hbc.out x hmem
  have hj:j<cs.length:=hj
  have lb7:ltV (.one b) H7.nx:=(hb4.gr g7).lt
  have hcon:=Mn H7 k a b ls lc (i:Int) x (hk4.gr g7) hbl1 hbl2 ha7 lb7 (by omega) (by omega) (by rw[Int.toNat_natCast];exact ex)
  replace hcon:Hd (Con E2 _ _ _ _ _):=hcon
  obtain ⟨id,g,off,cells,rfl,hid,hgr,hat⟩:=ha7.open (by omega)
  obtain ⟨p,q',hx⟩:=hat i x ex
  have y3:=hx.f1
  have y4:=hx.le1
  have y5:=hx.f4
  have y6:=hx.le4
  have hp7:=hx.of1
  have hq7:=hx.of2
  clear hx hat hdr hdv ex hmem htk hr l1
  replace hr1':Hd _:=hr1'
  replace hxj:Hd _:=hxj
  refine zW tyF ?_
  refine R1.cq fun K2 p1 p2 p3 p4=>?_
  have go:Hd (∀ (ds':List Cs) (A:ab) (H5:Hp),slot A.tm 0=.one (k)∧slot A.tm 3=.one (w)∧slot A.tm 8=.one ((.o (.ptr (N+1) 0 0 2)))∧slot A.tm 10=.one ((.o (.ptr P 0 0 2)))∧slot A.tm 12=.one ((.o (.ptr T 0 0 2)))∧slot A.tm 13=.one (.i .i64 (i:Int))∧A.nt=94∧A.dfr=[]→ds'.length=cs.length→Gr H4 H5→T<H5.nx→H5.get T=some (.arr [.o (.str nm),va] 26 0 0)→aY CsR 8 69 (fun j=>j<B∨j=T) H5 va ds' q→lj (some ls) (lc.drop (i+1)) (vs.drop (i+1)) ds'=r9→K2 (.exit 1) A H5∧K2 .normal A H5):=by
   clear t0 t3 t8 t10 t12 t13 hnt hdf hr1' rT mT A hcon hp7 hq7 g7 rP7 mP7 hgr hid l2 ho lb7 hc
   rintro ds' A H5 ⟨t0,t3,t8,t10,t12,t13,hnt,hdf⟩ hdl g5 mT rT ho5 hr3
   replace hr3:Hd _:=hr3
   replace ho5:Hd _:=ho5
   constructor
   ·refine p2.out _ _ ?_
    refine zW tyF ?_
    exact ⟨lc.length - (i+1),by omega,i+1,ds',rfl,hlt,hdl,g5,mT,rT,ho5,hr3,zL⟩
   ·refine p1.out _ _ ?_
    refine zW tyF ?_
    exact ⟨lc.length - (i+1),by omega,i+1,ds',rfl,hlt,hdl,g5,mT,rT,ho5,hr3,zL⟩
  refine zG (qA tyF PW) fun K3 hK3=>?_
  refine WE.con hcon.out fun w8 H8 g8 ⟨u,hq8,hu⟩=>?_
  subst hq8
  have ho8:=ho.out.gr bG bB g8
  have rT:=(g8.get _ mT not_false).trans rT
  have mT:=Nat.lt_of_lt_of_le mT g8.nx
  have rP7:=(g8.get _ mP7 not_false).trans rP7
  have mP7:=Nat.lt_of_lt_of_le mP7 g8.nx
  have g78:=g7.gr g8
  have hid8:=Nat.lt_of_lt_of_le hid g8.nx
  have hgr8:rowOf (H8.get id) g=some cells:=by rw[g8.get _ hid not_false];exact hgr
  have hp8:=hp7.gr g8
  have hq8:=hq7.gr g8
  have lu:=hu.lt
  clear hcon ho g7 hid hgr hp7 hq7 g8 l2 lb7
  replace ho8:Hd _:=ho8
  refine zE tyF ?_
  refine R1.gen (fun A9 H9=>Gr H8 H9∧H8.nx<H9.nx∧H9.get H8.nx=some (.arr [.o (.str (aT (some ls) x.2.2.1).1),u] 97 0 0)∧slot A9.tm 0=.one (k)∧slot A9.tm 3=.one (w)∧slot A9.tm 8=.one ((.o (.ptr (N+1) 0 0 2)))∧slot A9.tm 10=.one ((.o (.ptr P 0 0 2)))∧slot A9.tm 12=.one ((.o (.ptr T 0 0 2)))∧slot A9.tm 13=.one (.i .i64 (i:Int))∧slot A9.tm 14=.one ((.o (.ptr H8.nx 0 0 2)))∧A9.nt=94∧A9.dfr=[])
   ⟨((Fr.refl _).new _).mod _ (.inl (Nat.le_refl _)),Nat.lt_succ_self _,ai rfl,zL⟩ ?_
  clear t0 t3 t8 t10 t12 t13 hnt hdf A lu hK3 K3
  rintro A9 H9 ⟨g9,mL,rL,t0,t3,t8,t10,t12,t13,t14,hnt,hdf⟩
  obtain ⟨L,hL2⟩:∃ L,L=H8.nx:=⟨_,rfl⟩
  rw[←hL2] at mL rL t14
  clear hL2
  have ho9:=ho8.out.gr bG bB g9
  have rT:=(g9.get _ mT not_false).trans rT
  have mT:=Nat.lt_of_lt_of_le mT g9.nx
  have rP7:=(g9.get _ mP7 not_false).trans rP7
  have mP7:=Nat.lt_of_lt_of_le mP7 g9.nx
  have g79:=g78.gr g9
  have hid9:=Nat.lt_of_lt_of_le hid8 g9.nx
  have hgr9:rowOf (H9.get id) g=some cells:=by rw[g9.get _ hid8 not_false];exact hgr8
  have hu9:=hu.gr g9
  clear ho8 g78 hid8 hgr8 hu
  replace ho9:Hd _:=ho9
  refine zG (qA tyF (qA (ixC hlt) FJ)) fun K3 hK3=>?_
  refine WE.con (BT H9 (aT (some ls) x.2.2.1).1 u p q' (aT (some ls) x.2.2.1).2 x.2.2.2 hu9 (hp8.gr g9) (hq8.gr g9)) fun w10 H10 g10 hq10=>?_
  subst hq10
  have ho10:=ho9.out.gr bG bB g10
  have rT:=(g10.get _ mT not_false).trans rT
  have mT:=Nat.lt_of_lt_of_le mT g10.nx
  have rP7:=(g10.get _ mP7 not_false).trans rP7
  have mP7:=Nat.lt_of_lt_of_le mP7 g10.nx
  have rL:=(g10.get _ mL not_false).trans rL
  have mL:=Nat.lt_of_lt_of_le mL g10.nx
  have g710:=g79.gr g10
  have hid10:=Nat.lt_of_lt_of_le hid9 g10.nx
  have hgr10:rowOf (H10.get id) g=some cells:=by rw[g10.get _ hid9 not_false];exact hgr9
  have hu10:=hu9.gr g10
  have hw10:=(hw.gr g4).gr g710
  clear ho9 g79 hid9 hgr9 hu9 g9 g10 hp8 hq8
  replace ho10:Hd _:=ho10
  obtain ⟨wid,wg,woff,wcells,rfl,hwid,hwgr,hwat⟩:=hw10.open (by omega)
  obtain ⟨y1,y2⟩:=hwat i y ey
  rw[Nat.mul_one] at y1 y2
  clear hwat hw10
  have hok:okV (some ls) x y=(decide ((dA (aT (some ls) x.2.2.1).1 (aT (some ls) x.2.2.1).2 x.2.2.2).2=0)&&decide ((dA (aT (some ls) x.2.2.1).1 (aT (some ls) x.2.2.1).2 x.2.2.2).1=y)):=rfl
  generalize hrn:dA (aT (some ls) x.2.2.1).1 (aT (some ls) x.2.2.1).2 x.2.2.2=rn at hok ⊢
  clear hrn
  replace hok:Hd _:=hok
  refine zE tyF ?_
  repeat refine R1.aw ?_
  refine R1.s_h (by kernel_rfl) fun K6 hK6=>?_
  have key:Hd (∀ (A:ab),slot A.tm 0=.one (k)∧slot A.tm 3=.one ((.o (.sl wid wg woff vs.length 1)))∧slot A.tm 8=.one ((.o (.ptr (N+1) 0 0 2)))∧slot A.tm 10=.one ((.o (.ptr P 0 0 2)))∧slot A.tm 12=.one ((.o (.ptr T 0 0 2)))∧slot A.tm 13=.one (.i .i64 (i:Int))∧slot A.tm 14=.one ((.o (.ptr L 0 0 2)))∧slot A.tm 68=.one ((.b (okV (some ls) x y)))∧A.nt=94∧A.dfr=[]→K6 A H10):=by
   clear t0 t3 t8 t10 t12 t13 t14 hnt hdf A9 hok
   rintro A ⟨t0,t3,t8,t10,t12,t13,t14,t68,hnt,hdf⟩
   refine hK6.out _ _ ?_
   clear hK6 K6
   cases hokb:okV (some ls) x y with
   | true=>
    have hr2:=hr1'.out
    rw[if_pos hokb] at hr2
    rw[hokb] at t68
    clear hr1' hokb
    replace hr2:Hd _:=hr2
    refine zW tyF ?_
    exact (go.out ds _ _ zL hds g710 mT rT ho10.out hr2.out).1
   | false=>
   have hr2:=hr1'.out
   rw[if_neg (by rw[hokb];decide)] at hr2
   rw[hokb] at t68
   clear hr1' hokb
   replace hr2:Hd _:=hr2
   refine zW tyF ?_
   have hB11:B≤H10.nx:=by have:=g710.nx;omega
   generalize hwr:kJ (aT (some ls) x.2.2.1).1 (aT (some ls) x.2.2.1).2 y=wr at hr2
   replace hwr:Hd _:=hwr
   repeat refine R1.aw ?_
   repeat refine R1.aw ?_
   (first|refine R1.kY (ms:=[0,0,0,6,14,31,63,127,127,0,767,2047]) (by kernel_rfl) (by kernel_rfl) fun K hK=>?_|refine R1.e_drw (ms:=[0,0,0,6,14,31,63,127,127,0,767,2047]) (by kernel_rfl) (by kernel_rfl) fun K hK=>?_)
   simp (config:={decide:=true}) only [qB,au,Nat.reduceLT,Nat.reduceAdd,qD,bw,aM,ad,t3,t13,t14,hnt,rL,mL,bP,cj,dZ,cX hltv,Nat.mul_one,hwid,hwgr,y1,y2,Nl]
   refine ga (fun r H'=>∃ a',r=.tup [(true,[a',.o .nilS]),(false,[.i .i64 wr.2])]∧aD H' a' wr.1∧∀ id∈(AV.one a').ids,H10.nx≤id) (fun v h1 h2 hg ⟨a',e1,e2,e3⟩=>⟨a',e1,e2.gr hg,e3⟩) ?_ (fun h hg hn=>by have:=HX h (aT (some ls) x.2.2.1).1 u (aT (some ls) x.2.2.1).2 y (hu10.gr hg);rw[hn,hwr.out] at this;exact this) ?_
   ·exact unU (by simp (config:={decide:=true}) only [aM,if_true])
   rintro w12 kx H12 ⟨a',rfl,ha',hai⟩ hkx hn12 g12
   subst hn12
   simp (config:={decide:=true}) only [qB,Nat.reduceLT,Nat.reduceAdd,qD,bw,bJ,aM,hnt,lP,ow,@tA]
   refine hK _ _ ?_
   refine R1.gen (fun A13 H13=>Gr H12 H13∧H12.nx<H13.nx∧H13.get H12.nx=some (.arr [a',.o .nilS] 66 0 0)∧slot A13.tm 0=.one (k)∧slot A13.tm 3=.one ((.o (.sl wid wg woff vs.length 1)))∧slot A13.tm 8=.one ((.o (.ptr (N+1) 0 0 2)))∧slot A13.tm 10=.one ((.o (.ptr P 0 0 2)))∧slot A13.tm 12=.one ((.o (.ptr T 0 0 2)))∧slot A13.tm 13=.one (.i .i64 (i:Int))∧slot A13.tm 17=.one ((.o (.ptr H12.nx 0 0 2)))∧slot A13.tm 18=.one ((.i .i64 wr.2))∧A13.nt=94∧A13.dfr=[])
    ⟨((Fr.refl _).new _).mod _ (.inl (Nat.le_refl _)),Nat.lt_succ_self _,ai rfl,zL⟩ ?_
   clear t0 t3 t8 t10 t12 t13 t14 t68 hnt hdf A hK K hwid hwgr y1 y2 rL mL
   rintro A13 H13 ⟨g13,mU,rU,t0,t3,t8,t10,t12,t13,t17,t18,hnt,hdf⟩
   obtain ⟨U,hU⟩:∃ U,U=H12.nx:=⟨_,rfl⟩
   have hUl:H12.nx≤U:=by omega
   rw[←hU] at mU rU t17
   clear hU
   have hn12:=g12.nx
   have ha13:=ha'.gr g13
   have ho13:=(ho10.out.gr bG bB g12).gr bG bB g13
   have hip:∀ id∈(AV.one a').ids,¬(id<B∨id=T)∧some id≠q:=fun id hid=>by
    have h1:=hai id hid
    refine ⟨by omega,fun e=>?_⟩
    have:=(ho10.out.row id e.symm).2
    omega
   have hid13:id<H13.nx:=Nat.lt_of_lt_of_le hid10 (g12.gr g13).nx
   have hgr13:rowOf (H13.get id) g=some cells:=by rw[(g12.gr g13).get _ hid10 not_false];exact hgr10
   have rT:=(g12.get _ mT not_false).trans rT
   have mT:=Nat.lt_of_lt_of_le mT g12.nx
   have rP7:=(g12.get _ mP7 not_false).trans rP7
   have mP7:=Nat.lt_of_lt_of_le mP7 g12.nx
   have rT:=(g13.get _ mT not_false).trans rT
   have mT:=Nat.lt_of_lt_of_le mT g13.nx
   have rP7:=(g13.get _ mP7 not_false).trans rP7
   have mP7:=Nat.lt_of_lt_of_le mP7 g13.nx
   have g713:=(g710.gr g12).gr g13
   have nN13:N+1<H13.nx:=Nat.lt_of_lt_of_le n14 g713.nx
   have r113:=(g713.get _ n14 not_false).trans r14
   clear ho10 ha' hai g710 g12 g13 hid10 hgr10 hu10
   replace ho13:Hd _:=ho13
   replace hip:Hd _:=hip
   by_cases e0:wr.2=0
   case neg=>
    have hr3:=hr2.out
    rw[if_pos e0] at hr3
    have hr4:=hr1.out
    rw[←hr3,if_pos e0] at hr4
    obtain ⟨b1,b2,b3⟩:=bad wr.2 (H13.mod (N+1) (.arr [.o (.str []),.o .nilS] 26 0 0)) hr4
    have e1:(wr.2==0)=false:=beq_false_of_ne e0
    have g9:Gr H (H13.mod (N+1) (.arr [.o (.str []),.o .nilS] 26 0 0)):=(g4.gr g713).mod _ (.inl (by omega))
    replace b1:Hd _:=b1
    replace b2:Hd _:=b2
    replace b3:Hd _:=b3
    replace g9:Hd _:=g9
    clear hr3 hr4 hr2 hr1 bad e0 go
    refine zW tyF ?_
    exact p4.out _ _ (k4.out _ _ (fin [] (.o .nilS) wr.2 _ _ (N+1) (by simp only[aa,Nat.reduceEqDiff,reduceIte,t8]) qp (by simp only[ag,hdf];rfl) (ai rfl) g9.out b1.out b2.out b3.out))
   have hr3:=hr2.out
   rw[if_neg (fun h=>h e0),hxj.out,Int.toNat_natCast] at hr3
   rw[e0] at t18
   have hjd:j<ds.length:=by omega
   have hj2:j<cs.length:=by omega
   obtain ⟨kq,gen,lo,qcells,hva,hqq,hkq,hget,hlo,hle,hoS⟩:=aY.eM ho13.out (List.getElem?_eq_getElem hjd) (p:=a') (q:=.o .nilS) (y:=(wr.1,[])) ha13 aD.nil hip.out (fun id hid=>by cases hid)
   have hXq:=(ho13.out.row kq hqq).1
   rw[List.append_assoc] at hoS
   subst hva
   rw[hxj.out] at y3
   have hle2:j*8+4+2≤qcells.length:=by omega
   have hdl:(eM ds j (wr.1,[])).length=cs.length:=by rw[jX,hds]
   have hTk:T≠kq:=fun e=>hXq (.inr e.symm)
   have hBk:H4.nx≤kq:=by omega
   clear hr2 hr1 e0 ho13 hip bad fin hxj hle
   replace hoS:Hd _:=hoS
   replace hr3:Hd _:=hr3
   replace hXq:Hd _:=hXq
   replace hqq:Hd _:=hqq
   replace hds:Hd _:=hds
   refine zW (qA tyF (qA (ixC hlt) (ixC hjd))) ?_
   exact (go.out _ _ _ zL hdl (g713.mod _ (.inl hBk)) mT (by rw[az hTk];exact rT) hoS.out hr3.out).2
  clear hr1' go
  by_cases d1:rn.2=0
  ·have e1:(rn.2==0)=true:=beq_iff_eq.2 d1
   by_cases d2:rn.1=y
   ·have e2:(rn.1==y)=true:=beq_iff_eq.2 d2
    have hokt:Hd (okV (some ls) x y=true):=by show okV (some ls) x y=true;rw[hok.out,decide_eq_true d1,decide_eq_true d2];rfl
    clear hok d1 d2
    rw[hokt.out] at key
    refine zS (qA tyF (qA (ixC hltv) Nat.mul_one)) ?_
    exact key.out _ zL
   ·have e2:(rn.1==y)=false:=beq_false_of_ne d2
    have hokt:Hd (okV (some ls) x y=false):=by show okV (some ls) x y=false;rw[hok.out,decide_eq_false d2,Bool.and_false]
    clear hok d1 d2
    rw[hokt.out] at key
    refine zS (qA tyF (qA (ixC hltv) Nat.mul_one)) ?_
    exact key.out _ zL
  ·have e1:(rn.2==0)=false:=beq_false_of_ne d1
   have hokt:Hd (okV (some ls) x y=false):=by show okV (some ls) x y=false;rw[hok.out,decide_eq_false d1,Bool.false_and]
   clear hok d1
   rw[hokt.out] at key
   refine zS (qA tyF (qA (ixC hltv) Nat.mul_one)) ?_
   exact key.out _ zL
 ·have hie:i=lc.length:=by omega
  subst hie
  have hn:=hr.out
  rw[List.drop_length,vW] at hn
  have hn:(ds,(0:Int))=r9:=hn
  have hr3:=hr1.out
  rw[←hn,if_neg (fun h=>h rfl)] at hr3
  have r17:=(g7.get _ n14 not_false).trans r14
  have nN7:N+1<H7.nx:=Nat.lt_of_lt_of_le n14 g7.nx
  have lv:=ho.out.lt
  have ho8:=ho.out.fr bG bB (Y:=fun i=>i=N+1) (H':=H7.mod (N+1) (.arr [.o (.str nm),va] 26 0 0)) ((Fr.refl _).mod _ (.inr rfl)) fun i h=>.inl (.inl (by omega))
  have b1:bX (H7.mod (N+1) (.arr [.o (.str nm),va] 26 0 0)) va r0.1.2:=by rw[←hr3];exact ho8.slr
  have b2:nm=r0.1.1:=by rw[←hr3]
  have b3:(0:Int)=r0.2:=by rw[←hr3]
  have g9:Gr H (H7.mod (N+1) (.arr [.o (.str nm),va] 26 0 0)):=(g4.gr g7).mod _ (.inl (by omega))
  clear hn hr hr1 hr3 ho ho8 bad
  replace b1:Hd _:=b1
  replace b2:Hd _:=b2
  replace b3:Hd _:=b3
  replace g9:Hd _:=g9
  refine zW tyF ?_
  refine k2.out _ _ ?_
  refine zW tyF ?_
  exact fin nm va 0 _ _ (N+1) (by simp only[aa,Nat.reduceEqDiff,reduceIte,t8]) qp (by simp only[ag,hdf];rfl) (ai rfl) g9.out b1.out b2.out b3.out
end Go.Proofs.YtnhbkodnmkojpaaGreat
namespace Go.Proofs.YtnhbkodnmkojpaaGreat
open Go Go.Eng
theorem Bm:al Tryz.prog 91=true:=by kernel_rfl
theorem Ev:al Tryz.prog 43=true:=by kernel_rfl
theorem wG:al Tryz.prog 15=true:=by kernel_rfl
theorem wz (H:Hp) (v w:AC) (l:List Pr) (hv:SlP H v l) (hw:SlP H w l) (hL:l.length≤4611686018427387904):
  Con E2 91 [.one v,.one w] H (fun _=>False) fun r _=>r=.one (.b true):=by
 refine Con.of rfl fun lg=>?_
 have hv:SlP ⟨H.t,H.nx,lg⟩ v l:=hv
 have hw:SlP ⟨H.t,H.nx,lg⟩ w l:=hw
 generalize (⟨H.t,H.nx,lg⟩:Hp)=H at hv hw ⊢
 refine C1.body (E:=E2) (nt:=26) (res:=[.tmp 4]) Tryz.func91 rfl rfl rfl rfl rfl fun tm hargs=>?_
 have h0:=hargs 0 _ rfl
 have h1:=hargs 1 _ rfl
 clear hargs
 have l1:=hv.len
 have l2:=hw.len
 have l3:=hv.lt
 have l4:=hw.lt
 have hne:((l.length:Int)==(l.length:Int))=true:=beq_self_eq_true _
 refine zW tyF ?_
 refine R1.cq fun K k1 k2 k3 k4=>?_
 refine R1.loop (fun k A H2=>∃ i:Nat,k=l.length - i∧i≤l.length∧Gr H H2∧slot A.tm 0=.one (v)∧slot A.tm 1=.one (w)∧slot A.tm 5=.one (.i .i64 (i:Int))∧A.nt=26∧A.dfr=[]) ?_ l.length ⟨0,rfl,Nat.zero_le _,Fr.refl _,zL⟩
 clear h0 h1 tm l1 l2 l3 l4 k3
 rintro k A H2 ⟨i,rfl,hi,g2,t0,t1,t5,hnt,hdf⟩
 have hv2:=hv.gr g2
 have hw2':=hw.gr g2
 have l1:=hv2.len
 have l3:=hv2.lt
 refine zW tyF ?_
 refine zI tyF (fun hc=>?_) (fun hc=>?_)
 ·have hlt:i<l.length:=by omega
  have ex:l[i]?=some l[i]:=List.getElem?_eq_getElem hlt
  have hdr:l.drop i=l[i]::l.drop (i+1):=List.drop_eq_getElem_cons hlt
  have htk:l.take (i+1)=l.take i++[l[i]]:=List.take_succ_eq_append_getElem hlt
  have hmem:l[i]∈l:=List.getElem_mem hlt
  generalize l[i]=x at ex hdr htk hmem
  have hw2:IntKind.i64.wrap ((i:Int)+1)=((i+1:Nat):Int):=by rw[aX (by omega) (by omega)];omega
  clear hdr htk hmem l1 l3
  obtain ⟨id,g,off,cells,rfl,hid,hgr,hat⟩:=hv2.open (by omega)
  obtain ⟨id',g',off',cells',rfl,hid',hgr',hat'⟩:=hw2'.open (by omega)
  have hx1:=hat i x ex
  have hx2:=hat' i x ex
  have y1:=hx1.all
  have y2:=hx1.le
  have y3:=hx2.all
  have y4:=hx2.le
  rw[ea] at y1 y3
  obtain ⟨x1,x2⟩:=x
  have c1:(x1==x1)=true:=beq_self_eq_true _
  have c2:(x2==x2)=true:=beq_self_eq_true _
  clear hat hat' hx1 hx2 ex hne
  refine zW tyF ?_
  refine R1.cq fun K2 q1 q2 q3 q4=>?_
  repeat refine R1.aw ?_
  (first|refine R1.Te (by kernel_rfl) fun K hK=>?_|refine R1.SS (by kernel_rfl) fun K hK=>?_)
  simp only[qB,au,Nat.reduceLT,ad,t0,t1,t5,hnt,lS,Cf,cX hlt,hid,hgr,hid',hgr',y1,y2,y3,y4,yV Sx,beq_self_eq_true,Bool.and_self]
  refine hK _ _ ?_
  clear hK K
  refine qY ?_
  refine zW tyF ?_
  refine q1.out _ _ ?_
  refine zW tyF ?_
  exact ⟨l.length - (i+1),by omega,i+1,rfl,hlt,g2,zL⟩
 ·refine zW tyF ?_
  refine k2.out _ _ ?_
  refine zW tyF ?_
  exact ⟨_,_,ak (.b true) (.inr rfl) qe qp,g2,fun _=>rfl⟩
theorem Bl (H:Hp) (c:Cs) (p q w p' q' w':AC) (hp:aD H p c.num.1) (hq:aD H q c.num.2) (hw:SlP H w c.ws) (hp':aD H p' c.num.1) (hq':aD H q' c.num.2) (hw':SlP H w' c.ws) (h1':c.num.1.length≤4611686018427387904) (h2':c.num.2.length≤4611686018427387904) (h3':c.ws.length≤4611686018427387904):
  Con E2 43 [.agg (csC c p q w),.agg (csC c p' q' w')] H (fun _=>False) fun r _=>r=.one (.b true):=by
 rw[Lo,Lo]
 refine Con.of rfl fun lg=>?_
 have hp:aD ⟨H.t,H.nx,lg⟩ p c.num.1:=hp
 have hq:aD ⟨H.t,H.nx,lg⟩ q c.num.2:=hq
 have hw:SlP ⟨H.t,H.nx,lg⟩ w c.ws:=hw
 have hp':aD ⟨H.t,H.nx,lg⟩ p' c.num.1:=hp'
 have hq':aD ⟨H.t,H.nx,lg⟩ q' c.num.2:=hq'
 have hw':SlP ⟨H.t,H.nx,lg⟩ w' c.ws:=hw'
 generalize (⟨H.t,H.nx,lg⟩:Hp)=H at hp hq hw hp' hq' hw' ⊢
 refine C1.body (E:=E2) (nt:=52) (res:=[.tmp 4]) Tryz.func43 rfl rfl rfl rfl rfl fun tm hargs=>?_
 have h0:=hargs 0 _ rfl
 have h1:=hargs 1 _ rfl
 clear hargs
 obtain ⟨fc,cl,ln,kd,nu,gd,ws⟩:=c
 have lp:=hp.lt
 have lq:=hq.lt
 have lw:=hw.lt
 have lp':=hp'.lt
 have lq':=hq'.lt
 have lw':=hw'.lt
 refine zG tyF fun K hK=>?_
 refine hK.out _ _ ?_
 refine R1.gen (fun A1 H1=>Gr H H1∧H.nx+1<H1.nx∧H1.get H.nx=some (.arr [.i .i64 fc,.i .i64 cl,.i .i64 ln,.i .i64 kd,p,q,.o (.str gd),w] 69 0 0)∧H1.get (H.nx+1)=some (.arr [.i .i64 fc,.i .i64 cl,.i .i64 ln,.i .i64 kd,p',q',.o (.str gd),w'] 69 0 0)∧slot A1.tm 2=.one ((.o (.ptr H.nx 0 0 8)))∧slot A1.tm 3=.one ((.o (.ptr (H.nx+1) 0 0 8)))∧A1.nt=52∧A1.dfr=[])
  ⟨((Fr.refl _).new _).new _,by show H.nx+1<H.nx+1+1;omega,by rw[aN (by show H.nx<H.nx+1;omega)];exact an rfl,an rfl,zL⟩ ?_
 clear h0 h1 tm hK K lp lq lw lp' lq' lw'
 rintro A1 H1 ⟨g1,n1,ra,rb,t2,t3,hnt,hdf⟩
 have m1:H.nx<H1.nx:=by omega
 have hp:=hp.gr g1
 have hq:=hq.gr g1
 have hw:=hw.gr g1
 have hp':=hp'.gr g1
 have hq':=hq'.gr g1
 have hw':=hw'.gr g1
 have c1:(fc==fc)=true:=beq_self_eq_true _
 have c2:(cl==cl)=true:=beq_self_eq_true _
 have c3:(ln==ln)=true:=beq_self_eq_true _
 have c4:(kd==kd)=true:=beq_self_eq_true _
 have c5:lEq gd gd=true:=EW gd
 have c6:(gd==gd)=true:=beq_self_eq_true _
 refine zG (qA tyF Oy) fun K hK=>?_
 refine WE.con (Mq H1 p q p' q' nu hp hq hp' hq' h1' h2') fun v H2 g2 hv=>?_
 subst hv
 have ra:=(g2.get _ m1 not_false).trans ra
 have m1:=Nat.lt_of_lt_of_le m1 g2.nx
 have rb:=(g2.get _ n1 not_false).trans rb
 have n1:=Nat.lt_of_lt_of_le n1 g2.nx
 have hw:=hw.gr g2
 have hw':=hw'.gr g2
 refine zS (qA tyF Bm) ?_
 refine WE.con (wz H2 w w' ws hw hw' h3') fun v H3 g3 hv=>?_
 subst hv
 refine zK tyF ?_
 exact ⟨_,_,ak (.b true) (.inr rfl) qe qp,(g1.gr g2).gr g3,fun _=>rfl⟩
theorem uF (H:Hp) (nm:List UInt8) (v w:AC) (l:List Cs) (hv:bX H v l) (hw:bX H w l) (hB:TbB l):
  Con E2 15 [.agg [.o (.str nm),v],.agg [.o (.str nm),w]] H (fun _=>False) fun r _=>r=.one (.b true):=by
 refine Con.of rfl fun lg=>?_
 have hv:bX ⟨H.t,H.nx,lg⟩ v l:=hv
 have hw:bX ⟨H.t,H.nx,lg⟩ w l:=hw
 generalize (⟨H.t,H.nx,lg⟩:Hp)=H at hv hw ⊢
 refine C1.body (E:=E2) (nt:=39) (res:=[.tmp 4]) Tryz.func15 rfl rfl rfl rfl rfl fun tm hargs=>?_
 have h0:=hargs 0 _ rfl
 have h1:=hargs 1 _ rfl
 clear hargs
 have hl:l.length*120≤140737488355328:=hB.c
 have l3:=hv.lt
 have l4:=hw.lt
 refine zG tyF fun K hK=>?_
 refine hK.out _ _ ?_
 refine R1.gen (fun A1 H1=>Gr H H1∧H.nx+1<H1.nx∧H1.get H.nx=some (.arr [.o (.str nm),v] 26 0 0)∧H1.get (H.nx+1)=some (.arr [.o (.str nm),w] 26 0 0)∧slot A1.tm 2=.one ((.o (.ptr H.nx 0 0 2)))∧slot A1.tm 3=.one ((.o (.ptr (H.nx+1) 0 0 2)))∧A1.nt=39∧A1.dfr=[])
  ⟨((Fr.refl _).new _).new _,by show H.nx+1<H.nx+1+1;omega,by rw[aN (by show H.nx<H.nx+1;omega)];exact an rfl,an rfl,zL⟩ ?_
 clear h0 h1 tm hK K l3 l4
 rintro A1 H1 ⟨g1,n1,ra,rb,t2,t3,hnt,hdf⟩
 obtain ⟨N,hN⟩:∃ N,N=H.nx:=⟨_,rfl⟩
 rw[←hN] at n1 ra rb t2 t3
 clear hN
 have m1:N<H1.nx:=by omega
 have hv:=hv.gr g1
 have hw:=hw.gr g1
 have l1:=hv.len
 have l2:=hw.len
 have l3:=hv.lt
 have l4:=hw.lt
 have c5:lEq nm nm=true:=EW nm
 have c6:(nm==nm)=true:=beq_self_eq_true _
 have hne:((l.length:Int)==(l.length:Int))=true:=beq_self_eq_true _
 refine zW tyF ?_
 refine R1.cq fun K k1 k2 k3 k4=>?_
 refine R1.loop (fun k A H2=>∃ i:Nat,k=l.length - i∧i≤l.length∧Gr H1 H2∧slot A.tm 2=.one ((.o (.ptr N 0 0 2)))∧slot A.tm 3=.one ((.o (.ptr (N+1) 0 0 2)))∧slot A.tm 5=.one (.i .i64 (i:Int))∧A.nt=39∧A.dfr=[]) ?_ l.length ⟨0,rfl,Nat.zero_le _,Fr.refl _,zL⟩
 clear t2 t3 hnt hdf A1 l1 l2 l3 l4 k3 c5 c6 hne
 rintro k A H2 ⟨i,rfl,hi,g2,t2,t3,t5,hnt,hdf⟩
 have hv2:=hv.gr g2
 have hw2':=hw.gr g2
 have l1:=hv2.len
 have l3:=hv2.lt
 have ra2:=(g2.get _ m1 not_false).trans ra
 have rb2:=(g2.get _ n1 not_false).trans rb
 have m2:=Nat.lt_of_lt_of_le m1 g2.nx
 have n2:=Nat.lt_of_lt_of_le n1 g2.nx
 refine zW tyF ?_
 refine zI tyF (fun hc=>?_) (fun hc=>?_)
 ·have hlt:i<l.length:=by omega
  have ex:l[i]?=some l[i]:=List.getElem?_eq_getElem hlt
  have hdr:l.drop i=l[i]::l.drop (i+1):=List.drop_eq_getElem_cons hlt
  have htk:l.take (i+1)=l.take i++[l[i]]:=List.take_succ_eq_append_getElem hlt
  have hmem:l[i]∈l:=List.getElem_mem hlt
  generalize l[i]=x at ex hdr htk hmem
  have hw2:IntKind.i64.wrap ((i:Int)+1)=((i+1:Nat):Int):=by rw[aX (by omega) (by omega)];omega
  have hBn:=hB.n x hmem
  have hBw:=hB.w x hmem
  obtain ⟨id,g,off,cells,rfl,hid,hgr,hat⟩:=hv2.open (by omega)
  obtain ⟨id',g',off',cells',rfl,hid',hgr',hat'⟩:=hw2'.open (by omega)
  obtain ⟨p,q,u,hx1⟩:=hat i x ex
  obtain ⟨p',q',u',hx2⟩:=hat' i x ex
  have y1:=hx1.all
  have y2:=hx1.le
  have y3:=hx2.all
  have y4:=hx2.le
  have hcon:=Bl H2 x p q u p' q' u' hx1.of1 hx1.of2 hx1.of3 hx2.of1 hx2.of2 hx2.of3 (by omega) (by omega) (by omega)
  rw[Lo,Lo] at hcon
  replace hcon:Hd (Con E2 _ _ _ _ _):=hcon
  clear hat hat' hx1 hx2 ex hdr htk hmem l1 l3
  refine zW tyF ?_
  refine R1.cq fun K2 q1 q2 q3 q4=>?_
  refine zG (qA tyF (qA (ixC hlt) Ev)) fun K3 hK3=>?_
  refine WE.con hcon.out fun w3 H3 g3 hq3=>?_
  subst hq3
  have g13:=g2.gr g3
  clear hcon hgr hgr' hid hid' y1 y2 y3 y4 ra2 rb2
  refine zK tyF ?_
  refine q1.out _ _ ?_
  refine zW tyF ?_
  exact ⟨l.length - (i+1),by omega,i+1,rfl,hlt,g13,zL⟩
 ·refine zW tyF ?_
  refine k2.out _ _ ?_
  refine zW tyF ?_
  exact ⟨_,_,ak (.b true) (.inr rfl) qe qp,g1.gr g2,fun _=>rfl⟩
end Go.Proofs.YtnhbkodnmkojpaaGreat
