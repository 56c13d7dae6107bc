/- A part of the proof: BkCo6, BkTArg, BkCoEnd, BkCoHold. No conditions. -/
import Derived.Test.YtnhbkodnmkojpaaGreatPAr
set_option maxRecDepth 100000
set_option maxHeartbeats 64000000
namespace Go.Proofs.YtnhbkodnmkojpaaGreat
open Go Go.Eng
theorem Pp (nm:List UInt8) (us:List Pr) (n:Int):(kJ nm us n).1.length≤12:=by
 unfold kJ
 by_cases h:aP nm us=0
 ·rw[if_neg (fun hh=>hh h)]
  split
  ·split
   ·exact Nat.zero_le _
   ·have:=tc us (bz us n)
    have:=(fT h).1
    show (wrN us (bz us n)).length≤12
    omega
  ·exact Nat.zero_le _
 ·rw[if_pos h];exact Nat.zero_le _
theorem TbB.eM {cs:List Cs} (h:TbB cs) (i:Nat) {g:List Gp} (hg:g.length≤12):TbB (eM cs i (g,[])):=by
 unfold Proofs.YtnhbkodnmkojpaaGreat.eM
 split
 ·rename_i c hc
  have hmem:=List.mem_of_getElem? hc
  refine ⟨by rw[List.length_set];exact h.c,fun x hx=>?_,fun x hx=>?_⟩
  ·rcases List.mem_or_eq_of_mem_set hx with hx|rfl
   ·exact h.n x hx
   ·exact ⟨by show g.length*32≤_;omega,by show ([]:List Gp).length*32≤_;decide⟩
  ·rcases List.mem_or_eq_of_mem_set hx with hx|rfl
   ·exact h.w x hx
   ·exact h.w c hmem
 ·exact h
theorem TbB.nil:TbB []:=⟨by decide,fun _ h=>absurd h List.not_mem_nil,fun _ h=>absurd h List.not_mem_nil⟩
theorem Hv (o:Option (List Lad)):∀ (l:List Cl) (vs:List Int) (cs:List Cs),TbB cs→TbB (lj o l vs cs).1
 | [],vs,cs,h=>by rw[vW];exact h
 | x::l,[],cs,h=>by unfold lj;exact h
 | x::l,y::vs,cs,h=>by
  rw[qL]
  split
  ·exact Hv o l vs cs h
  ·split
   ·exact TbB.nil
   ·exact Hv o l vs _ (h.eM _ (Pp _ _ _))
theorem Uy (o:Option (List Lad)) (gs:List Gd) (t:Tb) (vs:List Int) (h:TbB t.2):TbB (lf o gs t vs).1.2:=by
 unfold lf
 split
 ·exact TbB.nil
 ·split
  ·exact TbB.nil
  ·split
   ·exact TbB.nil
   ·exact Hv o _ vs _ h
theorem ug (H:Hp) (lv gv tv w:AC) (ls:List Lad) (gs:List Gd) (nm:List UInt8) (cs:List Cs) (vs:List Int) (hl:eQ H lv ls) (hg:SlG H gv gs) (ht:bX H tv cs) (hw:SlI H w vs) (hGB:∀ x∈gs,x.2.2.length*16≤140737488355328) (hB:TbB cs) (hV:vs.length*8≤140737488355328):
  C1 E2 5 [.agg [lv,gv,.o (.str nm),tv],.one w] H fun r _=>r=.one (.b true):=by
 refine C1.body (E:=E2) (nt:=57) (res:=[.tmp 4]) Tryz.func5 rfl rfl rfl rfl rfl fun tm hargs=>?_
 have h0:=hargs 0 _ rfl
 have h1:=hargs 1 _ rfl
 clear hargs
 have hO:∀ x∈gs,x.2.2.length≤4611686018427387904:=fun x hx=>by have:=hGB x hx;omega
 have hV2:vs.length≤4611686018427387904:=by omega
 have lll:=hl.lt
 have llg:=hg.lt
 have llt:=ht.lt
 refine zG tyF fun K hK=>?_
 refine hK.out _ _ ?_
 refine R1.gen (fun A1 H1=>Gr H H1∧H.nx<H1.nx∧H1.get H.nx=some (.arr [lv,gv,.o (.str nm),tv] 28 0 0)∧slot A1.tm 1=.one (w)∧slot A1.tm 2=.one ((.o (.ptr H.nx 0 0 4)))∧A1.nt=57∧A1.dfr=[])
  ⟨(Fr.refl _).new _,Nat.lt_succ_self _,an rfl,zL⟩ ?_
 clear h0 h1 tm hK K lll llg llt
 rintro A1 H1 ⟨g1,m1,r1,t1,t2,hnt,hdf⟩
 obtain ⟨N,hN⟩:∃ N,N=H.nx:=⟨_,rfl⟩
 rw[←hN] at m1 r1 t2
 clear hN
 have hl:=hl.gr g1
 have hg:=hg.gr g1
 have ht:=ht.gr g1
 have hw:=hw.gr g1
 refine zG (qA tyF Pn) fun K hK=>?_
 refine WE.con (Ny H1 lv ls hl) fun w2 H2 g2 ⟨p1,p2,hq2,hp,hq,_⟩=>?_
 subst hq2
 have r1:=(g2.get _ m1 not_false).trans r1
 have m1:=Nat.lt_of_lt_of_le m1 g2.nx
 have hg:=hg.gr g2
 have ht:=ht.gr g2
 have hw:=hw.gr g2
 have hbl:∀ l,bkO ls=some l→(∀ x∈l,x.2.length≤1000000)∧l.length≤1000000:=fun l h=>⟨fun x hx=>by have:=(Pu h).2 x hx;omega,by have:=(Pu h).1;omega⟩
 generalize bkO ls=o at hp hq hbl
 refine zK tyF ?_
 refine zG (qA tyF uJ) fun K hK=>?_
 refine WE.con (rE H2 nm tv cs ht hB) fun w3 H3 g3 ⟨ov,q3,hq3,hoa⟩=>?_
 subst hq3
 have ho:=hoa.slr
 have lo:=ho.lt
 have r1:=(g3.get _ m1 not_false).trans r1
 have m1:=Nat.lt_of_lt_of_le m1 g3.nx
 have hg:=hg.gr g3
 have ht:=ht.gr g3
 have hw:=hw.gr g3
 have hp:=hp.gr g3
 have hq:=hq.gr g3
 clear hoa
 refine zE tyF ?_
 refine R1.gen (fun A4 H4=>Gr H3 H4∧H3.nx<H4.nx∧H4.get H3.nx=some (.arr [.o (.str nm),ov] 26 0 0)∧slot A4.tm 1=.one (w)∧slot A4.tm 2=.one ((.o (.ptr N 0 0 4)))∧slot A4.tm 5=.one (p1)∧slot A4.tm 6=.one (p2)∧slot A4.tm 7=.one ((.o (.ptr H3.nx 0 0 2)))∧A4.nt=57∧A4.dfr=[])
  ⟨((Fr.refl _).new _).mod _ (.inl (Nat.le_refl _)),Nat.lt_succ_self _,ai rfl,zL⟩ ?_
 clear t1 t2 hnt hdf A1 lo hK K
 rintro A H4 ⟨g4,m2,r2,t1,t2,t5,t6,t7,hnt,hdf⟩
 have ho4:bX H4 ov cs:=bX.gr ho g4
 have r1:=(g4.get _ m1 not_false).trans r1
 have m1:=Nat.lt_of_lt_of_le m1 g4.nx
 have hg:=hg.gr g4
 have ht:=ht.gr g4
 have hw:=hw.gr g4
 have hp:=hp.gr g4
 have hq:=hq.gr g4
 obtain ⟨M,hM⟩:∃ M,M=H3.nx:=⟨_,rfl⟩
 rw[←hM] at m2 r2 t7
 clear hM ho
 refine zG (qA tyF Hm) fun K hK=>?_
 refine WE.con (FY H4 p1 gv ov w o gs nm cs vs hp (fun l h=>(hbl l h).1) hg ho4 hB hO hw hV2) fun w5 H5 g5 ⟨va,hq5,hva⟩=>?_
 subst hq5
 have r1:=(g5.get _ m1 not_false).trans r1
 have m1:=Nat.lt_of_lt_of_le m1 g5.nx
 have r2:=(g5.get _ m2 not_false).trans r2
 have m2:=Nat.lt_of_lt_of_le m2 g5.nx
 have hg:=hg.gr g5
 have ht:=ht.gr g5
 have hw:=hw.gr g5
 have hq:=hq.gr g5
 have ho4:=ho4.gr g5
 have lva:=hva.lt
 refine zE tyF ?_
 refine R1.gen (fun A6 H6=>Gr H5 H6∧H5.nx<H6.nx∧H6.get H5.nx=some (.arr [.o (.str (lf o gs (nm,cs) vs).1.1),va] 26 0 0)∧slot A6.tm 1=.one (w)∧slot A6.tm 2=.one ((.o (.ptr N 0 0 4)))∧slot A6.tm 6=.one (p2)∧slot A6.tm 7=.one ((.o (.ptr M 0 0 2)))∧slot A6.tm 8=.one ((.o (.ptr H5.nx 0 0 2)))∧slot A6.tm 9=.one ((.i .i64 (lf o gs (nm,cs) vs).2))∧A6.nt=57∧A6.dfr=[])
  ⟨((Fr.refl _).new _).mod _ (.inl (Nat.le_refl _)),Nat.lt_succ_self _,ai rfl,zL⟩ ?_
 clear t1 t2 t5 t6 t7 hnt hdf A lva hK K
 rintro A H6 ⟨g6,m3,r3,t1,t2,t6,t7,t8,t9,hnt,hdf⟩
 have r1:=(g6.get _ m1 not_false).trans r1
 have m1:=Nat.lt_of_lt_of_le m1 g6.nx
 have r2:=(g6.get _ m2 not_false).trans r2
 have m2:=Nat.lt_of_lt_of_le m2 g6.nx
 have hg:=hg.gr g6
 have ht:=ht.gr g6
 have hw:=hw.gr g6
 have hq:=hq.gr g6
 have ho4:=ho4.gr g6
 have hva:=hva.gr g6
 obtain ⟨P,hP⟩:∃ P,P=H5.nx:=⟨_,rfl⟩
 rw[←hP] at m3 r3 t8
 clear hP
 refine zG (qA tyF GP) fun K hK=>?_
 refine WE.con (BR H6 p2 gv tv w o gs nm cs vs hq hbl hg ht hB hO hw hV2) fun w7 H7 g7 ⟨vb,hq7,hvb⟩=>?_
 subst hq7
 have r1:=(g7.get _ m1 not_false).trans r1
 have m1:=Nat.lt_of_lt_of_le m1 g7.nx
 have r2:=(g7.get _ m2 not_false).trans r2
 have m2:=Nat.lt_of_lt_of_le m2 g7.nx
 have r3:=(g7.get _ m3 not_false).trans r3
 have m3:=Nat.lt_of_lt_of_le m3 g7.nx
 have ht:=ht.gr g7
 have ho4:=ho4.gr g7
 have hva:=hva.gr g7
 have lvb:=hvb.lt
 refine zE tyF ?_
 refine R1.gen (fun A8 H8=>Gr H7 H8∧H7.nx<H8.nx∧H8.get H7.nx=some (.arr [.o (.str (lf o gs (nm,cs) vs).1.1),vb] 26 0 0)∧slot A8.tm 2=.one ((.o (.ptr N 0 0 4)))∧slot A8.tm 7=.one ((.o (.ptr M 0 0 2)))∧slot A8.tm 8=.one ((.o (.ptr P 0 0 2)))∧slot A8.tm 9=.one ((.i .i64 (lf o gs (nm,cs) vs).2))∧slot A8.tm 10=.one ((.o (.ptr H7.nx 0 0 2)))∧slot A8.tm 11=.one ((.i .i64 (lf o gs (nm,cs) vs).2))∧A8.nt=57∧A8.dfr=[])
  ⟨((Fr.refl _).new _).mod _ (.inl (Nat.le_refl _)),Nat.lt_succ_self _,ai rfl,zL⟩ ?_
 clear t1 t2 t6 t7 t8 t9 hnt hdf A lvb hK K
 rintro A H8 ⟨g8,m4,r4,t2,t7,t8,t9,t10,t11,hnt,hdf⟩
 have r1:=(g8.get _ m1 not_false).trans r1
 have m1:=Nat.lt_of_lt_of_le m1 g8.nx
 have r2:=(g8.get _ m2 not_false).trans r2
 have m2:=Nat.lt_of_lt_of_le m2 g8.nx
 have r3:=(g8.get _ m3 not_false).trans r3
 have m3:=Nat.lt_of_lt_of_le m3 g8.nx
 have ht:=ht.gr g8
 have ho4:=ho4.gr g8
 have hva:=hva.gr g8
 have hvb:=hvb.gr g8
 obtain ⟨Q,hQ⟩:∃ Q,Q=H7.nx:=⟨_,rfl⟩
 rw[←hQ] at m4 r4 t10
 clear hQ
 have hBc:=Uy o gs (nm,cs) vs hB
 generalize lf o gs (nm,cs) vs=ce at hva hvb r3 r4 t9 t11 hBc
 have he:(ce.2==ce.2)=true:=beq_self_eq_true _
 refine zG (qA tyF wG) fun K hK=>?_
 refine WE.con (uF H8 ce.1.1 va vb ce.1.2 hva hvb hBc) fun w9 H9 g9 hq9=>?_
 subst hq9
 have r1:=(g9.get _ m1 not_false).trans r1
 have m1:=Nat.lt_of_lt_of_le m1 g9.nx
 have r2:=(g9.get _ m2 not_false).trans r2
 have m2:=Nat.lt_of_lt_of_le m2 g9.nx
 have ht:=ht.gr g9
 have ho4:=ho4.gr g9
 refine zS (qA tyF wG) ?_
 refine WE.con (uF H9 nm ov tv cs ho4 ht hB) fun w10 H10 g10 hq10=>?_
 subst hq10
 refine zS (qA tyF QR) ?_
 refine WE.con (NA (X:=fun _=>False) H10) fun w11 H11 g11 hq11=>?_
 subst hq11
 refine zK tyF ?_
 exact ⟨_,_,ak (.b true) (.inr rfl) qe qp,rfl⟩
end Go.Proofs.YtnhbkodnmkojpaaGreat
namespace Go.Proofs.YtnhbkodnmkojpaaGreat
open Go Go.Eng Go.ChangeShapes Go.WideShapes
abbrev Uo:=fh tC (wu .i64)
abbrev AH:=ri Tryz.prog 185 2 Uo
abbrev Kf:=fh (wu .i64) (fh (wu .i64) (fh (wu .i64) (fh (wu .i64) (fh SH (fh tC AH)))))
abbrev IG:=ri Tryz.prog 69 8 Kf
abbrev Vy:=fh tC IG
abbrev HK:=fh Lm (fh Br Vy)
theorem Mi:jr AH:=mO (cu ct dL)
theorem OT:jr Kf:=cu dL (cu dL (cu dL (cu dL (cu Lw (cu ct Mi)))))
theorem Du:jr Lm:=mO (cu ct zc)
theorem xQ:jr Br:=mO (cu ct (cu ct yd))
theorem Ps {W:World}:Opn Tryz.prog W 2 Uo 185:=dK Tryz.underlying185 (by kernel_rfl) rfl (ca (gh Tryz.underlying9) ct (fH (iV Tryz.underlying3)))
theorem MO {W:World} (hB:jD W):Opn Tryz.prog W 1 AH 67:=ff Tryz.underlying67 (by kernel_rfl) (by decide) (cu ct dL) hB Ps
theorem Qf {W:World} (hB:jD W):Opn Tryz.prog W 8 Kf 69:=dK Tryz.underlying69 (by kernel_rfl) rfl (ca (iV Tryz.underlying3) dL (ca (iV Tryz.underlying3) dL (ca (iV Tryz.underlying3) dL (ca (iV Tryz.underlying3) dL (ca (Sc hB) Lw (ca (gh Tryz.underlying9) ct (fH (MO hB))))))))
theorem Mu {W:World} (hB:jD W):Opn Tryz.prog W 1 IG 24:=ff Tryz.underlying24 (by kernel_rfl) (by decide) OT hB (Qf hB)
theorem Tr {W:World} (hB:jD W):Opn Tryz.prog W 2 Vy 26:=dK Tryz.underlying26 (by kernel_rfl) rfl (ca (gh Tryz.underlying9) ct (fH (Mu hB)))
theorem Na {W:World} (hB:jD W):Opn Tryz.prog W 4 HK 28:=dK Tryz.underlying28 (by kernel_rfl) rfl (ca (NY hB) Du (ca (Mf hB) xQ (fH (Tr hB))))
theorem Ic {W:World}:Iw Tryz.prog W 4 HK 28:=sE Tryz.underlying28 (by kernel_rfl) rfl (oF (ot Tryz.underlying22) Du (oF (ot Tryz.underlying23) xQ (Ai (sE Tryz.underlying26 (by kernel_rfl) rfl (oF (gh Tryz.underlying9).z ct (Ai (ot Tryz.underlying24)))))))
theorem AB:Tryz.prog.bytesOf 185=24:=by kernel_rfl
theorem BZ:Tryz.prog.bytesOf 69=120:=by kernel_rfl
def FQ (x:Int×Int×Int×Int×Nm×List UInt8×List Pr):Cs:=⟨x.1,x.2.1,x.2.2.1,x.2.2.2.1,x.2.2.2.2.1,x.2.2.2.2.2.1,x.2.2.2.2.2.2⟩
theorem LK {α β γ:Type} {P:γ→β→Prop} {f:α→β}:∀ {css:List γ} {l:List α},Al (fun c x=>P c (f x)) css l→Al P css (l.map f)
 | [],[],_=>trivial
 | _::_,_::_,h=>⟨h.1,LK h.2⟩
 | [],_::_,h=>h.elim
 | _::_,[],h=>h.elim
theorem Qv {B:Nat} {H:Hp} {c:List AC} {us:List Pr} (h:AH B H c us):∃ u,c=[u]∧SlP H u us∧us.length*24≤B:=by
 obtain ⟨u,rfl,⟨css,h1,h2⟩,h3⟩:=h
 refine ⟨u,rfl,?_,by rwa [AB] at h3⟩
 have:=mK (f:=prC) (h2.mono fun c x ⟨_,c1,c2,e,a,b⟩=>by rw[e,a.1,b.1];rfl)
 rw[this] at h1
 exact h1
theorem Jt {B:Nat} {H:Hp} {c:List AC} {x:Int×Int×Int×Int×Nm×List UInt8×List Pr} (h:Kf B H c x):CsR H c (FQ x)∧(FQ x).num.1.length*32≤B∧(FQ x).num.2.length*32≤B∧(FQ x).ws.length*24≤B:=by
 obtain ⟨c1,c2,rfl,a,c3,c4,rfl,b,c5,c6,rfl,d,c7,c8,rfl,e,c9,c10,rfl,f,c11,c12,rfl,g,k⟩:=h
 obtain ⟨p,q,rfl,e1,e2,e3,e4⟩:=UE f
 obtain ⟨u,rfl,e5,e6⟩:=Qv k
 exact ⟨⟨p,q,u,by rw[a.1,b.1,d.1,e.1,g.1];rfl,e1,e2,e5⟩,e3,e4,e6⟩
theorem Pj {B:Nat} {H:Hp} {c:List AC} {l:List (Int×Int×Int×Int×Nm×List UInt8×List Pr)} (hB:B≤140737488355328) (h:IG B H c l):∃ u,c=[u]∧bX H u (l.map FQ)∧TbB (l.map FQ):=by
 obtain ⟨u,rfl,⟨css,h1,h2⟩,h3⟩:=h
 rw[BZ] at h3
 have key:=Al.all (fun c x ⟨_,h⟩=>(Jt h).2) h2
 refine ⟨u,rfl,⟨css,by rw[List.length_map];exact h1,LK (h2.mono fun c x ⟨hl,h⟩=>⟨hl,(Jt h).1⟩)⟩,⟨by rw[List.length_map];omega,fun x hx=>?_,fun x hx=>?_⟩⟩
 ·obtain ⟨y,hy,rfl⟩:=List.mem_map.1 hx
  have:=key y hy
  omega
 ·obtain ⟨y,hy,rfl⟩:=List.mem_map.1 hx
  have:=key y hy
  omega
theorem Oz {B:Nat} {H:Hp} {c:List AC} {x:List Lad×List Gd×List UInt8×List (Int×Int×Int×Int×Nm×List UInt8×List Pr)} (hB:B≤140737488355328) (h:HK B H c x):∃ lv gv tv,c=[lv,gv,.o (.str x.2.2.1),tv]∧eQ H lv x.1∧SlG H gv x.2.1∧(∀ y∈x.2.1,y.2.2.length*16≤140737488355328)∧bX H tv (x.2.2.2.map FQ)∧TbB (x.2.2.2.map FQ):=by
 obtain ⟨c1,c2,rfl,a,c3,c4,rfl,b,c5,c6,rfl,d,e⟩:=h
 obtain ⟨tv,rfl,e1,e2⟩:=Pj hB e
 obtain ⟨lv,rfl,_⟩:=id a
 obtain ⟨gv,rfl,_⟩:=id b
 refine ⟨lv,gv,tv,by rw[d.1];rfl,(To a).1,(FU b).1,fun y hy=>?_,e1,e2⟩
 have:=(FU b).2.2 y hy
 omega
end Go.Proofs.YtnhbkodnmkojpaaGreat
namespace Go.Proofs.YtnhbkodnmkojpaaGreat
open Go.ChangeShapes Go.WideShapes Go.ChangeAt Go.RowKit Go.Eng
theorem Sn:∀ t∈[28,57],Tryz.prog.readableRec t=true∧t<Tryz.prog.types.size:=by
 have h1:Tryz.prog.readableRec 28=true:=by kernel_rfl
 have h2:Tryz.prog.readableRec 57=true:=by kernel_rfl
 have k1:decide (28<Tryz.prog.types.size)=true:=by kernel_rfl
 have k2:decide (57<Tryz.prog.types.size)=true:=by kernel_rfl
 intro t ht
 simp only[List.mem_cons,List.not_mem_nil,or_false] at ht
 rcases ht with rfl|rfl
 ·exact ⟨h1,of_decide_eq_true k1⟩
 ·exact ⟨h2,of_decide_eq_true k2⟩
theorem sG (os:Os) (started:os.Started) (H:Type) (enc:TypeId×Value→H):
  ReturnsInHanded {} Tryz.checked os 5 .any (Rows.accountCorrectsSpec.pre6 enc Tryz.prog Tryz.f5 Rows.accountCorrectsRow.domain false) (Rows.accountCorrectsSpec.post enc Tryz.prog Tryz.f5 false true false false):=by
 refine returnsInHanded_of_change_sized (C:=Tryz.checked) Tryz.own started (by kernel_rfl) Tryz.func5
  (ChangeSpec.witness6 (enc:=enc) (C:=Tryz.checked) false ⟨#[],#[.agg #[.slice none 0 0,.slice none 0 0,.string ⟨#[]⟩,.slice none 0 0],.slice none 0 0],[]⟩ 8 (by kernel_rfl) (by kernel_rfl) (by kernel_rfl) (by kernel_rfl)) ?_
 intro W base args ds gs before hval0 hW hcnd0 hsz _
 clear hcnd0
 have hval:∀ (j:Nat) t v,Tryz.f5.params[j]?=some t→args[j]?=some v→Value.okWide Tryz.prog W .any base t v:=hval0
 have hW':=hW
 obtain ⟨p,q,hA0,hV,rfl,hfz,hnd⟩:=hW
 have hA:DataW.TrodAll enc Tryz.prog W 0 (fun _=>true) true Tryz.f5.params.toList args.toList ds p:=hA0
 rw[Tryz.params5] at hA hval hsz
 have hAll:=hA
 obtain ⟨v0,v1,d0,d1,p0,p1,rfl,rfl,rfl,h0,h1⟩:=trodAll_two hA
 obtain ⟨rfl,rfl⟩:=trodVars_none hV
 clear hA0 hval0
 simp only[List.append_nil] at hW' hfz
 have hw:∀ (j:Nat) (t:TypeId) (d:DataW H),[28,57][j]?=some t→[d0,d1][j]?=some d→∀ n∈d.weights Tryz.prog t,n≤reachBytes:=fun j t d ht hd n hn=>by
  have:=List.all_eq_true.1 hsz n (DataW.weights_mem_each (j:=j) (by rw[List.getElem?_append_left (by have:=(List.getElem?_eq_some_iff.1 ht).1;exact this)];exact ht) (by rw[List.getElem?_append_left (by have:=(List.getElem?_eq_some_iff.1 hd).1;exact this)];exact hd) n hn)
  simpa using this
 obtain ⟨y0,u0,l0,a0,b0,_,c0⟩:=OB Tryz.underlying28 (fun hB=>Na hB) Ic (hval 0 _ v0 rfl rfl) h0 (hw 0 _ _ rfl rfl) [] Pb
 obtain ⟨y1,u1,l1,a1,b1,c1⟩:=Tc Tryz.underlying57 (fun hB=>Ov hB) (hval 1 _ v1 rfl rfl) h1 (hw 1 _ _ rfl rfl) _ a0
 obtain ⟨lv,gv,tv,rfl,e1,e2,e3,e4,e5⟩:=Oz Cr c0
 obtain ⟨w,e6,e7,e8⟩:=SZ c1
 cases e6
 have hcall:=CT (E:=E2) Vq (f:=5) (args:=[.agg [lv,gv,.o (.str l0.2.2.1),tv],.one u1]) (vs:=[v0,v1]) (w:=W) (l:=[]++y0++y1) a1
  ⟨AR.mono (jG _ _) b0,b1,trivial⟩
  (ug _ lv gv tv u1 l0.1 l0.2.1 l0.2.2.1 _ l1 (eQ.gr e1 (kP _ _)) (SlG.gr e2 (kP _ _)) (bX.gr e4 (kP _ _)) e7 e3 e5 (Nat.le_trans e8 Cr))
 refine hcall.mono fun e W' ⟨he,hw⟩=>?_
 subst he
 have hlt:∀ x∈p0++p1,x.block<W.heap.size:=fun x hx=>hW'.lt x (by simpa using hx)
 exact ⟨_,rfl,Rm rfl hW' rfl (by kernel_rfl) rfl rfl rfl (rV hw) fun sp hsp=>nD Tryz.laidOut (rV hw) Sn (by simpa using hAll) (by simpa using hlt) hsp⟩
end Go.Proofs.YtnhbkodnmkojpaaGreat
namespace Go.Proofs.YtnhbkodnmkojpaaGreat
open Go.ChangeShapes Go.WideShapes Go.ChangeAt Go.RowKit Go.Eng
theorem corrects_holds:Rows.AccountCorrectsSaid:=
 OpenClaim.holds_of_wide 5 Tryz.f5 rfl rfl rfl rfl rfl rfl rfl ⟨rfl,rfl,rfl,rfl,rfl⟩ rfl rfl rfl rfl rfl (by kernel_rfl) Tryz.func5 (by kernel_rfl)
  (of_decide_eq_true (by kernel_rfl)) (by unfold Func.isWrapper;first|(rw[if_pos (by decide +kernel)];kernel_rfl)|(rw[if_neg (by decide +kernel)];exact ⟨rfl,rfl⟩))
  (fun os started H enc _=>sG os started H enc)
end Go.Proofs.YtnhbkodnmkojpaaGreat
