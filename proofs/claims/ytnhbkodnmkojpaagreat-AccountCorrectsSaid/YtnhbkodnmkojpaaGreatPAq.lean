/- A part of the proof: BkTb12, BkTb13, BkTb14, BkTb15, BkTb16, BkWr1. No conditions. -/
import Derived.Test.YtnhbkodnmkojpaaGreatPAp
set_option maxRecDepth 100000
set_option maxHeartbeats 64000000
namespace Go.Proofs.YtnhbkodnmkojpaaGreat
open Go Go.Eng
theorem Uh:∀ (H:Hp) (lg:List Nat) (c:List AC) (x:Cl),ClR H c x→ClR ⟨H.t,H.nx,lg⟩ c x:=fun _ _ _ _ h=>h
theorem Mw:al Tryz.prog 34=true:=by kernel_rfl
theorem HI (H:Hp) (gv v:AC) (gs:List Gd) (nm:List UInt8) (cs:List Cs) (hg:SlG H gv gs) (hv:bX H v cs) (hB:TbB cs) (hL:gs.length≤1000000) (hO:∀ x∈gs,x.2.2.length≤4611686018427387904):
  Con E2 34 [.one gv,.agg [.o (.str nm),v]] H (fun _=>False) fun r H'=>∃ c ro,r=.tup [(false,[c]),(false,[.i .i64 (cy gs 0 cs []).2])]∧aY ClR 5 84 (fun j=>j<H.nx) H' c ((cy gs 0 cs []).1.map Prod.fst) ro:=by
 refine Con.of rfl fun lg=>?_
 have hg:SlG ⟨H.t,H.nx,lg⟩ gv gs:=hg
 have hv:bX ⟨H.t,H.nx,lg⟩ v cs:=hv
 have e0:H.nx=(⟨H.t,H.nx,lg⟩:Hp).nx:=rfl
 rw[e0]
 clear e0
 generalize (⟨H.t,H.nx,lg⟩:Hp)=H at hg hv ⊢
 refine C1.body (E:=E2) (nt:=67) (res:=[.tmp 4,.tmp 5]) Tryz.func34 rfl rfl rfl rfl rfl fun tm hargs=>?_
 have h0:=hargs 0 _ rfl
 have h1:=hargs 1 _ rfl
 clear hargs
 have hl:cs.length*120≤140737488355328:=hB.c
 obtain ⟨z,hz,hzl⟩:=KA
 replace hz:Hd _:=hz
 replace hzl:Hd _:=hzl
 generalize hr0:cy gs 0 cs []=r0
 have fin:∀ (c:AC) (ro:Option Nat) (e:Int) (A:ab) (H3:Hp),slot A.tm 4=.one c→slot A.tm 5=.one (.i .i64 e)→A.dfr=[]→Gr H H3→e=r0.2→aY ClR 5 84 (fun j=>j<H.nx) H3 c (r0.1.map Prod.fst) ro→∃ w H4,ao E2 [.tmp 4,.tmp 5] (.ret,A,H3)=.ok [(w,H4)]∧Gr H H4∧∀ lg':List Nat,∃ c ro,w=.tup [(false,[c]),(false,[.i .i64 r0.2])]∧aY ClR 5 84 (fun j=>j<H.nx) ⟨H4.t,H4.nx,lg'⟩ c (r0.1.map Prod.fst) ro:=fun c ro e A H3 h1 h2 hd hgr he hs=>
  ⟨_,H3,aZ c (.i .i64 e) (.inr rfl) hd h1 h2,hgr,fun lg'=>⟨c,ro,by rw[he],aY.lg Uh hs lg'⟩⟩
 have bad:∀ (e:Int) (H3:Hp),(([]:List (Cl×Int)),e)=r0→e=r0.2∧aY ClR 5 84 (fun j=>j<H.nx) H3 (.o .nilS) (r0.1.map Prod.fst) none:=fun e H3 he=>by
  rw[←he]
  exact ⟨rfl,aY.nil⟩
 have lv:=hv.lt
 refine zG tyF fun K hK=>?_
 refine hK.out _ _ ?_
 refine R1.gen (fun A1 H1=>Gr H H1∧H.nx<H1.nx∧H1.get H.nx=some (.arr [.o (.str nm),v] 26 0 0)∧slot A1.tm 0=.one (gv)∧slot A1.tm 3=.one ((.o (.ptr H.nx 0 0 2)))∧A1.nt=67∧A1.dfr=[])
  ⟨(Fr.refl _).new _,Nat.lt_succ_self _,an rfl,zL⟩ ?_
 clear h0 h1 tm hK K lv
 rintro A1 H1 ⟨g1,m1,rx,t0,t3,hnt,hdf⟩
 obtain ⟨N,hN⟩:∃ N,N=H.nx:=⟨_,rfl⟩
 rw[←hN] at m1 rx t3
 replace hN:Hd _:=hN
 replace hr0:Hd _:=hr0
 refine zW tyF ?_
 refine R1.cq fun K k1 k2 k3 k4=>?_
 refine R1.loop (fun z A H2=>∃ (i:Nat) (kl:List (Cl×Int)) (v':AC) (r:Option Nat),z=cs.length - i∧i≤cs.length∧kl.length≤64∧Gr H H2∧N<H2.nx∧H2.get N=some (.arr [.o (.str nm),v] 26 0 0)∧Hd (cy gs i (cs.drop i) kl=r0)∧aY ClR 5 84 (fun j=>j<N+1) H2 v' (kl.map Prod.fst) r ∧
   slot A.tm 0=.one (gv)∧slot A.tm 3=.one ((.o (.ptr N 0 0 2)))∧slot A.tm 6=.one (v')∧slot A.tm 7=.one (.i .i64 (i:Int))∧A.nt=67∧A.dfr=[]) ?_ cs.length
  ⟨0,[],.o .nilS,none,rfl,Nat.zero_le _,Nat.zero_le _,g1,m1,rx,hr0,aY.nil,zL⟩
 clear t0 t3 hnt hdf A1 hr0 k3 g1 m1 rx H1
 rintro z A H2 ⟨i,kl,v',r,rfl,hi,hkl,g2,m1,rx,hr,ho,t0,t3,t6,t7,hnt,hdf⟩
 have hv2:=hv.gr g2
 have hg2:=hg.gr g2
 have l1:=hv2.len
 have l2:=hv2.lt
 have lo:=ho.lt
 refine zW tyF ?_
 refine zI tyF (fun hc=>?_) (fun hc=>?_)
 ·have hlt:i<cs.length:=by omega
  have ex:cs[i]?=some cs[i]:=List.getElem?_eq_getElem hlt
  have hdr:cs.drop i=cs[i]::cs.drop (i+1):=List.drop_eq_getElem_cons hlt
  have htk:cs.take (i+1)=cs.take i++[cs[i]]:=List.take_succ_eq_append_getElem hlt
  have hmem:cs[i]∈cs:=List.getElem_mem hlt
  generalize cs[i]=x at ex hdr htk hmem
  have hw2:IntKind.i64.wrap ((i:Int)+1)=((i+1:Nat):Int):=by rw[aX (by omega) (by omega)];omega
  obtain ⟨id,g,off,cells,rfl,hid,hgr,hat⟩:=hv2.open (by omega)
  obtain ⟨p,q,w,hx⟩:=hat i x ex
  have y1:=hx.all
  have y2:=hx.le
  have hp:=hx.of1
  have hq:=hx.of2
  have hBn:=hB.n x hmem
  have hr1:=hr.out
  rw[hdr,cy] at hr1
  clear hx hat hdr ex hmem htk hr l1
  replace hr1:Hd _:=hr1
  refine zW tyF ?_
  refine R1.cq fun K2 p1 p2 p3 p4=>?_
  refine zG (qA tyF (ixC hlt)) fun K3 hK3=>?_
  refine hK3.out _ _ ?_
  refine R1.gen (fun A4 H4=>Gr H2 H4∧H2.nx<H4.nx∧H4.get H2.nx=some (.arr [.i .i64 x.face,.i .i64 x.col,.i .i64 x.line,.i .i64 x.kind,p,q,.o (.str x.good),w] 69 0 0)∧slot A4.tm 0=.one (gv)∧slot A4.tm 3=.one ((.o (.ptr N 0 0 2)))∧slot A4.tm 6=.one (v')∧slot A4.tm 7=.one (.i .i64 (i:Int))∧slot A4.tm 8=.one ((.o (.ptr H2.nx 0 0 8)))∧A4.nt=67∧A4.dfr=[])
   ⟨((Fr.refl _).new _).mod _ (.inl (Nat.le_refl _)),Nat.lt_succ_self _,ai rfl,zL⟩ ?_
  clear t0 t3 t6 t7 hnt hdf A y1 y2 hK3 K3 hgr hid l2 lo
  rintro A H4 ⟨g4,mM,rM,t0,t3,t6,t7,t8,hnt,hdf⟩
  obtain ⟨M,hM⟩:∃ M,M=H2.nx:=⟨_,rfl⟩
  have nM:N<M:=by omega
  rw[←hM] at mM rM t8
  clear hM
  have rx:=(g4.get _ m1 not_false).trans rx
  have m1:=Nat.lt_of_lt_of_le m1 g4.nx
  have ho4:=ho.gr ju iv g4
  have g24:=g2.gr g4
  have hg4:=hg2.gr g4
  have hp4:=hp.gr g4
  have hq4:=hq.gr g4
  clear ho g2 hv2 hp hq hg2 g4
  have go:Hd (∀ (kl':List (Cl×Int)) (v5:AC) (r5:Option Nat) (A:ab) (H5:Hp),slot A.tm 0=.one (gv)∧slot A.tm 3=.one ((.o (.ptr N 0 0 2)))∧slot A.tm 6=.one (v5)∧slot A.tm 7=.one (.i .i64 (i:Int))∧A.nt=67∧A.dfr=[]→kl'.length≤64→Gr H H5→N<H5.nx→H5.get N=some (.arr [.o (.str nm),.o (.sl id g off cs.length 8)] 26 0 0)→cy gs (i+1) (cs.drop (i+1)) kl'=r0→aY ClR 5 84 (fun j=>j<N+1) H5 v5 (kl'.map Prod.fst) r5→K2 (.exit 1) A H5∧K2 .normal A H5):=by
   clear t0 t3 t6 t7 t8 hnt hdf hr1 ho4 g24 hg4 hp4 hq4 rx rM mM m1 A hkl
   rintro kl' v5 r5 A H5 ⟨t0,t3,t6,t7,hnt,hdf⟩ hkl g5 m5 rx hr3 ho5
   replace hr3:Hd _:=hr3
   constructor
   ·refine p2.out _ _ ?_
    refine zW tyF ?_
    exact ⟨cs.length - (i+1),by omega,i+1,kl',v5,r5,rfl,hlt,hkl,g5,m5,rx,hr3,ho5,zL⟩
   ·refine p1.out _ _ ?_
    refine zW tyF ?_
    exact ⟨cs.length - (i+1),by omega,i+1,kl',v5,r5,rfl,hlt,hkl,g5,m5,rx,hr3,ho5,zL⟩
  by_cases c1:x.kind=4∨x.good=[]
  ·have hr2:=hr1.out
   rw[if_pos c1] at hr2
   replace hr2:Hd _:=hr2
   clear hr1
   by_cases c4:x.kind=4
   ·have e1:(x.kind==4)=true:=beq_iff_eq.2 c4
    clear c1 c4
    refine zW tyF ?_
    exact (go.out kl v' r _ _ zL hkl g24 m1 rx hr2.out ho4).1
   ·have e1:(x.kind==4)=false:=beq_false_of_ne c4
    have e2:lEq x.good []=true:=by rw[bU,c1.resolve_left c4];rfl
    clear c1 c4
    refine zW tyF ?_
    exact (go.out kl v' r _ _ zL hkl g24 m1 rx hr2.out ho4).1
  have hr2:=hr1.out
  rw[if_neg c1] at hr2
  have e1:(x.kind==4)=false:=beq_false_of_ne fun h=>c1 (.inl h)
  have e2:lEq x.good []=false:=by rw[bU];exact beq_false_of_ne fun h=>c1 (.inr h)
  replace hr2:Hd _:=hr2
  clear hr1 c1
  refine zW tyF ?_
  refine zG (qA tyF xJ) fun K3 hK3=>?_
  refine WE.con (mA H4 gv gs x.good hg4 hL) fun w5 H5 g5 hq5=>?_
  subst hq5
  have rx:=(g5.get _ m1 not_false).trans rx
  have m1:=Nat.lt_of_lt_of_le m1 g5.nx
  have rM:=(g5.get _ mM not_false).trans rM
  have mM:=Nat.lt_of_lt_of_le mM g5.nx
  have ho5:=ho4.gr ju iv g5
  have g25:=g24.gr g5
  have hg5:=hg4.gr g5
  have hp5:=hp4.gr g5
  have hq5:=hq4.gr g5
  clear ho4 g24 hg4 hp4 hq4 g5
  by_cases c2:cY 0 gs x.good<0
  ·have hn:(([]:List (Cl×Int)),(4:Int))=r0:=by rw[←hr2.out];exact (if_pos c2).symm
   obtain ⟨b1,b2⟩:=bad 4 H5 hn
   replace b1:Hd _:=b1
   replace b2:Hd _:=b2
   clear hr2 hn go bad
   refine zK tyF ?_
   exact p4.out _ _ (k4.out _ _ (fin _ _ _ _ _ qp qp qe g25 b1.out b2.out))
  have hr3:=hr2.out
  rw[if_neg c2] at hr3
  replace hr3:Hd _:=hr3
  clear hr2
  obtain ⟨gi,hgi,hgat,hgn⟩:=sU (by omega:0≤cY 0 gs x.good)
  rw[hgi] at c2 ⊢
  have hglt:=(List.getElem?_eq_some_iff.1 hgat).1
  obtain ⟨gid,gg,goff,gcells,rfl,hgid,hggr,hgat2⟩:=hg5.open (by omega)
  obtain ⟨gu,hgx⟩:=hgat2 gi _ hgat
  have z1:=hgx.le
  have hgu:=hgx.of
  have lu:=hgu.len
  have lu2:=hgu.lt
  have z2:(gcells.drop (goff+gi*3+2)).headD (.b false)=gu:=hgx.f3
  have z3:(gcells.drop (goff+gi*3+1)).headD (.b false)=.o (.str (fR gs x.good).2.1):=hgx.f2
  have z4:=hgx.le2
  have z5:=hgx.le3
  clear hgat hgat2 hgx hgi hgn
  generalize fR gs x.good=gd at *
  have lo5:=ho5.lt
  have ll5:cS H5 1 (.one v')=.val (.one (.i .i64 (kl.length:Int))) H5:=by
   have:=ho5.slr.len
   rwa [List.length_map] at this
  refine zE tyF ?_
  refine zR tyF ?_
  refine zX tyF ?_
  refine R1.aS ?_
  repeat refine R1.aw ?_
  refine R1.s_h (by kernel_rfl) fun K6 hK6=>?_
  have key:Hd (∀ (b:Bool) (A:ab),slot A.tm 0=.one ((.o (.sl gid gg goff gs.length 3)))∧slot A.tm 3=.one ((.o (.ptr N 0 0 2)))∧slot A.tm 6=.one (v')∧slot A.tm 7=.one (.i .i64 (i:Int))∧slot A.tm 8=.one ((.o (.ptr M 0 0 8)))∧slot A.tm 9=.one (.i .i64 (gi:Int))∧slot A.tm 47=.one (.b b)∧A.nt=67∧A.dfr=[]→decide (x.kind=1∧gd.2.2≠[])=b→K6 A H5):=by
   clear t0 t3 t6 t7 t8 hnt hdf A lu lu2 hgu z2 z5
   rintro b A ⟨t0,t3,t6,t7,t8,t9,t47,hnt,hdf⟩ hb
   refine hK6.out _ _ ?_
   clear hK6 K6
   cases b with
   | true=>
    have hn:(([]:List (Cl×Int)),(52:Int))=r0:=by rw[←hr3.out];exact (if_pos (of_decide_eq_true hb)).symm
    obtain ⟨b1,b2⟩:=bad 52 H5 hn
    replace b1:Hd _:=b1
    replace b2:Hd _:=b2
    clear hr3 hn go bad hb
    refine zW tyF ?_
    exact p4.out _ _ (k4.out _ _ (fin _ _ _ _ _ qp qp qe g25 b1.out b2.out))
   | false=>
   have hr4:=hr3.out
   rw[if_neg (of_decide_eq_false hb)] at hr4
   clear hr3 hb
   by_cases c4:kl.length=64
   ·have hn:(([]:List (Cl×Int)),(3:Int))=r0:=by rw[←hr4];exact (if_pos c4).symm
    obtain ⟨b1,b2⟩:=bad 3 H5 hn
    have e5:((kl.length:Int)==64)=true:=beq_iff_eq.2 (by omega)
    replace b1:Hd _:=b1
    replace b2:Hd _:=b2
    clear hr4 hn go bad c4
    refine zW tyF ?_
    exact p4.out _ _ (k4.out _ _ (fin _ _ _ _ _ qp qp qe g25 b1.out b2.out))
   rw[if_neg c4] at hr4
   have e5:((kl.length:Int)==64)=false:=beq_false_of_ne (by omega)
   replace hr4:Hd _:=hr4
   clear bad fin
   refine zW tyF ?_
   refine zH (qA tyF (qA (ixC hglt) vA)) fun K7 hK7=>?_
   refine WE.MP (wT H5 p q x.num hp5 hq5 hBn) fun w6 H6 g6 ⟨p',q',hq6,hp',hq',ip,iq⟩=>?_
   subst hq6
   have ho6:=ho5.gr ju iv g6
   have rx:=(g6.get _ m1 not_false).trans rx
   have m1:=Nat.lt_of_lt_of_le m1 g6.nx
   have g26:=g25.gr g6
   have n56:=g6.nx
   have hi0:∀ id∈gM [.i .i64 (i:Int),.o (.str x.good),.o (.str gd.2.1),p',q'],¬id<N+1∧some id≠r:=fun id hid=>by
    rw[sP] at hid
    have h1:H5.nx≤id:=by
     rcases List.mem_append.1 hid with h|h
     ·exact ip id h
     ·exact iq id h
    refine ⟨by omega,fun e=>?_⟩
    have:=(ho5.row id e.symm).2
    omega
   have hcl:ClR H6 [.i .i64 (i:Int),.o (.str x.good),.o (.str gd.2.1),p',q'] ((i:Int),x.good,gd.2.1,x.num):=⟨p',q',rfl,hp',hq'⟩
   obtain ⟨hlt5,v7,H7,r7,happ,ho7,hf7,hr7⟩:=ho6.push ju iv pI KP hz.out hzl.out (by decide) (fun j h=>by omega) rfl hcl hi0 (by rw[List.length_map];omega)
   have r17:=(hf7.get _ m1 fun e=>(ho6.row _ e).1 (by omega)).trans rx
   have m17:=Nat.lt_of_lt_of_le m1 hf7.nx
   have g27:Gr H H7:=g26.then hf7 fun q hq=>.inl (by have:=(ho6.row q hq).1;have:=hN.out;omega)
   have hmap:(kl++[(((i:Int),x.good,gd.2.1,x.num),x.kind)]).map Prod.fst=kl.map Prod.fst++[((i:Int),x.good,gd.2.1,x.num)]:=by rw[List.map_append];rfl
   rw[←hmap] at ho7
   have hlen':(kl++[(((i:Int),x.good,gd.2.1,x.num),x.kind)]).length≤64:=by rw[List.length_append];show kl.length+1≤64;omega
   clear ho5 ho6 hi0 hcl hmap hp5 hq5 hp' hq' hf7 hr7 g26 g25 g6 rx hgid hggr hg5 ll5 lo5
   replace ho7:Hd _:=ho7
   refine zS (qA tyF gS) ?_
   refine ⟨hlt5,?_⟩
   refine zE tyF ?_
   exact (go.out _ v7 (some r7) _ _ zL hlen' g27 m17 r17 hr4.out ho7.out).2
  clear hr3 go
  by_cases c5:x.kind=1
  ·have e3:(x.kind==1)=true:=beq_iff_eq.2 c5
   by_cases c6:gd.2.2=[]
   ·have e4:¬(0:Int)<(gd.2.2.length:Int):=by rw[c6];decide
    have e6:decide (x.kind=1∧gd.2.2≠[])=false:=decide_eq_false fun h=>h.2 c6
    replace e6:Hd _:=e6
    clear c5 c6
    refine zS (qA tyF (ixC hglt)) ?_
    exact key.out _ _ zL e6.out
   ·have e4:(0:Int)<(gd.2.2.length:Int):=by
     have:gd.2.2.length≠0:=fun h=>c6 (List.eq_nil_of_length_eq_zero h)
     omega
    have e6:decide (x.kind=1∧gd.2.2≠[])=true:=decide_eq_true ⟨c5,c6⟩
    replace e6:Hd _:=e6
    clear c5 c6
    refine zS (qA tyF (ixC hglt)) ?_
    exact key.out _ _ zL e6.out
  ·have e3:(x.kind==1)=false:=beq_false_of_ne c5
   have e6:decide (x.kind=1∧gd.2.2≠[])=false:=decide_eq_false fun h=>c5 h.1
   replace e6:Hd _:=e6
   clear c5
   refine zS (qA tyF (ixC hglt)) ?_
   exact key.out _ _ zL e6.out
 ·have hie:i=cs.length:=by omega
  subst hie
  have hn:=hr.out
  rw[List.drop_length,cy] at hn
  have b1:(0:Int)=r0.2:=by rw[←hn]
  have b2:aY ClR 5 84 (fun j=>j<H.nx) H2 v' (r0.1.map Prod.fst) r:=by rw[←hn];exact ho.less fun j h=>by have:=hN.out;omega
  clear hr hn bad ho
  replace b1:Hd _:=b1
  replace b2:Hd _:=b2
  refine zW tyF ?_
  refine k2.out _ _ ?_
  refine zW tyF ?_
  exact fin _ _ _ _ _ qp qp qe g2 b1.out b2.out
end Go.Proofs.YtnhbkodnmkojpaaGreat
namespace Go.Proofs.YtnhbkodnmkojpaaGreat
open Go Go.Eng
theorem uz:al Tryz.prog 35=true:=by kernel_rfl
theorem No:al Tryz.prog 10=true:=by kernel_rfl
def UC (gs:List Gd) (cs:List Cs) (x:Cl×Int):Prop:=∃ (j:Nat) (c:Cs),x.1.1=(j:Int)∧cs[j]?=some c∧c.kind=x.2∧c.good=x.1.2.1∧0≤cY 0 gs x.1.2.1∧x.1.2.2.1=(fR gs x.1.2.1).2.1∧x.1.2.2.2=c.num∧x.2≠4∧x.1.2.1≠[]
theorem ni (gs:List Gd) (all:List Cs):∀ (i:Nat) (cs:List Cs) (acc:List (Cl×Int)),all.drop i=cs→(∀ x∈acc,UC gs all x)→acc.length≤64→(∀ x∈(cy gs i cs acc).1,UC gs all x)∧(cy gs i cs acc).1.length≤64
 | _,[],acc,_,h,hl=>⟨h,hl⟩
 | i,c::cs,acc,hd,h,hl=>by
  have hc:all[i]?=some c:=by
   have h1:(all.drop i)[0]?=some c:=by rw[hd];rfl
   rw[List.getElem?_drop] at h1;exact h1
  have hd2:all.drop (i+1)=cs:=by
   rw[←List.drop_drop,hd];rfl
  unfold cy
  split
  ·exact ni gs all (i+1) cs acc hd2 h hl
  ·rename_i c1
   split
   ·exact ⟨(fun _ h=>by cases h),Nat.zero_le _⟩
   ·rename_i c2
    split
    ·exact ⟨(fun _ h=>by cases h),Nat.zero_le _⟩
    ·split
     ·exact ⟨(fun _ h=>by cases h),Nat.zero_le _⟩
     ·rename_i c4
      refine ni gs all (i+1) cs _ hd2 (fun x hx=>?_) (by rw[List.length_append];show acc.length+1≤64;omega)
      rcases List.mem_append.1 hx with hx|hx
      ·exact h x hx
      ·rw[List.mem_singleton.1 hx]
       exact ⟨i,c,rfl,hc,rfl,rfl,by show 0≤cY 0 gs c.good;omega,rfl,rfl,fun h=>c1 (.inl h),fun h=>c1 (.inr h)⟩
theorem Ff (key:List UInt8×Int):∀ (n a:Nat) (l:List (Cl×Int)),a≤n→dh key n a l≤n+l.length
 | n,a,[],h=>by simpa [dh] using h
 | n,a,x::l,h=>by
  show dh key (n+1) _ l≤_
  have:=Ff key (n+1) (if x.1.2.1=key.1∧x.2=key.2 then n+1 else a) l (by split <;> omega)
  rw[List.length_cons];omega
theorem vM (g:Gd) (fr:Nat):∀ (n:Nat) (l:List (Cl×Int)),n+l.length≤fr→ck g fr n l=[]
 | _,[],_=>rfl
 | n,x::l,h=>by
  rw[List.length_cons] at h
  show (if fr≤n∧x.2=1∧dp g x.1.2.1=true then (n:Int)::ck g fr (n+1) l else ck g fr (n+1) l)=[]
  rw[if_neg (fun h'=>by have:=h'.1;omega),vM g fr (n+1) l (by omega)]
theorem tp (g:Gd) (fr:Nat):∀ (n:Nat) (l:List (Cl×Int)) (x:Cl×Int),ck g fr n (l++[x])=ck g fr n l++(if fr≤n+l.length∧x.2=1∧dp g x.1.2.1=true then [((n+l.length:Nat):Int)] else [])
 | n,[],x=>by
  simp[ck]
 | n,y::l,x=>by
  have e:n+1+l.length=n+(l.length+1):=by omega
  show (if fr≤n∧y.2=1∧dp g y.1.2.1=true then (n:Int)::ck g fr (n+1) (l++[x]) else ck g fr (n+1) (l++[x]))=(if fr≤n∧y.2=1∧dp g y.1.2.1=true then (n:Int)::ck g fr (n+1) l else ck g fr (n+1) l)++_
  rw[tp g fr (n+1) l x,List.length_cons,e]
  split <;> rfl
theorem uS (g:Gd) (fr:Nat):∀ (n:Nat) (l:List (Cl×Int)),(ck g fr n l).length≤l.length
 | _,[]=>Nat.le_refl _
 | n,x::l=>by
  have:=uS g fr (n+1) l
  show (if fr≤n∧x.2=1∧dp g x.1.2.1=true then (n:Int)::ck g fr (n+1) l else ck g fr (n+1) l).length≤l.length+1
  split
  ·rw[List.length_cons];omega
  ·omega
theorem ox (gs:List Gd):∀ (pre l:List (Cl×Int)),(eK gs pre l).length≤l.length
 | _,[]=>Nat.le_refl _
 | pre,x::l=>by
  have:=ox gs (pre++[x]) l
  show (im gs pre x++eK gs (pre++[x]) l).length≤l.length+1
  rw[List.length_append]
  unfold im
  split
  ·simp only[List.length_nil];omega
  ·simp only[List.length_cons,List.length_nil];omega
theorem kD {α:Type} {l:List α} {i:Nat} {x:α} (h:l[i]?=some x):l.take (i+1)=l.take i++[x]:=by
 rw[List.take_add_one,h];rfl
theorem dO.ids {H:Hp} {v:AC} {e:TypeId} {sz n:Nat} {cells:List AC} {r:Option Nat} (h:dO H v e sz n cells r):∀ id∈(AV.one v).ids,r=some id:=by
 rcases h with ⟨rfl,_⟩|⟨id,lo,gen,e,rfl,_⟩
 ·intro i hi;cases hi
 ·intro i hi
  rw[List.mem_singleton.1 hi]
  exact e
theorem HF (H:Hp) (k gv v:AC) (o:Option (List Lad)) (gs:List Gd) (nm:List UInt8) (cs:List Cs) (hk:pP H k o) (hbl:∀ ls,o=some ls→(∀ x∈ls,x.2.length≤1000000)∧ls.length≤1000000) (hg:SlG H gv gs) (hv:bX H v cs) (hB:TbB cs) (hO:∀ x∈gs,x.2.2.length≤4611686018427387904):
  Con E2 10 [.one k,.one gv,.agg [.o (.str nm),v]] H (fun _=>False) fun r H'=>∃ a b,r=.tup [(true,[a,b]),(false,[.i .i64 (gV o gs (nm,cs))])]∧gP H' a (iO o gs (nm,cs)).1∧np H' b (iO o gs (nm,cs)).2:=by
 refine Con.of rfl fun lg=>?_
 have hk:pP ⟨H.t,H.nx,lg⟩ k o:=by cases o <;> exact hk
 have hg:SlG ⟨H.t,H.nx,lg⟩ gv gs:=hg
 have hv:bX ⟨H.t,H.nx,lg⟩ v cs:=hv
 generalize (⟨H.t,H.nx,lg⟩:Hp)=H at hk hg hv ⊢
 refine C1.body (E:=E2) (nt:=140) (res:=[.cell 6 37,.tmp 7]) Tryz.func10 rfl rfl rfl rfl rfl fun tm hargs=>?_
 have h0:=hargs 0 _ rfl
 have h1:=hargs 1 _ rfl
 have h2:=hargs 2 _ rfl
 clear hargs
 generalize hp0:iO o gs (nm,cs)=p0
 generalize he0:gV o gs (nm,cs)=e0
 have fin:∀ (a b:AC) (A:ab) (H9:Hp) (M:Nat),slot A.tm 6=.one (.o (.ptr M 0 0 2))→slot A.tm 7=.one (.i .i64 e0)→closeAll H9 A.dfr=some H9→H9.get M=some (.arr [a,b] 37 0 0)→Gr H H9→gP H9 a p0.1→np H9 b p0.2 →
   ∃ w H4,ao E2 [.cell 6 37,.tmp 7] (.ret,A,H9)=.ok [(w,H4)]∧Gr H H4∧∀ lg:List Nat,∃ a b,w=.tup [(true,[a,b]),(false,[.i .i64 e0])]∧gP ⟨H4.t,H4.nx,lg⟩ a p0.1∧np ⟨H4.t,H4.nx,lg⟩ b p0.2:=fun a b A H9 M s6 s7 hd r1 hgr h1 h2=>
  ⟨_,H9,cE (.inr rfl) hd (fw jQ s6 (by rw[r1];exact qq) (Nat.le_refl _) rfl (kS s7 lL)),hgr,fun lg=>⟨a,b,rfl,h1,h2⟩⟩
 have bad:∀ (e:Int),e≠0→e0=e→∀ H9:Hp,gP H9 (.o .nilS) p0.1∧np H9 (.o .nilS) p0.2:=fun e hne he H9=>by
  have hk0:qk o gs (nm,cs)=[]:=if_neg (by rw[he0,he];exact hne)
  rw[←hp0]
  unfold iO
  rw[hk0]
  exact ⟨⟨[],⟨rfl,.inl ⟨rfl,rfl⟩⟩,trivial⟩,⟨[],⟨rfl,.inl ⟨rfl,rfl⟩⟩,trivial⟩⟩
 have lv:=hv.lt
 replace hp0:Hd _:=hp0
 replace he0:Hd _:=he0
 refine zG tyF fun K hK=>?_
 refine hK.out _ _ ?_
 refine R1.gen (fun A1 H1=>Gr H H1∧H.nx+1<H1.nx∧H1.get H.nx=some (.arr [.o (.str nm),v] 26 0 0)∧H1.get (H.nx+1)=some (.arr [.o .nilS,.o .nilS] 37 0 0)∧slot A1.tm 0=.one (k)∧slot A1.tm 1=.one (gv)∧slot A1.tm 5=.one ((.o (.ptr H.nx 0 0 2)))∧slot A1.tm 6=.one ((.o (.ptr (H.nx+1) 0 0 2)))∧A1.nt=140∧A1.dfr=[])
  ⟨((Fr.refl _).new _).new _,by show H.nx+1<H.nx+1+1;omega,by rw[aN (by show H.nx<H.nx+1;omega)];exact an rfl,an rfl,zL⟩ ?_
 clear h0 h1 h2 tm hK K lv
 rintro A1 H1 ⟨g1,n1,r0,r1,t0,t1,t5,t6,hnt,hdf⟩
 obtain ⟨N,hN⟩:∃ N,N=H.nx:=⟨_,rfl⟩
 rw[←hN] at n1 r0 r1 t5 t6
 replace hN:Hd _:=hN
 have n0:N<H1.nx:=by omega
 have hk1:=hk.gr g1
 have hg:=hg.gr g1
 have hv:=hv.gr g1
 refine zG (qA tyF uk) fun K hK=>?_
 refine WE.con (sJ H1 k gv o gs hk1 hbl hg hO) fun w2 H2 g2 hq2=>?_
 subst hq2
 have r0:=(g2.get _ n0 not_false).trans r0
 have n0:=Nat.lt_of_lt_of_le n0 g2.nx
 have r1:=(g2.get _ n1 not_false).trans r1
 have n1:=Nat.lt_of_lt_of_le n1 g2.nx
 have hg:=hg.gr g2
 have hv:=hv.gr g2
 have g2:=g1.gr g2
 clear g1 hk1
 by_cases c1:jy o gs=0
 case neg=>
  have he:e0=jy o gs:=by rw[←he0.out];exact if_pos c1
  obtain ⟨b1,b2⟩:=bad _ c1 he ((H2.mod (N+1) (.arr [.o .nilS,.o .nilS] 37 0 0)))
  have e1:(jy o gs==0)=false:=beq_false_of_ne c1
  rw[←he] at e1 ⊢
  have g9:=g2.mod (i:=N+1) (.arr [.o .nilS,.o .nilS] 37 0 0) (.inl (by have:=hN.out;omega))
  replace b1:Hd _:=b1
  replace b2:Hd _:=b2
  replace g9:Hd _:=g9
  clear c1 he bad
  refine zK tyF ?_
  exact fin _ _ _ _ (N+1) (by simp only[aa,Nat.reduceEqDiff,reduceIte,t6]) qp (by simp only[ag,hdf];rfl) (ai rfl) g9.out b1.out b2.out
 have hL:gs.length≤1000000:=Ep c1
 rw[c1]
 have lv:=hv.lt
 refine zK tyF ?_
 refine zG (qA tyF CB) fun K hK=>?_
 refine WE.con (Av H2 nm v cs hv hB) fun w3 H3 g3 hq3=>?_
 subst hq3
 have r0:=(g3.get _ n0 not_false).trans r0
 have n0:=Nat.lt_of_lt_of_le n0 g3.nx
 have r1:=(g3.get _ n1 not_false).trans r1
 have n1:=Nat.lt_of_lt_of_le n1 g3.nx
 have hg:=hg.gr g3
 have hv:=hv.gr g3
 have g3:=g2.gr g3
 clear g2 lv
 by_cases c2:ir (nm,cs)=0
 case neg=>
  have he:e0=ir (nm,cs):=by
   rw[←he0.out]
   unfold gV
   rw[if_neg (fun h=>h c1),if_pos c2]
  obtain ⟨b1,b2⟩:=bad _ c2 he ((H3.mod (N+1) (.arr [.o .nilS,.o .nilS] 37 0 0)))
  have e1:(ir (nm,cs)==0)=false:=beq_false_of_ne c2
  rw[←he] at e1 ⊢
  have g9:=g3.mod (i:=N+1) (.arr [.o .nilS,.o .nilS] 37 0 0) (.inl (by have:=hN.out;omega))
  replace b1:Hd _:=b1
  replace b2:Hd _:=b2
  replace g9:Hd _:=g9
  clear c1 c2 he bad
  refine zK tyF ?_
  exact fin _ _ _ _ (N+1) (by simp only[aa,Nat.reduceEqDiff,reduceIte,t6]) qp (by simp only[ag,hdf];rfl) (ai rfl) g9.out b1.out b2.out
 rw[c2]
 have lv:=hv.lt
 have lg3:=hg.lt
 refine zK tyF ?_
 refine zG (qA tyF Mw) fun K hK=>?_
 refine WE.con (HI H3 gv v gs nm cs hg hv hB hL hO) fun w4 H4 g4 ⟨c4,ro4,hq4,hoc⟩=>?_
 subst hq4
 have r0:=(g4.get _ n0 not_false).trans r0
 have n0:=Nat.lt_of_lt_of_le n0 g4.nx
 have r1:=(g4.get _ n1 not_false).trans r1
 have n1:=Nat.lt_of_lt_of_le n1 g4.nx
 have hg:=hg.gr g4
 have hv:=hv.gr g4
 have g4:=g3.gr g4
 clear g3 lv lg3
 have hee:e0=(cy gs 0 cs []).2:=by
  rw[←he0.out]
  unfold gV
  rw[if_neg (fun h=>h c1),if_neg (fun h=>h c2)]
 have hok:=ni gs cs 0 cs [] rfl (fun _ h=>by cases h) (Nat.zero_le _)
 by_cases c3:(cy gs 0 cs []).2=0
 case neg=>
  obtain ⟨b1,b2⟩:=bad _ c3 hee ((H4.mod (N+1) (.arr [.o .nilS,.o .nilS] 37 0 0)))
  have e1:(e0==0)=false:=beq_false_of_ne (by rw[hee];exact c3)
  rw[←hee]
  have g9:=g4.mod (i:=N+1) (.arr [.o .nilS,.o .nilS] 37 0 0) (.inl (by have:=hN.out;omega))
  replace b1:Hd _:=b1
  replace b2:Hd _:=b2
  replace g9:Hd _:=g9
  replace hoc:Hd _:=hoc
  clear c1 c2 c3 hee bad hok
  refine zK tyF ?_
  exact fin _ _ _ _ (N+1) (by simp only[aa,Nat.reduceEqDiff,reduceIte,t6]) qp (by simp only[ag,hdf];rfl) (ai rfl) g9.out b1.out b2.out
 have hpp:p0=((cy gs 0 cs []).1.map Prod.fst,eK gs [] (cy gs 0 cs []).1):=by
  rw[←hp0.out]
  unfold iO qk
  rw[if_pos (by rw[he0.out,hee,c3])]
 rw[c3]
 rw[c3] at hee
 have mN3:N+1<H3.nx:=by have:=n1;omega
 generalize (cy gs 0 cs []).1=kl at hoc hok hpp
 have hcl4:gP H4 c4 (kl.map Prod.fst):=hoc.slr
 replace hoc:=hoc.less (X':=fun j=>j=N+1) fun j h=>by rw[h];exact mN3
 subst hee
 clear c1 c2 c3 bad hp0 he0
 obtain ⟨hok,hkl⟩:=hok
 have lk:=hcl4.lt
 have hkm:(kl.map Prod.fst).length=kl.length:=List.length_map _
 obtain ⟨zr,hzr,hzrl⟩:=Lv
 obtain ⟨zi,hzi,hzil⟩:=uv
 replace hkm:Hd _:=hkm
 replace hzr:Hd _:=hzr
 replace hzrl:Hd _:=hzrl
 replace hzi:Hd _:=hzi
 replace hzil:Hd _:=hzil
 replace hpp:Hd _:=hpp
 refine zK tyF ?_
 refine R1.gen (fun A5 H5=>Gr H4 H5∧H4.nx<H5.nx∧H5.get H4.nx=some (.arr [c4,.o .nilS] 37 0 0)∧slot A5.tm 1=.one (gv)∧slot A5.tm 5=.one ((.o (.ptr N 0 0 2)))∧slot A5.tm 6=.one ((.o (.ptr (N+1) 0 0 2)))∧slot A5.tm 10=.one (c4)∧slot A5.tm 12=.one ((.o (.ptr H4.nx 0 0 2)))∧slot A5.tm 13=.one ((.i .i64 0))∧A5.nt=140∧A5.dfr=[])
  ⟨((Fr.refl _).new _).mod _ (.inl (Nat.le_refl _)),Nat.lt_succ_self _,ai rfl,zL⟩ ?_
 clear t0 t1 t5 t6 hnt hdf A1
 rintro A5 H5 ⟨g5,mU,rU,t1,t5,t6,t10,t12,t13,hnt,hdf⟩
 obtain ⟨U,hU⟩:∃ U,U=H4.nx:=⟨_,rfl⟩
 have nU:N+1<U:=by omega
 rw[←hU] at mU rU t12
 obtain ⟨B,hB2⟩:∃ B,B=H5.nx:=⟨_,rfl⟩
 have hUB:U<B:=by omega
 have hNB:H.nx≤N:=by have:=hN.out;omega
 have hUl:H4.nx≤U:=by omega
 have hBl:B≤H5.nx:=by omega
 clear hU hB2 lk
 refine R1.cq fun K k1 k2 k3 k4=>?_
 refine R1.loop (fun z A H6=>∃ (i:Nat) (u:AC) (r:Option Nat),z=kl.length - i∧i≤kl.length∧Gr H4 H6∧B≤H6.nx∧H6.get U=some (.arr [c4,u] 37 0 0)∧aY RlR 2 86 (fun j=>j<B) H6 u (eK gs [] (kl.take i)) r ∧
   slot A.tm 1=.one (gv)∧slot A.tm 5=.one ((.o (.ptr N 0 0 2)))∧slot A.tm 6=.one ((.o (.ptr (N+1) 0 0 2)))∧slot A.tm 10=.one (c4)∧slot A.tm 12=.one ((.o (.ptr U 0 0 2)))∧slot A.tm 13=.one (.i .i64 (i:Int))∧A.nt=140∧A.dfr=[]) ?_ kl.length
  ⟨0,.o .nilS,none,rfl,Nat.zero_le _,g5,hBl,rU,aY.nil,zL⟩
 clear t1 t5 t6 t10 t12 t13 hnt hdf A5 rU k3 g5 mU hBl H5
 rintro z A H6 ⟨i,u,r,rfl,hi,g6,nB,rU,ho,t1,t5,t6,t10,t12,t13,hnt,hdf⟩
 have hcl6:=hcl4.gr g6
 have hv6:=hv.gr g6
 have r06:=(g6.get _ n0 not_false).trans r0
 have mN6:=Nat.lt_of_lt_of_le n0 g6.nx
 have mU6:U<H6.nx:=by omega
 have l1:cS H6 1 (.one c4)=.val (.one (.i .i64 (kl.length:Int))) H6:=by have:=hcl6.len;rwa [hkm.out] at this
 have l2:=hcl6.lt
 refine zW tyF ?_
 refine zI tyF (fun hc=>?_) (fun hc=>?_)
 ·have hlt:i<kl.length:=by omega
  obtain ⟨x,ex⟩:∃ x,kl[i]?=some x:=⟨_,List.getElem?_eq_getElem hlt⟩
  have hmem:=List.mem_of_getElem? ex
  have hw2:IntKind.i64.wrap ((i:Int)+1)=((i+1:Nat):Int):=by rw[aX (by omega) (by omega)];omega
  obtain ⟨j,c,xj,xc,xk,xg,xi,xf,xn,x4,xe⟩:=hok x hmem
  have hjlt:=(List.getElem?_eq_some_iff.1 xc).1
  obtain ⟨gi,hgi,hgat,hgn⟩:=sU xi
  have hsn:=kD ex
  have hrl:=oc gs (kl.take i) [] x
  rw[←hsn,List.nil_append] at hrl
  have lkt:(kl.take i).length=i:=by rw[List.length_take];omega
  obtain ⟨cid,cg,coff,ccells,ec,hcid,hcgr,hcat⟩:=hcl6.open (by rw[hkm.out];omega)
  rw[hkm.out] at ec
  have exm:(kl.map Prod.fst)[i]?=some x.1:=by rw[List.getElem?_map,ex];rfl
  obtain ⟨p,q,hx⟩:=hcat i _ exm
  have y1:(ccells.drop (coff+i*5)).headD (.b false)=.i .i64 (j:Int):=by rw[←xj];exact hx.f1
  have y2:=hx.le1
  obtain ⟨vid,vg,voff,vcells,ev,hvid,hvgr,hvat⟩:=hv6.open (by omega)
  obtain ⟨p2,q2,w2,hy⟩:=hvat j _ xc
  have y3:(vcells.drop (voff+j*8+3)).headD (.b false)=.i .i64 x.2:=by rw[←xk];exact hy.f3
  have y4:voff+j*8+3+1≤vcells.length:=by have:=hy.le;omega
  clear hx hy exm
  subst ec
  subst ev
  replace hsn:Hd _:=hsn
  replace hrl:Hd _:=hrl
  replace lkt:Hd _:=lkt
  replace xj:Hd _:=xj
  replace hgi:Hd _:=hgi
  replace hgn:Hd _:=hgn
  replace hcat:Hd _:=hcat
  replace hvat:Hd _:=hvat
  replace xf:Hd _:=xf
  replace xk:Hd _:=xk
  replace xg:Hd _:=xg
  replace xn:Hd _:=xn
  refine zW tyF ?_
  refine R1.cq fun K2 p1 p2 p3 p4=>?_
  by_cases c1:x.2=1
  ·have e1:(x.2==1)=true:=beq_iff_eq.2 c1
   have hru:im gs (kl.take i) x=[]:=if_pos c1
   have hrn:eK gs [] (kl.take (i+1))=eK gs [] (kl.take i):=by rw[hrl.out,hru,List.append_nil]
   rw[←hrn] at ho
   clear hrn hru c1 l1 l2
   replace ho:Hd _:=ho
   refine zW (qA tyF (qA (ixC hlt) (ixC hjlt))) ?_
   refine p2.out _ _ ?_
   refine zW tyF ?_
   exact ⟨kl.length - (i+1),by omega,i+1,u,r,rfl,hlt,g6,nB,rU,ho.out,zL⟩
  have e1:(x.2==1)=false:=beq_false_of_ne c1
  have hru:im gs (kl.take i) x=[((i:Int),ck (fR gs x.1.2.1) (dh (x.1.2.1,x.2) 0 0 (kl.take i)) 0 (kl.take i))]:=by
   unfold im;rw[if_neg c1,lkt.out]
  replace hru:Hd _:=hru
  clear c1
  refine zW (qA tyF (qA (ixC hlt) (ixC hjlt))) ?_
  refine R1.cq fun K5 m1 m2 m3 m4=>?_
  refine R1.loop (fun z A H7=>∃ n:Nat,z=i - n∧n≤i∧H6=H7∧slot A.tm 1=.one (gv)∧slot A.tm 5=.one ((.o (.ptr N 0 0 2)))∧slot A.tm 6=.one ((.o (.ptr (N+1) 0 0 2)))∧slot A.tm 10=.one ((.o (.sl cid cg coff kl.length 5)))∧slot A.tm 12=.one ((.o (.ptr U 0 0 2)))∧slot A.tm 13=.one (.i .i64 (i:Int))∧slot A.tm 14=.one ((.i .i64 x.2))∧slot A.tm 15=.one (.i .i64 ((dh (x.1.2.1,x.2) 0 0 (kl.take n)):Int))∧slot A.tm 16=.one (.i .i64 (n:Int))∧A.nt=140∧A.dfr=[]) ?_ i
   ⟨0,rfl,Nat.zero_le _,rfl,zL⟩
  ·clear t1 t5 t6 t10 t12 t13 hnt hdf A m3 l1 l2
   rintro z A H7 ⟨n,rfl,hn,rfl,t1,t5,t6,t10,t12,t13,t14,t15,t16,hnt,hdf⟩
   refine zW tyF ?_
   refine zI tyF (fun hc=>?_) (fun hc=>?_)
   ·have hnl:n<kl.length:=by omega
    obtain ⟨y,ey⟩:∃ y,kl[n]?=some y:=⟨_,List.getElem?_eq_getElem hnl⟩
    have hw2:IntKind.i64.wrap ((n:Int)+1)=((n+1:Nat):Int):=by rw[aX (by omega) (by omega)];omega
    obtain ⟨j',c',yj,yc,yk,yg,yi,yf,yn,y4',ye⟩:=hok y (List.mem_of_getElem? ey)
    have hjlt':=(List.getElem?_eq_some_iff.1 yc).1
    have eym:(kl.map Prod.fst)[n]?=some y.1:=by rw[List.getElem?_map,ey];rfl
    have exm:(kl.map Prod.fst)[i]?=some x.1:=by rw[List.getElem?_map,ex];rfl
    obtain ⟨p',q',hy'⟩:=hcat.out n _ eym
    obtain ⟨p5,q5,hx'⟩:=hcat.out i _ exm
    have z1:(ccells.drop (coff+n*5)).headD (.b false)=.i .i64 (j':Int):=by rw[←yj];exact hy'.f1
    have z2:=hy'.le1
    have z3:=hy'.f2
    have z4:=hy'.le2
    have z5:=hx'.f2
    have z6:=hx'.le2
    obtain ⟨p6,q6,w6,hz'⟩:=hvat.out j' _ yc
    have z7:(vcells.drop (voff+j'*8+3)).headD (.b false)=.i .i64 y.2:=by rw[←yk];exact hz'.f3
    have z8:voff+j'*8+3+1≤vcells.length:=by have:=hz'.le;omega
    have hfr:=jT (x.1.2.1,x.2) 0 0 (kl.take n) y
    rw[←kD ey] at hfr
    have lkt':(kl.take n).length=n:=by rw[List.length_take];omega
    rw[lkt',Nat.zero_add] at hfr
    clear yj yk yg yi yf yn y4' ye hx' hy' hz' eym exm ey yc lkt' y1 y2
    clear hlt hmem ex x4 xe
    have hn1:n+1≤i:=by omega
    have go:Hd (∀ A:ab,slot A.tm 1=.one (gv)∧slot A.tm 5=.one ((.o (.ptr N 0 0 2)))∧slot A.tm 6=.one ((.o (.ptr (N+1) 0 0 2)))∧slot A.tm 10=.one ((.o (.sl cid cg coff kl.length 5)))∧slot A.tm 12=.one ((.o (.ptr U 0 0 2)))∧slot A.tm 13=.one (.i .i64 (i:Int))∧slot A.tm 14=.one ((.i .i64 x.2))∧slot A.tm 15=.one (.i .i64 ((dh (x.1.2.1,x.2) 0 0 (kl.take (n+1))):Int))∧slot A.tm 16=.one (.i .i64 ((n+1):Int))∧A.nt=140∧A.dfr=[]→∃ z',z'<i - n∧∃ n':Nat,z'=i - n'∧n'≤i∧H6=H6∧slot A.tm 1=.one (gv)∧slot A.tm 5=.one ((.o (.ptr N 0 0 2)))∧slot A.tm 6=.one ((.o (.ptr (N+1) 0 0 2)))∧slot A.tm 10=.one ((.o (.sl cid cg coff kl.length 5)))∧slot A.tm 12=.one ((.o (.ptr U 0 0 2)))∧slot A.tm 13=.one (.i .i64 (i:Int))∧slot A.tm 14=.one ((.i .i64 x.2))∧slot A.tm 15=.one (.i .i64 ((dh (x.1.2.1,x.2) 0 0 (kl.take n')):Int))∧slot A.tm 16=.one (.i .i64 (n':Int))∧A.nt=140∧A.dfr=[]):=fun A h=>⟨i - (n+1),by omega,n+1,rfl,hn1,rfl,h⟩
    refine zW tyF ?_
    refine R1.cq fun K6 u1 u2 u3 u4=>?_
    by_cases d1:y.2=x.2
    ·have e2:(y.2==x.2)=true:=beq_iff_eq.2 d1
     by_cases d2:y.1.2.1=x.1.2.1
     ·have e3:lEq y.1.2.1 x.1.2.1=true:=by rw[bU];exact beq_iff_eq.2 d2
      have e4:(y.1.2.1==x.1.2.1)=true:=beq_iff_eq.2 d2
      rw[if_pos ⟨d2,d1⟩] at hfr
      rw[hfr] at go
      clear d1 d2 hfr
      refine zW (qA tyF (qA (ixC hnl) (qA (ixC hjlt') (ixC (show i<kl.length by omega))))) ?_
      refine u1.out _ _ ?_
      refine zW tyF ?_
      exact go.out _ zL
     ·have e3:lEq y.1.2.1 x.1.2.1=false:=by rw[bU];exact beq_false_of_ne d2
      have e4:(y.1.2.1==x.1.2.1)=false:=beq_false_of_ne d2
      rw[if_neg (fun h=>d2 h.1)] at hfr
      rw[hfr] at go
      clear d1 d2 hfr
      refine zW (qA tyF (qA (ixC hnl) (qA (ixC hjlt') (ixC (show i<kl.length by omega))))) ?_
      refine u1.out _ _ ?_
      refine zW tyF ?_
      exact go.out _ zL
    ·have e2:(y.2==x.2)=false:=beq_false_of_ne d1
     rw[if_neg (fun h=>d1 h.2)] at hfr
     rw[hfr] at go
     clear d1 hfr
     refine zW (qA tyF (qA (ixC hnl) (ixC hjlt'))) ?_
     refine u1.out _ _ ?_
     refine zW tyF ?_
     exact go.out _ zL
   ·have hne:n=i:=by omega
    subst hne
    clear hn
    refine zW tyF ?_
    refine m2.out _ _ ?_
    clear m1 m2 m4
    have hfl:dh (x.1.2.1,x.2) 0 0 (kl.take n)≤n:=by have:=Ff (x.1.2.1,x.2) 0 0 (kl.take n) (Nat.le_refl _);rw[lkt.out] at this;omega
    have hlow:=vM (fR gs x.1.2.1) (dh (x.1.2.1,x.2) 0 0 (kl.take n)) 0 ((kl.take n).take (dh (x.1.2.1,x.2) 0 0 (kl.take n))) (by rw[List.length_take];omega)
    rw[List.take_take,Nat.min_eq_left hfl] at hlow
    generalize hfr:dh (x.1.2.1,x.2) 0 0 (kl.take n)=fr at hfl hlow t15
    replace hfr:Hd _:=hfr
    have hru1:=hru.out
    rw[hfr.out] at hru1
    replace hru1:Hd _:=hru1
    replace hlow:Hd _:=hlow
    clear hru hfr
    have hg7:=hg.gr g6
    have mU7:=mU6
    have rU7:=rU
    refine zW tyF ?_
    refine R1.gen (fun A8 H8=>Gr H6 H8∧H6.nx<H8.nx∧H8.get H6.nx=some (.arr [.i .i64 (n:Int),.o .nilS] 86 0 0)∧slot A8.tm 1=.one (gv)∧slot A8.tm 5=.one ((.o (.ptr N 0 0 2)))∧slot A8.tm 6=.one ((.o (.ptr (N+1) 0 0 2)))∧slot A8.tm 10=.one ((.o (.sl cid cg coff kl.length 5)))∧slot A8.tm 12=.one ((.o (.ptr U 0 0 2)))∧slot A8.tm 13=.one (.i .i64 (n:Int))∧slot A8.tm 17=.one ((.o (.ptr H6.nx 0 0 2)))∧slot A8.tm 18=.one (.i .i64 (fr:Int))∧A8.nt=140∧A8.dfr=[])
     ⟨((Fr.refl _).new _).mod _ (.inl (Nat.le_refl _)),Nat.lt_succ_self _,ai rfl,zL⟩ ?_
    clear t1 t5 t6 t10 t12 t13 t14 t15 t16 hnt hdf A
    rintro A8 H8 ⟨g8,mM,rM,t1,t5,t6,t10,t12,t13,t17,t18,hnt,hdf⟩
    obtain ⟨M,hM⟩:∃ M,M=H6.nx:=⟨_,rfl⟩
    have hUM:U<M:=by omega
    have hBM:B≤M:=by omega
    have hMl:H6.nx≤M:=Nat.le_of_eq hM.symm
    have hMr:M≤H6.nx:=Nat.le_of_eq hM
    rw[←hM] at mM rM t17
    clear hM
    refine R1.cq fun K7 w1 w2 w3 w4=>?_
    refine R1.loop (fun z A H9=>∃ (m:Nat) (v5:AC) (r5:Option Nat),z=n - m∧fr≤m∧m≤n∧Gr H6 H9∧M<H9.nx∧H9.get M=some (.arr [.i .i64 (n:Int),v5] 86 0 0)∧dO H9 v5 3 1 (ck (fR gs x.1.2.1) fr 0 (kl.take m)).length ((ck (fR gs x.1.2.1) fr 0 (kl.take m)).flatMap pj) r5∧(∀ q,r5=some q→M<q)∧slot A.tm 1=.one (gv)∧slot A.tm 5=.one ((.o (.ptr N 0 0 2)))∧slot A.tm 6=.one ((.o (.ptr (N+1) 0 0 2)))∧slot A.tm 10=.one ((.o (.sl cid cg coff kl.length 5)))∧slot A.tm 12=.one ((.o (.ptr U 0 0 2)))∧slot A.tm 13=.one (.i .i64 (n:Int))∧slot A.tm 17=.one ((.o (.ptr M 0 0 2)))∧slot A.tm 18=.one (.i .i64 (m:Int))∧A.nt=140∧A.dfr=[]) ?_ (n - fr)
     ⟨fr,.o .nilS,none,rfl,Nat.le_refl _,hfl,g8,mM,rM,by rw[hlow.out];exact .inl ⟨rfl,rfl,rfl,rfl⟩,fun q hq=>(by cases hq),zL⟩
    clear t1 t5 t6 t10 t12 t13 t17 t18 hnt hdf A8 w3 g8 mM rM H8
    rintro z A H9 ⟨m,v5,r5,rfl,hfm,hm,g9,mM,rM,hown,hrow,t1,t5,t6,t10,t12,t13,t17,t18,hnt,hdf⟩
    refine zW tyF ?_
    refine zI tyF (fun hc=>?_) (fun hc=>?_)
    ·have hml:m<kl.length:=by omega
     obtain ⟨y,ey⟩:∃ y,kl[m]?=some y:=⟨_,List.getElem?_eq_getElem hml⟩
     have hw2:IntKind.i64.wrap ((m:Int)+1)=((m+1:Nat):Int):=by rw[aX (by omega) (by omega)];omega
     obtain ⟨j',c',yj,yc,yk,yg,yi,yf,yn,y4',ye⟩:=hok y (List.mem_of_getElem? ey)
     have hjlt':=(List.getElem?_eq_some_iff.1 yc).1
     have eym:(kl.map Prod.fst)[m]?=some y.1:=by rw[List.getElem?_map,ey];rfl
     have exm:(kl.map Prod.fst)[n]?=some x.1:=by rw[List.getElem?_map,ex];rfl
     obtain ⟨p',q',hy'⟩:=hcat.out m _ eym
     obtain ⟨p5,q5,hx'⟩:=hcat.out n _ exm
     have z1:(ccells.drop (coff+m*5)).headD (.b false)=.i .i64 (j':Int):=by rw[←yj];exact hy'.f1
     have z2:=hy'.le1
     have z3:=hy'.f2
     have z4:=hy'.le2
     have z5:=hx'.f2
     have z6:=hx'.le2
     obtain ⟨p6,q6,w6,hz'⟩:=hvat.out j' _ yc
     have z7:(vcells.drop (voff+j'*8+3)).headD (.b false)=.i .i64 y.2:=by rw[←yk];exact hz'.f3
     have z8:voff+j'*8+3+1≤vcells.length:=by have:=hz'.le;omega
     have hpa:=tp (fR gs x.1.2.1) fr 0 (kl.take m) y
     rw[←kD ey] at hpa
     have lkt':(kl.take m).length=m:=by rw[List.length_take];omega
     rw[lkt',Nat.zero_add] at hpa
     have hpl:=uS (fR gs x.1.2.1) fr 0 (kl.take m)
     rw[lkt'] at hpl
     have hg9:=hg7.gr g9
     have r09:=(g9.get _ mN6 not_false).trans r06
     have mN9:=Nat.lt_of_lt_of_le mN6 g9.nx
     have hcid9:=Nat.lt_of_lt_of_le hcid g9.nx
     have hcgr9:rowOf (H9.get cid) cg=some ccells:=by rw[g9.get _ hcid not_false];exact hcgr
     have hvid9:=Nat.lt_of_lt_of_le hvid g9.nx
     have hvgr9:rowOf (H9.get vid) vg=some vcells:=by rw[g9.get _ hvid not_false];exact hvgr
     have hnlt:n<kl.length:=by omega
     clear yj yk yg yi yf yn y4' ye hx' hy' hz' eym exm ey yc lkt' y1 y2 y3 y4 hvat hcat hlow hru1
     have hm1:m+1≤n:=by omega
     have hfm1:fr≤m+1:=by omega
     replace hpa:Hd _:=hpa
     refine zW tyF ?_
     refine R1.cq fun K8 u1 u2 u3 u4=>?_
     by_cases d1:y.2=1
     ·have e2:(y.2==1)=true:=beq_iff_eq.2 d1
      refine zG (qA tyF (qA (ixC hml) (qA (ixC hjlt') (qA (ixC hnlt) uz)))) fun K9 hK9=>?_
      refine WE.con (CO H9 gv gs y.1.2.1 x.1.2.1 gi (fR gs x.1.2.1) hg9 hL hO hgi.out hgat hgn.out) fun w10 H10 g10 hq10=>?_
      subst hq10
      have r010:=(g10.get _ mN9 not_false).trans r09
      have mN10:=Nat.lt_of_lt_of_le mN9 g10.nx
      have rM10:=(g10.get _ mM not_false).trans rM
      have mM10:=Nat.lt_of_lt_of_le mM g10.nx
      have hown10:=hown.fr g10 fun _ _ h=>h
      have g910:=g9.gr g10
      clear r09 mN9 rM hown hg9
      cases hb:dp (fR gs x.1.2.1) y.1.2.1 with
      | true=>
       have hpb:=hpa.out
       rw[if_pos ⟨hfm,d1,hb⟩] at hpb
       obtain ⟨hlt5,v6,H11,r6,happ,ho6,hf6,hr6⟩:=eP dZ oG hzi.out hzil.out (by decide) hown10 [.i .i64 (m:Int)] rfl (by omega)
       have rM11:=(hf6.get _ mM10 fun e=>by have:=hrow _ e;omega).trans rM10
       have mM11:=Nat.lt_of_lt_of_le mM10 hf6.nx
       have g11:Gr H6 (H11.mod M (.arr [.i .i64 (n:Int),v6] 86 0 0)):=(g910.then hf6 fun q hq=>.inl (by have:=hrow q hq;omega)).mod _ (.inl hMl)
       have hM6:M<r6:=by
        rcases hr6 with e|e
        ·exact hrow _ e
        ·omega
       have ho11:=ho6.fr (H':=H11.mod M (.arr [.i .i64 (n:Int),v6] 86 0 0)) (X:=fun i=>i=M) ((Fr.refl _).mod _ (.inr rfl)) fun i hi h=>by cases hi;omega
       have hpe:dO (H11.mod M (.arr [.i .i64 (n:Int),v6] 86 0 0)) v6 3 1 (ck (fR gs x.1.2.1) fr 0 (kl.take (m+1))).length ((ck (fR gs x.1.2.1) fr 0 (kl.take (m+1))).flatMap pj) (some r6):=by
        rw[hpb,List.length_append,List.flatMap_append];exact ho11
       have mM12:M<(H11.mod M (.arr [.i .i64 (n:Int),v6] 86 0 0)).nx:=mM11
       clear ho11 ho6 hpb hr6 hf6 hown10 g910 d1 g10 r010 hb
       replace hpe:Hd _:=hpe
       replace g11:Hd _:=g11
       refine zK tyF ?_
       refine zG (qA tyF (qA (gS) happ)) fun K9 hK9=>?_
       refine ⟨hlt5,?_⟩
       refine zK tyF ?_
       refine u1.out _ _ ?_
       refine zW tyF ?_
       exact ⟨n - (m+1),by omega,m+1,v6,some r6,rfl,hfm1,hm1,g11.out,mM12,ai rfl,hpe.out,fun q hq=>by cases hq;exact hM6,zL⟩
      | false=>
       have hpb:=hpa.out
       rw[if_neg (fun h=>by rw[hb] at h;exact absurd h.2.2 (by decide)),List.append_nil] at hpb
       rw[←hpb] at hown10
       clear hpb d1 hb g10
       refine zK tyF ?_
       refine u1.out _ _ ?_
       refine zW tyF ?_
       exact ⟨n - (m+1),by omega,m+1,v5,r5,rfl,hfm1,hm1,g910,mM10,rM10,hown10,hrow,zL⟩
     ·have e2:(y.2==1)=false:=beq_false_of_ne d1
      have hpb:=hpa.out
      rw[if_neg (fun h=>d1 h.2.1),List.append_nil] at hpb
      rw[←hpb] at hown
      clear hpb d1
      refine zW (qA tyF (qA (ixC hml) (qA (ixC hjlt') (qA (ixC hnlt) uz)))) ?_
      refine u1.out _ _ ?_
      refine zW tyF ?_
      exact ⟨n - (m+1),by omega,m+1,v5,r5,rfl,hfm1,hm1,g9,mM,rM,hown,hrow,zL⟩
    ·have hne:m=n:=by omega
     subst hne
     have hsl:SlI H9 v5 (ck (fR gs x.1.2.1) fr 0 (kl.take m)):=hown.slc
     have hids:=dO.ids hown
     have ho9:=ho.gr mb kW g9
     have hi0:∀ id∈gM [.i .i64 (m:Int),v5],¬id<B∧some id≠r:=fun id hid=>by
      rw[sX] at hid
      have h1:=hrow id (hids id hid)
      refine ⟨by omega,fun e=>?_⟩
      have:=(ho.row id e.symm).2
      omega
     have hrll:=ox gs [] (kl.take m)
     rw[lkt.out] at hrll
     obtain ⟨hlt5,v7,H10,r7,happ,ho7,hf7,hr7⟩:=ho9.push mb kW pT JW hzr.out hzrl.out (by decide) (fun j h=>by omega) (c0:=[.i .i64 (m:Int),v5]) (x:=((m:Int),ck (fR gs x.1.2.1) fr 0 (kl.take m))) rfl ⟨v5,rfl,hsl⟩ hi0 (by omega)
     have mU9:=Nat.lt_of_lt_of_le mU7 g9.nx
     have rU9:=(g9.get _ mU7 not_false).trans rU7
     have hrU:¬r=some U:=fun e=>(ho.row _ e).1 hUB
     have rU10:=(hf7.get _ mU9 hrU).trans rU9
     have mU10:=Nat.lt_of_lt_of_le mU9 hf7.nx
     have g10:Gr H4 (H10.mod U (.arr [.o (.sl cid cg coff kl.length 5),v7] 37 0 0)):=((g6.gr g9).then hf7 fun q hq=>.inl (by have:=(ho.row q hq).1;omega)).mod _ (.inl hUl)
     have ho8:=ho7.fr mb kW (Y:=fun i=>i=U) (H':=H10.mod U (.arr [.o (.sl cid cg coff kl.length 5),v7] 37 0 0)) ((Fr.refl _).mod _ (.inr rfl)) fun i h=>.inl (by omega)
     rw[←hru1.out,←hrl.out] at ho8
     have nB10:B≤(H10.mod U (.arr [.o (.sl cid cg coff kl.length 5),v7] 37 0 0)).nx:=by show B≤H10.nx;have:=hf7.nx;omega
     have hwi:IntKind.i64.wrap ((m:Int)+1)=((m+1:Nat):Int):=by rw[aX (by omega) (by omega)];omega
     clear hown hsl hids hi0 ho9 ho7 hf7 hr7 ho rU7 hru1 hrl hrll hrU hlow
     replace ho8:Hd _:=ho8
     replace g10:Hd _:=g10
     refine zW tyF ?_
     refine w2.out _ _ ?_
     refine zG (qA tyF (qA (gS) happ)) fun K9 hK9=>?_
     refine ⟨hlt5,?_⟩
     refine zK tyF ?_
     refine p1.out _ _ ?_
     refine zW tyF ?_
     exact ⟨kl.length - (m+1),by omega,m+1,v7,some r7,rfl,by omega,g10.out,nB10,ai rfl,ho8.out,zL⟩
 ·have hie:i=kl.length:=by omega
  subst hie
  rw[List.take_length] at ho
  have b1:=(hoc.gr ju iv g6).fr ju iv (Y:=fun i=>i=N+1) (H':=H6.mod (N+1) (.arr [c4,u] 37 0 0)) ((Fr.refl _).mod _ (.inr rfl)) fun i h=>.inl h
  have b2:=ho.fr mb kW (Y:=fun i=>i=N+1) (H':=H6.mod (N+1) (.arr [c4,u] 37 0 0)) ((Fr.refl _).mod _ (.inr rfl)) fun i h=>.inl (by rw[h];omega)
  have b1:gP (H6.mod (N+1) (.arr [c4,u] 37 0 0)) c4 p0.1:=by rw[hpp.out];exact b1.slr
  have b2:np (H6.mod (N+1) (.arr [c4,u] 37 0 0)) u p0.2:=by rw[hpp.out];exact b2.slr
  have r16:=(g6.get _ n1 not_false).trans r1
  have mN16:=Nat.lt_of_lt_of_le n1 g6.nx
  have g9:Gr H (H6.mod (N+1) (.arr [c4,u] 37 0 0)):=(g4.gr g6).mod _ (.inl (by omega))
  clear ho l1 l2 r06 mN6 hcl6 hv6 hpp
  replace b1:Hd _:=b1
  replace b2:Hd _:=b2
  refine zW tyF ?_
  refine k2.out _ _ ?_
  refine zW tyF ?_
  exact fin _ _ _ _ (N+1) (by simp only[aa,Nat.reduceEqDiff,reduceIte,t6]) qp (by simp only[ag,hdf];rfl) (ai rfl) g9 b1.out b2.out
end Go.Proofs.YtnhbkodnmkojpaaGreat
namespace Go.Proofs.YtnhbkodnmkojpaaGreat
open Go Go.Eng
def GY (_:Hp) (c:List AC) (x:Int):Prop:=c=[.i .i64 x]
theorem td:FrR GY:=fun _ _ _ _ _ h _ _=>h
theorem qb:LtR GY:=fun H c x h i hi=>by
 have h:c=[.i .i64 x]:=h
 subst h;cases hi
theorem VM:∀ (H:Hp) (lg:List Nat) (c:List AC) (x:Rl),RlR H c x→RlR ⟨H.t,H.nx,lg⟩ c x:=fun _ _ _ _ h=>h
theorem Qn {H:Hp} {Q:List AC→Prop}:∀ {css:List (List AC)} {l:List Int},Al (fun c x=>c.length=1∧GY H c x∧Q c) css l→css.flatMap id=l.flatMap pj
 | [],[],_=>rfl
 | c::css,x::l,⟨⟨_,h,_⟩,h2⟩=>by
  have h:c=[.i .i64 x]:=h
  subst h
  rw[List.flatMap_cons,List.flatMap_cons,Qn h2];rfl
theorem aY.sli {e:TypeId} {X:Nat→Prop} {H:Hp} {v:AC} {l:List Int} {r:Option Nat} (h:aY GY 1 e X H v l r):SlI H v l:=by
 obtain ⟨css,a,b⟩:=h.own
 have:=a.slc
 rw[Qn b] at this
 exact this
section
variable {α:Type}
theorem aY.GX {R:Hp→List AC→α→Prop} (hl:LtR R) {sz:Nat} {e:TypeId} {X X':Nat→Prop} {H:Hp} {v:AC} {l:List α} {r:Option Nat} (h:aY R sz e X H v l r) (hx:∀ i,X' i→X i∨H.nx≤i):aY R sz e X' H v l r:=(h.OW hl).less hx
def qt (X:Nat→Prop) (col:Nat→Nat) (k:Nat):Nat→Prop:=fun j=>X j∨col j≠k
def Np (n:Nat) (col:Nat→Nat) (k:Nat):Nat→Nat:=fun j=>if j<n then col j else k
theorem SV {n:Nat} {col:Nat→Nat} {k j:Nat} (h:j<n):Np n col k j=col j:=if_pos h
theorem LJ {n:Nat} {col:Nat→Nat} {k j:Nat} (h:n≤j):Np n col k j=k:=if_neg (by omega)
theorem NU {X:Nat→Prop} {col:Nat→Nat} {n k k2 j:Nat} (h:qt X (Np n col k) k2 j):qt X col k2 j∨n≤j:=by
 by_cases hj:j<n
 ·rcases h with h|h
  ·exact .inl (.inl h)
  ·exact .inl (.inr (by rw[←SV (col:=col) (k:=k) hj];exact h))
 ·exact .inr (by omega)
theorem aY.EH {P:Program} {R:Hp→List AC→α→Prop} (hR:FrR R) (hl:LtR R) {H8 H:Hp} {t e:TypeId} {sz by_:Nat} {z:Value} {X:Nat→Prop} {col:Nat→Nat} {k:Nat} {v:AC} {l:List α} {r:Option Nat} (he:bk P t=some (e,sz)) (hb:cQ P e=some by_) (hz:aB P e=some z) (hzl:(ofValue z).cells.length=sz) (hsz:sz≠0)
  (ho:aY R sz e (qt X col k) H8 v l r) (g:Gr H8 H) (hX:∀ i,X i→i<H.nx) {c0:List AC} {x:α} (hc0:c0.length=sz) (hx:R H c0 x) (hi:∀ id∈gM c0,H8.nx≤id∧¬X id) (hL:l.length+1≤140737488355328∧(l.length+1)*by_≤140737488355328):
  ltV (.one v) (H.new (.arr c0 e 0 0)).nx∧∃ v' H' r',bd P (H.new (.arr c0 e 0 0)) t (.one v) (.one (.o (.sl H.nx 0 0 1 sz)))=.val (.one v') H' ∧
   aY R sz e (qt X (Np H8.nx col k) k) H' v' (l++[x]) (some r')∧Fr (fun i=>¬X i) H H'∧(∀ i,H.nx≤i→X i→False) ∧
   ∀ k2,k2≠k→∀ {β:Type} {R2:Hp→List AC→β→Prop} (_:FrR R2) (_:LtR R2) {sz2:Nat} {e2:TypeId} {v2:AC} {l2:List β} {r2:Option Nat},aY R2 sz2 e2 (qt X col k2) H8 v2 l2 r2→aY R2 sz2 e2 (qt X (Np H8.nx col k) k2) H' v2 l2 r2:=by
 have ho1:aY R sz e (qt X (Np H8.nx col k) k) H8 v l r:=aY.GX hl ho fun i h=>NU h
 have hg:=g.nx
 obtain ⟨hlt,v',H',r',happ,ho',hf,hr⟩:=(ho1.gr hR hl g).push hR hl he hb hz hzl hsz (fun i h=>by
  rcases h with h|h
  ·exact hX i h
  ·by_cases hj:i<H8.nx
   ·omega
   ·exact absurd (LJ (by omega)) h) hc0 hx (fun id hid=>by
  obtain ⟨h1,h2⟩:=hi id hid
  refine ⟨fun h=>?_,fun e=>?_⟩
  ·rcases h with h|h
   ·exact h2 h
   ·exact h (LJ h1)
  ·have:=(ho.row id e.symm).2
   omega) hL
 refine ⟨hlt,v',H',r',happ,ho',hf.mono fun i e h=>(ho.row i e).1 (.inl h),fun i h1 h2=>by have:=hX i h2;omega,fun k2 hk β R2 hR2 hl2 sz2 e2 v2 l2 r2 h2=>?_⟩
 refine ((aY.GX hl2 h2 fun i h=>NU h).gr hR2 hl2 g).fr hR2 hl2 hf fun i e=>.inl (.inr fun h3=>?_)
 have h4:=(ho1.row i e).1
 exact h4 (.inr fun h5=>hk (h3.symm.trans h5))
end
structure dD (X:Nat→Prop) (H:Hp) (cl:List Cl) (rl:List Rl) (el:List Int) (cv rv ev:AC):Prop where
 own:∃ col r1 r2 r3,aY ClR 5 84 (qt X col 0) H cv cl r1∧aY RlR 2 86 (qt X col 1) H rv rl r2∧aY GY 1 3 (qt X col 2) H ev el r3
section
variable {X X' Y:Nat→Prop} {H H8 H':Hp} {cl:List Cl} {rl:List Rl} {el:List Int} {cv rv ev:AC}
theorem dD.nil:dD X H [] [] [] (.o .nilS) (.o .nilS) (.o .nilS):=⟨fun _=>0,none,none,none,aY.nil,aY.nil,aY.nil⟩
theorem dD.c (h:dD X H cl rl el cv rv ev):gP H cv cl:=let ⟨_,_,_,_,h1,_,_⟩:=h.own;h1.slr
theorem dD.r (h:dD X H cl rl el cv rv ev):np H rv rl:=let ⟨_,_,_,_,_,h1,_⟩:=h.own;h1.slr
theorem dD.e (h:dD X H cl rl el cv rv ev):SlI H ev el:=let ⟨_,_,_,_,_,_,h1⟩:=h.own;aY.sli h1
theorem dD.fr (h:dD X H cl rl el cv rv ev) (hf:Fr Y H H') (hy:∀ i,Y i→X i∨H.nx≤i):dD X H' cl rl el cv rv ev:=by
 obtain ⟨col,r1,r2,r3,h1,h2,h3⟩:=h.own
 have hy:∀ (k i:Nat),Y i→qt X col k i∨H.nx≤i:=fun k i h=>(hy i h).elim (fun h=>.inl (.inl h)) .inr
 exact ⟨col,r1,r2,r3,h1.fr ju iv hf (hy 0),h2.fr mb kW hf (hy 1),h3.fr td qb hf (hy 2)⟩
theorem dD.gr (h:dD X H cl rl el cv rv ev) (hf:Gr H H'):dD X H' cl rl el cv rv ev:=h.fr hf fun _ h=>h.elim
theorem dD.less (h:dD X H cl rl el cv rv ev) (hx:∀ i,X' i→X i∨H.nx≤i):dD X' H cl rl el cv rv ev:=by
 obtain ⟨col,r1,r2,r3,h1,h2,h3⟩:=h.own
 have hy:∀ (k i:Nat),qt X' col k i→qt X col k i∨H.nx≤i:=fun k i h=>h.elim (fun h=>(hx i h).elim (fun h=>.inl (.inl h)) .inr) fun h=>.inl (.inr h)
 exact ⟨col,r1,r2,r3,aY.GX iv h1 (hy 0),aY.GX kW h2 (hy 1),aY.GX qb h3 (hy 2)⟩
theorem dD.EH (h:dD X H8 cl rl el cv rv ev) (g:Gr H8 H) (hX:∀ i,X i→i<H.nx) {c0:List AC} {x:Cl} (hc0:c0.length=5) (hx:ClR H c0 x) (hi:∀ id∈gM c0,H8.nx≤id∧¬X id) (hL:cl.length≤64):
  ltV (.one cv) (H.new (.arr c0 84 0 0)).nx∧∃ v' H',bd Tryz.prog (H.new (.arr c0 84 0 0)) 34 (.one cv) (.one (.o (.sl H.nx 0 0 1 5)))=.val (.one v') H'∧dD X H' (cl++[x]) rl el v' rv ev∧Fr (fun i=>¬X i) H H':=by
 obtain ⟨col,r1,r2,r3,h1,h2,h3⟩:=h.own
 obtain ⟨z,hz,hzl⟩:=KA
 obtain ⟨hlt,v',H',r',happ,ho,hf,_,hk⟩:=aY.EH ju iv pI KP hz hzl (by decide) h1 g hX hc0 hx hi (by omega)
 exact ⟨hlt,v',H',happ,⟨_,_,_,_,ho,hk 1 (by decide) mb kW h2,hk 2 (by decide) td qb h3⟩,hf⟩
theorem dD.VB (h:dD X H8 cl rl el cv rv ev) (g:Gr H8 H) (hX:∀ i,X i→i<H.nx) {c0:List AC} {x:Rl} (hc0:c0.length=2) (hx:RlR H c0 x) (hi:∀ id∈gM c0,H8.nx≤id∧¬X id) (hL:rl.length≤64):
  ltV (.one rv) (H.new (.arr c0 86 0 0)).nx∧∃ v' H',bd Tryz.prog (H.new (.arr c0 86 0 0)) 35 (.one rv) (.one (.o (.sl H.nx 0 0 1 2)))=.val (.one v') H'∧dD X H' cl (rl++[x]) el cv v' ev∧Fr (fun i=>¬X i) H H':=by
 obtain ⟨col,r1,r2,r3,h1,h2,h3⟩:=h.own
 obtain ⟨z,hz,hzl⟩:=Lv
 obtain ⟨hlt,v',H',r',happ,ho,hf,_,hk⟩:=aY.EH mb kW pT JW hz hzl (by decide) h2 g hX hc0 hx hi (by omega)
 exact ⟨hlt,v',H',happ,⟨_,_,_,_,hk 0 (by decide) ju iv h1,ho,hk 2 (by decide) td qb h3⟩,hf⟩
theorem dD.VE (h:dD X H8 cl rl el cv rv ev) (g:Gr H8 H) (hX:∀ i,X i→i<H.nx) {x:Int} (hL:el.length≤64):
  ltV (.one ev) (H.new (.arr [.i .i64 x] 3 0 0)).nx∧∃ v' H',bd Tryz.prog (H.new (.arr [.i .i64 x] 3 0 0)) 57 (.one ev) (.one (.o (.sl H.nx 0 0 1 1)))=.val (.one v') H'∧dD X H' cl rl (el++[x]) cv rv v'∧Fr (fun i=>¬X i) H H':=by
 obtain ⟨col,r1,r2,r3,h1,h2,h3⟩:=h.own
 obtain ⟨z,hz,hzl⟩:=uv
 obtain ⟨hlt,v',H',r',happ,ho,hf,_,hk⟩:=aY.EH (R:=GY) td qb dZ oG hz hzl (by decide) h3 g hX (c0:=[.i .i64 x]) (x:=x) rfl rfl (fun id hid=>by cases hid) (by omega)
 exact ⟨hlt,v',H',happ,⟨_,_,_,_,hk 0 (by decide) ju iv h1,hk 1 (by decide) mb kW h2,ho⟩,hf⟩
end
def isP (g:Gd) (kl:List (Cl×Int)) (fr:Nat) (n:Int):Bool:=decide ((fr:Int) - 1<n)&&dp g (((kl[n.toNat]?).map fun x=>x.1.2.1).getD [])
theorem rD (g:Gd) (fr:Nat):∀ (pre l:List (Cl×Int)),(bx pre.length l).filter (isP g (pre++l) fr)=ck g fr pre.length l
 | _,[]=>rfl
 | pre,x::l=>by
  have ih:=rD g fr (pre++[x]) l
  rw[List.length_append,List.append_assoc] at ih
  have ih:(bx (pre.length+1) l).filter (isP g (pre++x::l) fr)=ck g fr (pre.length+1) l:=ih
  have hx:isP g (pre++x::l) fr (pre.length:Int)=(decide (fr≤pre.length)&&dp g x.1.2.1):=by
   unfold isP
   rw[Int.toNat_natCast,List.getElem?_append_right (Nat.le_refl _),Nat.sub_self]
   congr 1
   exact decide_eq_decide.2 (by omega)
  show (if x.2=1 then (pre.length:Int)::bx (pre.length+1) l else bx (pre.length+1) l).filter _=(if fr≤pre.length∧x.2=1∧dp g x.1.2.1=true then (pre.length:Int)::ck g fr (pre.length+1) l else ck g fr (pre.length+1) l)
  by_cases h1:x.2=1
  ·rw[if_pos h1,List.filter_cons,hx,ih]
   exact ite_congr (propext (by simp[h1])) (fun _=>rfl) (fun _=>rfl)
  ·rw[if_neg h1,if_neg (fun h=>h1 h.2.1),ih]
theorem Ak:∀ (k:Nat) (l:List (Cl×Int)) (n:Int),n∈bx k l→∃ (m:Nat) (x:Cl×Int),n=((k+m:Nat):Int)∧l[m]?=some x
 | _,[],_,h=>by cases h
 | k,x::l,n,h=>by
  have h:n∈(if x.2=1 then (k:Int)::bx (k+1) l else bx (k+1) l):=h
  have go:n∈bx (k+1) l→∃ (m:Nat) (y:Cl×Int),n=((k+m:Nat):Int)∧(x::l)[m]?=some y:=fun h=>by
   obtain ⟨m,y,h1,h2⟩:=Ak (k+1) l n h
   exact ⟨m+1,y,by rw[h1];congr 1;omega,h2⟩
  split at h
  ·rcases List.mem_cons.1 h with h|h
   ·exact ⟨0,x,h,rfl⟩
   ·exact go h
  ·exact go h
theorem xt:∀ (k:Nat) (l:List (Cl×Int)),(bx k l).length≤l.length
 | _,[]=>Nat.le_refl _
 | k,x::l=>by
  have:=xt (k+1) l
  show (if x.2=1 then (k:Int)::bx (k+1) l else bx (k+1) l).length≤l.length+1
  split
  ·rw[List.length_cons];omega
  ·omega
abbrev kvT:List UInt8×Int→AV:=fun x=>.agg [.o (.str x.1),.i .i64 x.2]
theorem Uq:UW Tryz.prog 152 kvT:=Vd IA QL fun _ _ _=>by kernel_rfl
def tM (l:List ((List UInt8×Int)×AC)) (kl:List (Cl×Int)):Prop:=∀ key:List UInt8×Int,key.2≠1→atG l key=if dh key 0 0 kl=0 then none else some (.i .i64 ((dh key 0 0 kl:Nat) - 1:Int))
theorem tM.nil:tM [] []:=fun _ _=>rfl
theorem tM.entry {l:List ((List UInt8×Int)×AC)} {kl:List (Cl×Int)} (h:tM l kl) {x:Cl×Int} (hx:x.2=1):tM l (kl++[x]):=fun key hk=>by
 have e:dh key 0 0 (kl++[x])=dh key 0 0 kl:=by rw[jT,if_neg (fun h=>hk (h.2.symm.trans hx))]
 rw[e];exact h key hk
theorem tM.total {l:List ((List UInt8×Int)×AC)} {kl:List (Cl×Int)} (h:tM l kl) (x:Cl×Int):tM (iG l (x.1.2.1,x.2) (.i .i64 (kl.length:Int))) (kl++[x]):=fun key hk=>by
 rw[Jy]
 by_cases hh:x.1.2.1=key.1∧x.2=key.2
 ·have e:(x.1.2.1,x.2)=key:=by rw[hh.1,hh.2]
  have e2:dh key 0 0 (kl++[x])=kl.length+1:=by rw[jT,if_pos hh,Nat.zero_add]
  rw[if_pos e,e2,if_neg (by omega)]
  congr 2;omega
 ·have e:¬(x.1.2.1,x.2)=key:=fun e=>hh ⟨by rw[←e],by rw[←e]⟩
  have e2:dh key 0 0 (kl++[x])=dh key 0 0 kl:=by rw[jT,if_neg hh]
  rw[if_neg e,e2];exact h key hk
end Go.Proofs.YtnhbkodnmkojpaaGreat
namespace Go.Proofs.YtnhbkodnmkojpaaGreat
open Go Go.Eng
theorem QK:al Tryz.prog 31=true:=by kernel_rfl
theorem zt:al Tryz.prog 79=true:=by kernel_rfl
theorem CE:al Tryz.prog 78=true:=by kernel_rfl
theorem Vg:∀ (H:Hp) (lg:List Nat) (c:List AC) (x:Int),GY H c x→GY ⟨H.t,H.nx,lg⟩ c x:=fun _ _ _ _ h=>h
theorem dD.lg {X:Nat→Prop} {H:Hp} {cl:List Cl} {rl:List Rl} {el:List Int} {cv rv ev:AC} (h:dD X H cl rl el cv rv ev) (l:List Nat):dD X ⟨H.t,H.nx,l⟩ cl rl el cv rv ev:=by
 obtain ⟨col,r1,r2,r3,h1,h2,h3⟩:=h.own
 exact ⟨col,r1,r2,r3,aY.lg Uh h1 l,aY.lg VM h2 l,aY.lg Vg h3 l⟩
theorem MK (H:Hp) (k gv v:AC) (o:Option (List Lad)) (gs:List Gd) (nm:List UInt8) (cs:List Cs) (hk:cT H k o) (hbl:∀ ls,o=some ls→∀ x∈ls,x.2.length≤1000000) (hg:SlG H gv gs) (hv:bX H v cs) (hB:TbB cs) (hO:∀ x∈gs,x.2.2.length≤4611686018427387904):
  Con E2 31 [.one k,.one gv,.agg [.o (.str nm),v]] H (fun _=>False) fun r H'=>∃ a b ev,r=.tup [(true,[a,b]),(false,[ev]),(false,[.i .i64 (gV o gs (nm,cs))])]∧dD (fun j=>j<H.nx) H' (iO o gs (nm,cs)).1 (iO o gs (nm,cs)).2 (bx 0 (qk o gs (nm,cs))) a b ev:=by
 refine Con.of rfl fun lg=>?_
 have hk:cT ⟨H.t,H.nx,lg⟩ k o:=cT.same (H:=H) rfl rfl hk
 have hg:SlG ⟨H.t,H.nx,lg⟩ gv gs:=hg
 have hv:bX ⟨H.t,H.nx,lg⟩ v cs:=hv
 have e0:H.nx=(⟨H.t,H.nx,lg⟩:Hp).nx:=rfl
 rw[e0]
 clear e0
 generalize (⟨H.t,H.nx,lg⟩:Hp)=H at hk hg hv ⊢
 refine C1.body (E:=E2) (nt:=165) (res:=[.cell 6 37,.tmp 7,.tmp 8]) Tryz.func31 rfl rfl rfl rfl rfl fun tm hargs=>?_
 have h0:=hargs 0 _ rfl
 have h1:=hargs 1 _ rfl
 have h2:=hargs 2 _ rfl
 clear hargs
 have hl:cs.length*120≤140737488355328:=hB.c
 generalize hp0:iO o gs (nm,cs)=p0
 generalize he0:gV o gs (nm,cs)=e0
 generalize hq0:bx 0 (qk o gs (nm,cs))=q0
 have fin:∀ (a b ev:AC) (A:ab) (H9:Hp) (M:Nat),slot A.tm 6=.one (.o (.ptr M 0 0 2))→slot A.tm 7=.one ev→slot A.tm 8=.one (.i .i64 e0)→closeAll H9 A.dfr=some H9→H9.get M=some (.arr [a,b] 37 0 0)→Gr H H9→dD (fun j=>j<H.nx) H9 p0.1 p0.2 q0 a b ev →
   ∃ w H4,ao E2 [.cell 6 37,.tmp 7,.tmp 8] (.ret,A,H9)=.ok [(w,H4)]∧Gr H H4∧∀ lg:List Nat,∃ a b ev,w=.tup [(true,[a,b]),(false,[ev]),(false,[.i .i64 e0])]∧dD (fun j=>j<H.nx) ⟨H4.t,H4.nx,lg⟩ p0.1 p0.2 q0 a b ev:=fun a b ev A H9 M s6 s7 s8 hd r1 hgr h1=>
  ⟨_,H9,cE (.inr rfl) hd (fw jQ s6 (by rw[r1];exact qq) (Nat.le_refl _) rfl (kS s7 (kS s8 lL))),hgr,fun lg=>⟨a,b,ev,rfl,h1.lg lg⟩⟩
 have bad:∀ (e:Int),e≠0→e0=e→∀ H9:Hp,dD (fun j=>j<H.nx) H9 p0.1 p0.2 q0 (.o .nilS) (.o .nilS) (.o .nilS):=fun e hne he H9=>by
  have hk0:qk o gs (nm,cs)=[]:=if_neg (by rw[he0,he];exact hne)
  rw[←hp0,←hq0]
  unfold iO
  rw[hk0]
  exact dD.nil
 have lv:=hv.lt
 replace hp0:Hd _:=hp0
 replace he0:Hd _:=he0
 replace hq0:Hd _:=hq0
 refine zG tyF fun K hK=>?_
 refine hK.out _ _ ?_
 refine R1.gen (fun A1 H1=>Gr H H1∧H.nx+1<H1.nx∧H1.get H.nx=some (.arr [.o (.str nm),v] 26 0 0)∧H1.get (H.nx+1)=some (.arr [.o .nilS,.o .nilS] 37 0 0)∧slot A1.tm 0=.one (k)∧slot A1.tm 1=.one (gv)∧slot A1.tm 5=.one ((.o (.ptr H.nx 0 0 2)))∧slot A1.tm 6=.one ((.o (.ptr (H.nx+1) 0 0 2)))∧slot A1.tm 7=.one ((.o .nilS))∧A1.nt=165∧A1.dfr=[])
  ⟨((Fr.refl _).new _).new _,by show H.nx+1<H.nx+1+1;omega,by rw[aN (by show H.nx<H.nx+1;omega)];exact an rfl,an rfl,zL⟩ ?_
 clear h0 h1 h2 tm hK K lv
 rintro A1 H1 ⟨g1,n1,r0,r1,t0,t1,t5,t6,t7,hnt,hdf⟩
 obtain ⟨N,hN⟩:∃ N,N=H.nx:=⟨_,rfl⟩
 rw[←hN] at n1 r0 r1 t5 t6
 have hNl:H.nx≤N:=Nat.le_of_eq hN.symm
 replace hN:Hd _:=hN
 have n0:N<H1.nx:=by omega
 have hk1:=hk.gr g1
 have hg1:=hg.gr g1
 refine zG (qA tyF wk) fun K hK=>?_
 refine WE.con (tB H1 k gv o gs hk1 hbl hg1 hO) fun w2 H2 g2 hq2=>?_
 subst hq2
 have r0:=(g2.get _ n0 not_false).trans r0
 have n0:=Nat.lt_of_lt_of_le n0 g2.nx
 have r1:=(g2.get _ n1 not_false).trans r1
 have n1:=Nat.lt_of_lt_of_le n1 g2.nx
 have g2:=g1.gr g2
 clear g1 hk1 hg1
 by_cases c1:jy o gs=0
 case neg=>
  have he:e0=jy o gs:=by rw[←he0.out];exact if_pos c1
  have b1:=bad _ c1 he ((H2.mod (N+1) (.arr [.o .nilS,.o .nilS] 37 0 0)))
  have e1:(jy o gs==0)=false:=beq_false_of_ne c1
  rw[←he] at e1 ⊢
  have g9:=g2.mod (i:=N+1) (.arr [.o .nilS,.o .nilS] 37 0 0) (.inl (by omega))
  replace b1:Hd _:=b1
  replace g9:Hd _:=g9
  clear c1 he bad
  refine zK tyF ?_
  exact fin _ _ _ _ _ (N+1) (by simp only[aa,Nat.reduceEqDiff,reduceIte,t6]) qp qp (by simp only[ag,hdf];rfl) (ai rfl) g9.out b1.out
 have hL:gs.length≤1000000:=Ep c1
 rw[c1]
 have hv2:=hv.gr g2
 have lv:=hv2.lt
 refine zK tyF ?_
 refine zG (qA tyF vP) fun K hK=>?_
 refine WE.con (sB H2 nm v cs hv2 hB) fun w3 H3 g3 hq3=>?_
 subst hq3
 have r0:=(g3.get _ n0 not_false).trans r0
 have n0:=Nat.lt_of_lt_of_le n0 g3.nx
 have r1:=(g3.get _ n1 not_false).trans r1
 have n1:=Nat.lt_of_lt_of_le n1 g3.nx
 have g3:=g2.gr g3
 clear g2 lv hv2
 by_cases c2:ir (nm,cs)=0
 case neg=>
  have he:e0=ir (nm,cs):=by
   rw[←he0.out]
   unfold gV
   rw[if_neg (fun h=>h c1),if_pos c2]
  have b1:=bad _ c2 he ((H3.mod (N+1) (.arr [.o .nilS,.o .nilS] 37 0 0)))
  have e1:(ir (nm,cs)==0)=false:=beq_false_of_ne c2
  rw[←he] at e1 ⊢
  have g9:=g3.mod (i:=N+1) (.arr [.o .nilS,.o .nilS] 37 0 0) (.inl (by omega))
  replace b1:Hd _:=b1
  replace g9:Hd _:=g9
  clear c1 c2 he bad
  refine zK tyF ?_
  exact fin _ _ _ _ _ (N+1) (by simp only[aa,Nat.reduceEqDiff,reduceIte,t6]) qp qp (by simp only[ag,hdf];rfl) (ai rfl) g9.out b1.out
 rw[c2]
 have hv3:=hv.gr g3
 have lv:=hv3.lt
 have ll:=hv3.len
 have hee:e0=(cy gs 0 cs []).2:=by
  rw[←he0.out]
  unfold gV
  rw[if_neg (fun h=>h c1),if_neg (fun h=>h c2)]
 have hkk:e0=0→qk o gs (nm,cs)=(cy gs 0 cs []).1:=fun h=>if_pos (by rw[he0.out];exact h)
 clear c1 c2
 refine zK tyF ?_
 refine R1.gen (fun A5 H5=>Gr H H5∧H3.nx+1=H5.nx∧H5.get N=some (.arr [.o (.str nm),v] 26 0 0)∧H5.get (N+1)=some (.arr [.o .nilS,.o .nilS] 37 0 0)∧H5.get H3.nx=some (qx kvT [])∧slot A5.tm 1=.one (gv)∧slot A5.tm 5=.one ((.o (.ptr N 0 0 2)))∧slot A5.tm 6=.one ((.o (.ptr (N+1) 0 0 2)))∧slot A5.tm 7=.one ((.o .nilS))∧slot A5.tm 11=.one ((.o (.mp H3.nx)))∧A5.nt=165∧A5.dfr=[])
  ⟨g3.new _,rfl,by rw[aN n0];exact r0,by rw[aN n1];exact r1,an rfl,zL⟩ ?_
 clear t0 t1 t5 t6 t7 hnt hdf A1 r0 r1 lv ll
 rintro A5 H5 ⟨g5,nB,r0,r1,rMM,t1,t5,t6,t7,t11,hnt,hdf⟩
 obtain ⟨MM,hMM⟩:∃ MM,MM=H3.nx:=⟨_,rfl⟩
 have n0:N<H5.nx:=by omega
 have hNM:N+1<MM:=by omega
 rw[←hMM] at nB rMM t11
 obtain ⟨B,hBB⟩:∃ B,B=H5.nx:=⟨_,rfl⟩
 have hMB:MM<B:=by omega
 have hB5:B≤H5.nx:=Nat.le_of_eq hBB
 clear hMM hBB nB g3 hv3 n1
 have hv5:=hv.gr g5
 have lv:=hv5.lt
 have ll:=hv5.len
 replace hee:Hd _:=hee
 replace hkk:Hd _:=hkk
 refine zW tyF ?_
 clear lv ll hv5
 generalize hr0:cy gs 0 cs []=r9 at hee hkk
 replace hr0:Hd _:=hr0
 refine R1.cq fun K k1 k2 k3 k4=>?_
 refine R1.loop (fun z A H6=>∃ (i:Nat) (kl:List (Cl×Int)) (ml:List ((List UInt8×Int)×AC)) (cv rv ev:AC),z=cs.length - i∧i≤cs.length∧kl.length≤64∧Gr H H6∧B≤H6.nx∧H6.get (N+1)=some (.arr [cv,rv] 37 0 0)∧H6.get MM=some (qx kvT ml)∧Hd (tM ml kl)∧Hd (cy gs i (cs.drop i) kl=r9)∧Hd (dD (fun j=>j<B) H6 (kl.map Prod.fst) (eK gs [] kl) (bx 0 kl) cv rv ev) ∧
   slot A.tm 1=.one (gv)∧slot A.tm 6=.one ((.o (.ptr (N+1) 0 0 2)))∧slot A.tm 7=.one (ev)∧slot A.tm 11=.one ((.o (.mp MM)))∧slot A.tm 36=.one (v)∧slot A.tm 37=.one (.i .i64 (cs.length:Int))∧slot A.tm 38=.one (.i .i64 (i:Int))∧A.nt=165∧A.dfr=[]) ?_ cs.length
  ⟨0,[],[],.o .nilS,.o .nilS,.o .nilS,rfl,Nat.zero_le _,Nat.zero_le _,g5,hB5,r1,rMM,tM.nil,hr0,dD.nil,zL⟩
 clear t1 t5 t6 t7 t11 hnt hdf A5 r0 r1 rMM k3 g5 hr0 hB5 n0 H5
 rintro z A H6 ⟨i,kl,ml,cv,rv,ev,rfl,hi,hkl,g6,nB,rP,rM,hmap,hr,hbs,t1,t6,t7,t11,t36,t37,t38,hnt,hdf⟩
 have nP6:N+1<H6.nx:=by omega
 have nM6:MM<H6.nx:=by omega
 have hv6:=hv.gr g6
 have l2:=hv6.lt
 refine zW tyF ?_
 refine zI tyF (fun hc=>?_) (fun hc=>?_)
 ·have hlt:i<cs.length:=by omega
  have ex:cs[i]?=some cs[i]:=List.getElem?_eq_getElem hlt
  have hdr:cs.drop i=cs[i]::cs.drop (i+1):=List.drop_eq_getElem_cons hlt
  have htk:cs.take (i+1)=cs.take i++[cs[i]]:=List.take_succ_eq_append_getElem hlt
  have hmem:cs[i]∈cs:=List.getElem_mem hlt
  generalize cs[i]=x at ex hdr htk hmem
  have hw2:IntKind.i64.wrap ((i:Int)+1)=((i+1:Nat):Int):=by rw[aX (by omega) (by omega)];omega
  obtain ⟨id,g,off,cells,rfl,hid,hgr,hat⟩:=hv6.open (by omega)
  obtain ⟨p,q,w,hx⟩:=hat i x ex
  have y1:=hx.all
  have y2:=hx.le
  have hp:=hx.of1
  have hq:=hx.of2
  have hBn:=hB.n x hmem
  have hr1:=hr.out
  rw[hdr,cy] at hr1
  clear hx hat hdr ex hmem htk hr
  replace hr1:Hd _:=hr1
  refine zW tyF ?_
  refine R1.cq fun K2 p1 p2 p3 p4=>?_
  refine zG (qA tyF (ixC hlt)) fun K3 hK3=>?_
  refine hK3.out _ _ ?_
  refine R1.gen (fun A7 H7=>Gr H6 H7∧H6.nx<H7.nx∧H7.get H6.nx=some (.arr [.i .i64 x.face,.i .i64 x.col,.i .i64 x.line,.i .i64 x.kind,p,q,.o (.str x.good),w] 69 0 0)∧slot A7.tm 1=.one (gv)∧slot A7.tm 6=.one ((.o (.ptr (N+1) 0 0 2)))∧slot A7.tm 7=.one (ev)∧slot A7.tm 11=.one ((.o (.mp MM)))∧slot A7.tm 12=.one (.i .i64 (i:Int))∧slot A7.tm 13=.one ((.o (.ptr H6.nx 0 0 8)))∧slot A7.tm 36=.one ((.o (.sl id g off cs.length 8)))∧slot A7.tm 37=.one (.i .i64 (cs.length:Int))∧slot A7.tm 38=.one (.i .i64 (i:Int))∧A7.nt=165∧A7.dfr=[])
   ⟨((Fr.refl _).new _).mod _ (.inl (Nat.le_refl _)),Nat.lt_succ_self _,ai rfl,zL⟩ ?_
  clear t1 t6 t7 t11 t36 t37 t38 hnt hdf A y1 y2 hK3 K3 hgr hid l2
  rintro A H7 ⟨g7,mC,rC,t1,t6,t7,t11,t12,t13,t36,t37,t38,hnt,hdf⟩
  obtain ⟨M,hM⟩:∃ M,M=H6.nx:=⟨_,rfl⟩
  have hBM:B≤M:=by omega
  have hbs7:dD (fun j=>j<B∨j=M) H7 (kl.map Prod.fst) (eK gs [] kl) (bx 0 kl) cv rv ev:=(hbs.out.less fun i h=>h.elim .inl fun h=>.inr (by omega)).gr g7
  rw[←hM] at mC rC t13
  clear hM hbs
  have rP:=(g7.get _ nP6 not_false).trans rP
  have nP6:=Nat.lt_of_lt_of_le nP6 g7.nx
  have rM:=(g7.get _ nM6 not_false).trans rM
  have nM6:=Nat.lt_of_lt_of_le nM6 g7.nx
  have g67:=g6.gr g7
  have hg7:=hg.gr g67
  have hp7:=hp.gr g7
  have hq7:=hq.gr g7
  have nB7:B≤H7.nx:=by have:=g7.nx;omega
  clear g6 hv6 hp hq g7 nB
  replace hbs7:Hd _:=hbs7
  have go:Hd (∀ (kl':List (Cl×Int)) (ml':List ((List UInt8×Int)×AC)) (cv' rv' ev':AC) (A:ab) (H5:Hp),slot A.tm 1=.one (gv)∧slot A.tm 6=.one ((.o (.ptr (N+1) 0 0 2)))∧slot A.tm 7=.one (ev')∧slot A.tm 11=.one ((.o (.mp MM)))∧slot A.tm 36=.one ((.o (.sl id g off cs.length 8)))∧slot A.tm 37=.one (.i .i64 (cs.length:Int))∧slot A.tm 38=.one (.i .i64 (i:Int))∧A.nt=165∧A.dfr=[]→kl'.length≤64→Gr H H5→B≤H5.nx→H5.get (N+1)=some (.arr [cv',rv'] 37 0 0)→H5.get MM=some (qx kvT ml')→tM ml' kl'→cy gs (i+1) (cs.drop (i+1)) kl'=r9→dD (fun j=>j<B∨j=M) H5 (kl'.map Prod.fst) (eK gs [] kl') (bx 0 kl') cv' rv' ev'→K2 (.exit 1) A H5∧K2 .normal A H5):=by
   clear t1 t6 t7 t11 t12 t13 t36 t37 t38 hnt hdf hr1 hbs7 g67 hg7 hp7 hq7 rC mC rP rM A hkl hmap nP6 nM6 nB7
   rintro kl' ml' cv' rv' ev' A H5 ⟨t1,t6,t7,t11,t36,t37,t38,hnt,hdf⟩ hkl g5 nB rP rM hmap hr3 hbs5
   have hbs5:=hbs5.less (X':=fun j=>j<B) fun j h=>.inl (.inl h)
   replace hr3:Hd _:=hr3
   replace hbs5:Hd _:=hbs5
   replace hmap:Hd _:=hmap
   constructor
   ·refine p2.out _ _ ?_
    refine zW tyF ?_
    exact ⟨cs.length - (i+1),by omega,i+1,kl',ml',cv',rv',ev',rfl,hlt,hkl,g5,nB,rP,rM,hmap,hr3,hbs5,zL⟩
   ·refine p1.out _ _ ?_
    refine zW tyF ?_
    exact ⟨cs.length - (i+1),by omega,i+1,kl',ml',cv',rv',ev',rfl,hlt,hkl,g5,nB,rP,rM,hmap,hr3,hbs5,zL⟩
  by_cases c1:x.kind=4∨x.good=[]
  ·have hr2:=hr1.out
   rw[if_pos c1] at hr2
   replace hr2:Hd _:=hr2
   clear hr1
   by_cases c4:x.kind=4
   ·have e1:(x.kind==4)=true:=beq_iff_eq.2 c4
    clear c1 c4
    refine zW tyF ?_
    exact (go.out kl ml cv rv ev _ _ zL hkl g67 nB7 rP rM hmap.out hr2.out hbs7.out).1
   ·have e1:(x.kind==4)=false:=beq_false_of_ne c4
    have e2:lEq x.good []=true:=by rw[bU,c1.resolve_left c4];rfl
    clear c1 c4
    refine zW tyF ?_
    exact (go.out kl ml cv rv ev _ _ zL hkl g67 nB7 rP rM hmap.out hr2.out hbs7.out).1
  have hr2:=hr1.out
  rw[if_neg c1] at hr2
  have e1:(x.kind==4)=false:=beq_false_of_ne fun h=>c1 (.inl h)
  have e2:lEq x.good []=false:=by rw[bU];exact beq_false_of_ne fun h=>c1 (.inr h)
  replace hr2:Hd _:=hr2
  clear hr1 c1
  refine zW tyF ?_
  refine zG (qA tyF qC) fun K3 hK3=>?_
  refine WE.con (oC H7 gv gs x.good hg7 hL) fun w8 H8 g8 hq8=>?_
  subst hq8
  have rP:=(g8.get _ nP6 not_false).trans rP
  have nP6:=Nat.lt_of_lt_of_le nP6 g8.nx
  have rM:=(g8.get _ nM6 not_false).trans rM
  have nM6:=Nat.lt_of_lt_of_le nM6 g8.nx
  have rC:=(g8.get _ mC not_false).trans rC
  have mC:=Nat.lt_of_lt_of_le mC g8.nx
  have hbs8:=hbs7.out.gr g8
  have g68:=g67.gr g8
  have hg8:=hg7.gr g8
  have hp8:=hp7.gr g8
  have hq8:=hq7.gr g8
  have nB8:B≤H8.nx:=by have:=g8.nx;omega
  replace hbs8:Hd _:=hbs8
  clear hbs7 g67 hg7 hp7 hq7 g8 nB7
  have badE:Hd (∀ (e:Int) (A:ab),slot A.tm 6=.one ((.o (.ptr (N+1) 0 0 2)))∧slot A.tm 7=.one ((.o .nilS))∧slot A.tm 8=.one ((.i .i64 e))∧A.nt=165∧A.dfr=[]→closeAll (H8.mod (N+1) (.arr [.o .nilS,.o .nilS] 37 0 0)) A.dfr=some (H8.mod (N+1) (.arr [.o .nilS,.o .nilS] 37 0 0))→(([]:List (Cl×Int)),e)=r9→e≠0→K2 .ret A (H8.mod (N+1) (.arr [.o .nilS,.o .nilS] 37 0 0))):=by
   clear t1 t6 t7 t11 t12 t13 t36 t37 t38 hnt hdf go hr2 A hK3 K3
   rintro e A ⟨t6,t7,t8,hnt,hdf⟩ hcl hn hne
   have he:e0=e:=by rw[hee.out,←hn]
   have b1:=bad e hne he (H8.mod (N+1) (.arr [.o .nilS,.o .nilS] 37 0 0))
   subst he
   exact p4.out _ _ (k4.out _ _ (fin _ _ _ _ _ (N+1) t6 t7 t8 hcl (ai rfl) (g68.mod _ (.inl (by omega))) b1))
  clear bad fin
  by_cases c2:cY 0 gs x.good<0
  ·have hn:(([]:List (Cl×Int)),(4:Int))=r9:=by rw[←hr2.out];exact (if_pos c2).symm
   replace hn:Hd _:=hn
   clear hr2 go
   refine zK tyF ?_
   refine R1.cq fun K5 m1 m2 m3 m4=>?_
   refine zW tyF ?_
   exact m4.out _ _ (badE.out 4 _ zL (by simp only[ag,hdf];rfl) hn.out (by decide))
  have hr3:=hr2.out
  rw[if_neg c2] at hr3
  replace hr3:Hd _:=hr3
  clear hr2
  obtain ⟨gi,hgi,hgat,hgn⟩:=sU (by omega:0≤cY 0 gs x.good)
  rw[hgi] at c2 ⊢
  have hglt:=(List.getElem?_eq_some_iff.1 hgat).1
  obtain ⟨gid,gg,goff,gcells,rfl,hgidH,hggrH,hgat2⟩:=hg.open (by omega)
  have hgid:=Nat.lt_of_lt_of_le hgidH g68.nx
  have hggr:rowOf (H8.get gid) gg=some gcells:=by rw[g68.get _ hgidH not_false];exact hggrH
  obtain ⟨gu,hgx⟩:=hgat2 gi _ hgat
  have z1:=hgx.le
  have hguH:=hgx.of
  have hgu:=hguH.gr g68
  have lu:=hgu.len
  have lu2:=hgu.lt
  have z2:(gcells.drop (goff+gi*3+2)).headD (.b false)=gu:=hgx.f3
  have z3:(gcells.drop (goff+gi*3+1)).headD (.b false)=.o (.str (fR gs x.good).2.1):=hgx.f2
  have z4:=hgx.le2
  have z5:=hgx.le3
  have z0:(gcells.drop (goff+gi*3)).take 3=[.o (.str (fR gs x.good).1),.o (.str (fR gs x.good).2.1),gu]:=hgx.all
  have hBg:=hO _ (List.mem_of_getElem? hgat)
  clear hgat hgat2 hgx hgi hgn
  replace hBg:Hd _:=hBg
  replace hggrH:Hd _:=hggrH
  replace hguH:Hd _:=hguH
  generalize hgd:fR gs x.good=gd at *
  replace hgd:Hd _:=hgd
  have ll8:cS H8 1 (.one cv)=.val (.one (.i .i64 (kl.length:Int))) H8:=by
   have:=hbs8.out.c.len
   rwa [List.length_map] at this
  have lv8:ltV (.one cv) H8.nx:=hbs8.out.c.lt
  refine zK tyF ?_
  refine R1.cq fun K5 m1 m2 m3 m4=>?_
  refine zW tyF ?_
  repeat refine R1.aw ?_
  refine R1.s_h (by kernel_rfl) fun K6 hK6=>?_
  have key:Hd (∀ (b:Bool) (A:ab),slot A.tm 1=.one ((.o (.sl gid gg goff gs.length 3)))∧slot A.tm 6=.one ((.o (.ptr (N+1) 0 0 2)))∧slot A.tm 7=.one (ev)∧slot A.tm 11=.one ((.o (.mp MM)))∧slot A.tm 12=.one (.i .i64 (i:Int))∧slot A.tm 13=.one ((.o (.ptr M 0 0 8)))∧slot A.tm 14=.one (.i .i64 (gi:Int))∧slot A.tm 36=.one ((.o (.sl id g off cs.length 8)))∧slot A.tm 37=.one (.i .i64 (cs.length:Int))∧slot A.tm 38=.one (.i .i64 (i:Int))∧slot A.tm 59=.one (.b b)∧A.nt=165∧A.dfr=[]→decide (x.kind=1∧gd.2.2≠[])=b→K6 A H8):=by
   clear t1 t6 t7 t11 t12 t13 t36 t37 t38 hnt hdf lu lu2 z2 z5 A
   rintro b A ⟨t1,t6,t7,t11,t12,t13,t14,t36,t37,t38,t59,hnt,hdf⟩ hb
   refine hK6.out _ _ ?_
   clear hK6 K6
   cases b with
   | true=>
    have hn:(([]:List (Cl×Int)),(52:Int))=r9:=by rw[←hr3.out];exact (if_pos (of_decide_eq_true hb)).symm
    replace hn:Hd _:=hn
    clear hr3 go hb
    refine zW tyF ?_
    exact m4.out _ _ (badE.out 52 _ zL (by simp only[ag,hdf];rfl) hn.out (by decide))
   | false=>
   have hr4:=hr3.out
   rw[if_neg (of_decide_eq_false hb)] at hr4
   clear hr3 hb
   by_cases c4:kl.length=64
   ·have hn:(([]:List (Cl×Int)),(3:Int))=r9:=by rw[←hr4];exact (if_pos c4).symm
    have e5:((kl.length:Int)==64)=true:=beq_iff_eq.2 (by omega)
    replace hn:Hd _:=hn
    clear hr4 go c4
    refine zW tyF ?_
    exact m4.out _ _ (badE.out 3 _ zL (by simp only[ag,hdf];rfl) hn.out (by decide))
   rw[if_neg c4] at hr4
   have e5:((kl.length:Int)==64)=false:=beq_false_of_ne (by omega)
   replace hr4:Hd _:=hr4
   clear badE
   refine zW tyF ?_
   refine m1.out _ _ ?_
   clear m2 m3 m4
   refine zW tyF ?_
   refine zH (qA tyF (qA (ixC hglt) CE)) fun K7 hK7=>?_
   refine WE.MP (Bz H8 p q x.num hp8 hq8 hBn) fun w9 H9 g9 ⟨p',q',hw9,hp',hq',ip,iq⟩=>?_
   subst hw9
   have rP:=(g9.get _ nP6 not_false).trans rP
   have nP6:=Nat.lt_of_lt_of_le nP6 g9.nx
   have rM:=(g9.get _ nM6 not_false).trans rM
   have nM6:=Nat.lt_of_lt_of_le nM6 g9.nx
   have rC:=(g9.get _ mC not_false).trans rC
   have mC:=Nat.lt_of_lt_of_le mC g9.nx
   have g69:=g68.gr g9
   have n89:=g9.nx
   have hi0:∀ id∈gM [.i .i64 (i:Int),.o (.str x.good),.o (.str gd.2.1),p',q'],H8.nx≤id∧¬(id<B∨id=M):=fun id hid=>by
    rw[sP] at hid
    have h1:H8.nx≤id:=by
     rcases List.mem_append.1 hid with h|h
     ·exact ip id h
     ·exact iq id h
    exact ⟨h1,by omega⟩
   have hcl:ClR H9 [.i .i64 (i:Int),.o (.str x.good),.o (.str gd.2.1),p',q'] ((i:Int),x.good,gd.2.1,x.num):=⟨p',q',rfl,hp',hq'⟩
   obtain ⟨hlt5,cv',H10,happ,hbs10,hf10⟩:=hbs8.out.EH g9 (fun j h=>by omega) rfl hcl hi0 (by rw[List.length_map];omega)
   have hmap:(kl++[(((i:Int),x.good,gd.2.1,x.num),x.kind)]).map Prod.fst=kl.map Prod.fst++[((i:Int),x.good,gd.2.1,x.num)]:=by rw[List.map_append];rfl
   have hlen':(kl++[(((i:Int),x.good,gd.2.1,x.num),x.kind)]).length≤64:=by rw[List.length_append];show kl.length+1≤64;omega
   have rC10:=(hf10.get _ mC fun h=>h (.inr rfl)).trans rC
   have rM10:=(hf10.get _ nM6 fun h=>h (.inl hMB)).trans rM
   have rP10:=(hf10.get _ nP6 fun h=>h (.inl (by omega))).trans rP
   have mC10:=Nat.lt_of_lt_of_le mC hf10.nx
   have nM10:=Nat.lt_of_lt_of_le nM6 hf10.nx
   have nP10:=Nat.lt_of_lt_of_le nP6 hf10.nx
   have g610:Gr H H10:=g69.then hf10 fun q hq=>.inl (by omega)
   rw[←hmap] at hbs10
   clear hbs8 hi0 hcl hmap hp8 hq8 hp' hq' hf10 g69 g68 g9 rC rM rP mC nM6 nP6 ip iq z4
   replace hbs10:Hd _:=hbs10
   refine zS (qA tyF gS) ?_
   refine ⟨hlt5,?_⟩
   refine zE tyF ?_
   refine R1.gen (fun A12 H12=>Gr H H12∧M<H12.nx∧MM<H12.nx∧H12.get (N+1)=some (.arr [cv',rv] 37 0 0)∧H12.get MM=some (qx kvT ml)∧H12.get M=some (.arr [.i .i64 x.face,.i .i64 x.col,.i .i64 x.line,.i .i64 x.kind,p,q,.o (.str x.good),w] 69 0 0)∧Hd (dD (fun j=>j<B∨j=M) H12 ((kl++[(((i:Int),x.good,gd.2.1,x.num),x.kind)]).map Prod.fst) (eK gs [] kl) (bx 0 kl) cv' rv ev)∧slot A12.tm 1=.one ((.o (.sl gid gg goff gs.length 3)))∧slot A12.tm 6=.one ((.o (.ptr (N+1) 0 0 2)))∧slot A12.tm 7=.one (ev)∧slot A12.tm 11=.one ((.o (.mp MM)))∧slot A12.tm 13=.one ((.o (.ptr M 0 0 8)))∧slot A12.tm 14=.one (.i .i64 (gi:Int))∧slot A12.tm 15=.one (.i .i64 (kl.length:Int))∧slot A12.tm 36=.one ((.o (.sl id g off cs.length 8)))∧slot A12.tm 37=.one (.i .i64 (cs.length:Int))∧slot A12.tm 38=.one (.i .i64 (i:Int))∧A12.nt=165∧A12.dfr=[])
    ⟨g610.mod _ (.inl (by omega)),mC10,nM10,ai rfl,(az (by omega)).trans rM10,(az (by omega)).trans rC10,hbs10.out.fr (Y:=fun j=>j=N+1) ((Fr.refl _).mod _ (.inr rfl)) fun j h=>.inl (.inl (by omega)),zL⟩ ?_
   clear t1 t6 t7 t11 t12 t13 t14 t36 t37 t38 t59 hnt hdf A hK7 K7 happ hlt5 hbs10 rC10 rM10 rP10 mC10 nM10 nP10 g610 hggr hgid z3 ll8 lv8 hg8 n89
   rintro A12 H12 ⟨g12,mC,nM,rP,rM,rC,hbs,t1,t6,t7,t11,t13,t14,t15,t36,t37,t38,hnt,hdf⟩
   have nB:B≤H12.nx:=by omega
   have nP:N+1<H12.nx:=by omega
   have hbk:K2=K2:=rfl
   have hrl:=oc gs kl [] (((i:Int),x.good,gd.2.1,x.num),x.kind)
   have hel:=zO 0 kl (((i:Int),x.good,gd.2.1,x.num),x.kind)
   rw[List.nil_append] at hrl
   rw[Nat.zero_add] at hel
   have hell:=xt 0 kl
   have hrll:=ox gs [] kl
   by_cases c5:x.kind=1
   ·have e3:(x.kind==1)=true:=beq_iff_eq.2 c5
    have hr0:im gs kl (((i:Int),x.good,gd.2.1,x.num),x.kind)=[]:=if_pos c5
    rw[hr0,List.append_nil] at hrl
    rw[if_pos (show ((((i:Int),x.good,gd.2.1,x.num),x.kind):Cl×Int).2=1 from c5)] at hel
    obtain ⟨hltE,ev',H13,happE,hbsE,hfE⟩:=hbs.out.VE (Fr.refl _:Gr H12 H12) (fun j h=>by omega) (x:=(kl.length:Int)) (by omega)
    have rP13:=(hfE.get _ nP fun h=>h (.inl (by omega))).trans rP
    have rM13:=(hfE.get _ nM fun h=>h (.inl hMB)).trans rM
    have g13:Gr H H13:=g12.then hfE fun q hq=>.inl (by omega)
    have nB13:B≤H13.nx:=by have:=hfE.nx;omega
    rw[←hel,←hrl] at hbsE
    have hmE:=hmap.out.entry (x:=(((i:Int),x.good,gd.2.1,x.num),x.kind)) c5
    clear hel hrl hr0 hfE c5 hbs hmap
    replace hbsE:Hd _:=hbsE
    replace hmE:Hd _:=hmE
    refine zW tyF ?_
    refine zG (qA tyF (qA gS happE)) fun K8 hK8=>?_
    refine ⟨hltE,?_⟩
    refine zK tyF ?_
    exact (go.out _ ml cv' rv ev' _ _ zL hlen' g13 nB13 rP13 rM13 hmE.out hr4.out hbsE.out).1
   have e3:(x.kind==1)=false:=beq_false_of_ne c5
   have hru:im gs kl (((i:Int),x.good,gd.2.1,x.num),x.kind)=[((kl.length:Int),ck gd (dh (x.good,x.kind) 0 0 kl) 0 kl)]:=by
    have e:im gs kl (((i:Int),x.good,gd.2.1,x.num),x.kind)=[((kl.length:Int),ck (fR gs x.good) (dh (x.good,x.kind) 0 0 kl) 0 kl)]:=if_neg c5
    rw[e,hgd.out]
   have hflt:=rD gd (dh (x.good,x.kind) 0 0 kl) [] kl
   rw[List.nil_append] at hflt
   have hflt:(bx 0 kl).filter (isP gd kl (dh (x.good,x.kind) 0 0 kl))=ck gd (dh (x.good,x.kind) 0 0 kl) 0 kl:=hflt
   rw[hru,←hflt] at hrl
   rw[if_neg (show ¬((((i:Int),x.good,gd.2.1,x.num),x.kind):Cl×Int).2=1 from c5),List.append_nil] at hel
   have hmt:=hmap.out.total (((i:Int),x.good,gd.2.1,x.num),x.kind)
   have hat:=hmap.out (x.good,x.kind) c5
   have hem:=Ak 0 kl
   clear hru hflt c5 hmap
   generalize dh (x.good,x.kind) 0 0 kl=fr at hrl hat
   obtain ⟨hv,hb,hvb,hlk⟩:∃ (hv:Int) (hb:Bool),(if hb=true then hv else -1)=(fr:Int) - 1∧bp Tryz.prog H12 152 (.one (.i .i64 0)) (.one (.o (.mp MM))) (.agg [.o (.str x.good),.i .i64 x.kind]) true=.val (.tup [(false,[.i .i64 hv]),(false,[.b hb])]) H12:=by
    have h1:=OH Uq (z:=.one (.i .i64 0)) (k:=(x.good,x.kind)) (ok:=true) rM
    rw[hat] at h1
    by_cases h0:fr=0
    ·rw[if_pos h0] at h1
     exact ⟨0,false,by rw[h0];rfl,h1⟩
    ·rw[if_neg h0] at h1
     exact ⟨(fr:Int) - 1,true,rfl,h1⟩
   clear hat
   replace hrl:Hd _:=hrl
   replace hel:Hd _:=hel
   replace hmt:Hd _:=hmt
   replace hem:Hd _:=hem
   replace hvb:Hd _:=hvb
   refine zW (qA tyF (qA hlk tR)) ?_
   refine R1.VN (fun B5 H5=>H12=H5∧slot B5.tm 1=.one ((.o (.sl gid gg goff gs.length 3)))∧slot B5.tm 6=.one ((.o (.ptr (N+1) 0 0 2)))∧slot B5.tm 7=.one (ev)∧slot B5.tm 11=.one ((.o (.mp MM)))∧slot B5.tm 13=.one ((.o (.ptr M 0 0 8)))∧slot B5.tm 14=.one (.i .i64 (gi:Int))∧slot B5.tm 15=.one (.i .i64 (kl.length:Int))∧slot B5.tm 16=.one ((.i .i64 ((fr:Int) - 1)))∧slot B5.tm 36=.one ((.o (.sl id g off cs.length 8)))∧slot B5.tm 37=.one (.i .i64 (cs.length:Int))∧slot B5.tm 38=.one (.i .i64 (i:Int))∧B5.nt=165∧B5.dfr=[]) (fun K8 n1 n2 n3=>?_) ?_
   ·cases hb with
    | true=>
     have hvb:hv=(fr:Int) - 1:=hvb.out
     subst hvb
     refine zW tyF ?_
     refine n1.out _ _ ?_
     exact ⟨rfl,zL⟩
    | false=>
     have hvb2:Hd (-1=(fr:Int) - 1):=hvb.out
     clear hvb
     refine zW tyF ?_
     refine n1.out _ _ ?_
     rw[←hvb2.out]
     exact ⟨rfl,zL⟩
   clear t1 t6 t7 t11 t13 t14 t15 t36 t37 t38 hnt hdf A12 hlk hvb
   rintro A12 H5 ⟨rfl,t1,t6,t7,t11,t13,t14,t15,t16,t36,t37,t38,hnt,hdf⟩
   refine zR tyF ?_
   refine R1.gen (fun A13 H13=>Gr H12 H13∧H12.nx<H13.nx∧H13.get H12.nx=some (.arr [.i .i64 (kl.length:Int),.o .nilS] 86 0 0)∧slot A13.tm 1=.one ((.o (.sl gid gg goff gs.length 3)))∧slot A13.tm 6=.one ((.o (.ptr (N+1) 0 0 2)))∧slot A13.tm 7=.one (ev)∧slot A13.tm 11=.one ((.o (.mp MM)))∧slot A13.tm 13=.one ((.o (.ptr M 0 0 8)))∧slot A13.tm 14=.one (.i .i64 (gi:Int))∧slot A13.tm 15=.one (.i .i64 (kl.length:Int))∧slot A13.tm 16=.one ((.i .i64 ((fr:Int) - 1)))∧slot A13.tm 18=.one ((.o (.ptr H12.nx 0 0 2)))∧slot A13.tm 36=.one ((.o (.sl id g off cs.length 8)))∧slot A13.tm 37=.one (.i .i64 (cs.length:Int))∧slot A13.tm 38=.one (.i .i64 (i:Int))∧A13.nt=165∧A13.dfr=[])
    ⟨((Fr.refl _).new _).mod _ (.inl (Nat.le_refl _)),Nat.lt_succ_self _,ai rfl,zL⟩ ?_
   clear t1 t6 t7 t11 t13 t14 t15 t16 t36 t37 t38 hnt hdf A12
   rintro A13 H13 ⟨g13,mR,rR,t1,t6,t7,t11,t13,t14,t15,t16,t18,t36,t37,t38,hnt,hdf⟩
   obtain ⟨R,hR⟩:∃ R,R=H12.nx:=⟨_,rfl⟩
   have hRl:H12.nx≤R:=by omega
   rw[←hR] at mR rR t18
   clear hR
   have hc12:=hbs.out.c
   have he12:=hbs.out.e
   have hev13:=he12.gr g13
   have le:=hev13.len
   have le2:=hev13.lt
   refine zW tyF ?_
   refine R1.cq fun K9 w1 w2 w3 w4=>?_
   refine R1.loop (fun z A H9=>∃ (k:Nat) (v5:AC) (r5:Option Nat),z=(bx 0 kl).length - k∧k≤(bx 0 kl).length∧Gr H12 H9∧R<H9.nx∧H9.get R=some (.arr [.i .i64 (kl.length:Int),v5] 86 0 0)∧dO H9 v5 3 1 (((bx 0 kl).take k).filter (isP gd kl fr)).length ((((bx 0 kl).take k).filter (isP gd kl fr)).flatMap pj) r5∧(∀ q,r5=some q→R<q) ∧
    slot A.tm 1=.one ((.o (.sl gid gg goff gs.length 3)))∧slot A.tm 6=.one ((.o (.ptr (N+1) 0 0 2)))∧slot A.tm 7=.one (ev)∧slot A.tm 11=.one ((.o (.mp MM)))∧slot A.tm 13=.one ((.o (.ptr M 0 0 8)))∧slot A.tm 14=.one (.i .i64 (gi:Int))∧slot A.tm 15=.one (.i .i64 (kl.length:Int))∧slot A.tm 16=.one ((.i .i64 ((fr:Int) - 1)))∧slot A.tm 18=.one ((.o (.ptr R 0 0 2)))∧slot A.tm 36=.one ((.o (.sl id g off cs.length 8)))∧slot A.tm 37=.one (.i .i64 (cs.length:Int))∧slot A.tm 38=.one (.i .i64 (i:Int))∧slot A.tm 120=.one (ev)∧slot A.tm 121=.one (.i .i64 ((bx 0 kl).length:Int))∧slot A.tm 122=.one (.i .i64 (k:Int))∧A.nt=165∧A.dfr=[]) ?_ (bx 0 kl).length
    ⟨0,.o .nilS,none,rfl,Nat.zero_le _,g13,mR,rR,.inl ⟨rfl,rfl,rfl,rfl⟩,fun q hq=>(by cases hq),zL⟩
   clear t1 t6 t7 t11 t13 t14 t15 t16 t18 t36 t37 t38 hnt hdf A13 w3 g13 mR rR le le2 hev13 H13
   rintro z A H9 ⟨k,v5,r5,rfl,hk,g9,mR,rR,hown,hrow,t1,t6,t7,t11,t13,t14,t15,t16,t18,t36,t37,t38,t120,t121,t122,hnt,hdf⟩
   obtain ⟨zi,hzi,hzil⟩:=uv
   replace hzi:Hd _:=hzi
   replace hzil:Hd _:=hzil
   refine zW tyF ?_
   refine zI tyF (fun hc=>?_) (fun hc=>?_)
   ·have hkl2:k<(bx 0 kl).length:=by omega
    obtain ⟨n0,en⟩:∃ n0,(bx 0 kl)[k]?=some n0:=⟨_,List.getElem?_eq_getElem hkl2⟩
    obtain ⟨m,y,hn0,ey⟩:=hem.out n0 (List.mem_of_getElem? en)
    rw[Nat.zero_add] at hn0
    subst hn0
    have hmkl:=(List.getElem?_eq_some_iff.1 ey).1
    have hm2:m<kl.length+1:=by omega
    have hw2:IntKind.i64.wrap ((k:Int)+1)=((k+1:Nat):Int):=by rw[aX (by omega) (by omega)];omega
    obtain ⟨eid,eg,eoff,ecells,hev',heid,hegr,heat⟩:=(he12.gr g9).open (by omega)
    subst hev'
    obtain ⟨y1,y2⟩:=heat k _ en
    rw[Nat.mul_one] at y1 y2
    obtain ⟨cid,cg,coff,ccells,hcv',hcid,hcgr,hcat⟩:=(hc12.gr g9).open (by rw[List.length_map,List.length_append];exact Nat.succ_pos _)
    have hcln:((kl++[(((i:Int),x.good,gd.2.1,x.num),x.kind)]).map Prod.fst).length=kl.length+1:=by rw[List.length_map,List.length_append];rfl
    rw[hcln] at hcv'
    subst hcv'
    obtain ⟨p5,q5,hy⟩:=hcat m y.1 (by rw[List.getElem?_map,List.getElem?_append_left hmkl,ey];rfl)
    have y3:=hy.f2
    have y4:=hy.le2
    have hfl:((bx 0 kl).take (k+1)).filter (isP gd kl fr)=((bx 0 kl).take k).filter (isP gd kl fr)++(if (decide ((fr:Int) - 1<(m:Int))&&dp gd y.1.2.1)=true then [(m:Int)] else []):=by
     have hp:isP gd kl fr (m:Int)=(decide ((fr:Int) - 1<(m:Int))&&dp gd y.1.2.1):=by
      unfold isP
      rw[Int.toNat_natCast,ey];rfl
     rw[kD en,List.filter_append,List.filter_cons,hp];rfl
    have hpl:(((bx 0 kl).take k).filter (isP gd kl fr)).length≤64:=by
     have h1:=List.length_filter_le (isP gd kl fr) ((bx 0 kl).take k)
     rw[List.length_take] at h1
     omega
    have rP9:=(g9.get _ nP not_false).trans rP
    have nP9:=Nat.lt_of_lt_of_le nP g9.nx
    have hgid9:gid<H9.nx:=Nat.lt_of_lt_of_le hgidH (g12.gr g9).nx
    have hggr9:rowOf (H9.get gid) gg=some gcells:=by rw[(g12.gr g9).get _ hgidH not_false];exact hggrH.out
    have hgu9:=hguH.out.gr (g12.gr g9)
    clear heat hcat hy en ey hcln
    replace hfl:Hd _:=hfl
    have hk1:k+1≤(bx 0 kl).length:=by omega
    refine zW tyF ?_
    refine R1.cq fun K8 u1 u2 u3 u4=>?_
    refine zR (qA tyF (qA (ixC hkl2) Nat.mul_one)) ?_
    by_cases d1:(fr:Int) - 1<(m:Int)
    ·refine zG (qA tyF (qA (ixC hglt) (qA (ixC hm2) zt))) fun K10 hK10=>?_
     refine WE.con (ND H9 gd gu y.1.2.1 hgu9 hBg.out) fun w10 H10 g10 hq10=>?_
     subst hq10
     have rR10:=(g10.get _ mR not_false).trans rR
     have mR10:=Nat.lt_of_lt_of_le mR g10.nx
     have hown10:=hown.fr g10 fun _ _ h=>h
     have g910:=g9.gr g10
     have hpa:=hfl.out
     clear hfl rR hown hgu9 hggr9 hgid9 rP9 nP9 hcid hcgr heid hegr y1 y2 y3 y4
     cases hb2:dp gd y.1.2.1 with
     | true=>
      rw[decide_eq_true d1,hb2] at hpa
      have hpb:((bx 0 kl).take (k+1)).filter (isP gd kl fr)=((bx 0 kl).take k).filter (isP gd kl fr)++[(m:Int)]:=hpa
      obtain ⟨hlt6,v6,H11,r6,happ6,ho6,hf6,hr6⟩:=eP dZ oG hzi.out hzil.out (by decide) hown10 [.i .i64 (m:Int)] rfl (by omega)
      have rR11:=(hf6.get _ mR10 fun e=>by have:=hrow _ e;omega).trans rR10
      have mR11:=Nat.lt_of_lt_of_le mR10 hf6.nx
      have g11:Gr H12 (H11.mod R (.arr [.i .i64 (kl.length:Int),v6] 86 0 0)):=(g910.then hf6 fun q hq=>.inl (by have:=hrow q hq;omega)).mod _ (.inl hRl)
      have hR6:R<r6:=by
       rcases hr6 with e|e
       ·exact hrow _ e
       ·omega
      have ho11:=ho6.fr (H':=H11.mod R (.arr [.i .i64 (kl.length:Int),v6] 86 0 0)) (X:=fun i=>i=R) ((Fr.refl _).mod _ (.inr rfl)) fun i hi h=>by cases hi;omega
      have hpe:dO (H11.mod R (.arr [.i .i64 (kl.length:Int),v6] 86 0 0)) v6 3 1 (((bx 0 kl).take (k+1)).filter (isP gd kl fr)).length ((((bx 0 kl).take (k+1)).filter (isP gd kl fr)).flatMap pj) (some r6):=by
       rw[hpb,List.length_append,List.flatMap_append];exact ho11
      have mR12:R<(H11.mod R (.arr [.i .i64 (kl.length:Int),v6] 86 0 0)).nx:=mR11
      clear ho11 ho6 hpa hpb hr6 hf6 hown10 g910 d1 g10 hb2
      replace hpe:Hd _:=hpe
      replace g11:Hd _:=g11
      refine zK tyF ?_
      refine zG (qA tyF (qA gS happ6)) fun K11 hK11=>?_
      refine ⟨hlt6,?_⟩
      refine zK tyF ?_
      refine u1.out _ _ ?_
      refine zW tyF ?_
      exact ⟨(bx 0 kl).length - (k+1),by omega,k+1,v6,some r6,rfl,hk1,g11.out,mR12,ai rfl,hpe.out,fun q hq=>by cases hq;exact hR6,zL⟩
     | false=>
      rw[hb2,Bool.and_false,if_neg (by decide),List.append_nil] at hpa
      rw[←hpa] at hown10
      clear hpa d1 hb2 g10
      refine zK tyF ?_
      refine u1.out _ _ ?_
      refine zW tyF ?_
      exact ⟨(bx 0 kl).length - (k+1),by omega,k+1,v5,r5,rfl,hk1,g910,mR10,rR10,hown10,hrow,zL⟩
    ·have hpa:=hfl.out
     rw[decide_eq_false d1,Bool.false_and,if_neg (by decide),List.append_nil] at hpa
     rw[←hpa] at hown
     clear hpa hfl
     refine zW (qA tyF (qA (ixC hglt) (qA (ixC hm2) zt))) ?_
     refine u1.out _ _ ?_
     refine zW tyF ?_
     exact ⟨(bx 0 kl).length - (k+1),by omega,k+1,v5,r5,rfl,hk1,g9,mR,rR,hown,hrow,zL⟩
   ·have hke:k=(bx 0 kl).length:=by omega
    rw[hke,List.take_length] at hown
    have hids:=dO.ids hown
    have hsl:SlI H9 v5 ((bx 0 kl).filter (isP gd kl fr)):=hown.slc
    obtain ⟨hltR,rv',H14,happR,hbsR,hfR⟩:=hbs.out.VB g9 (fun j h=>by have:=g9.nx;omega) (c0:=[.i .i64 (kl.length:Int),v5]) (x:=((kl.length:Int),(bx 0 kl).filter (isP gd kl fr))) rfl ⟨v5,rfl,hsl⟩ (fun id hid=>by
     rw[sX] at hid
     have h1:=hrow id (hids id hid)
     omega) (by omega)
    have rP9:=(g9.get _ nP not_false).trans rP
    have nP9:=Nat.lt_of_lt_of_le nP g9.nx
    have rM9:=(g9.get _ nM not_false).trans rM
    have nM9:=Nat.lt_of_lt_of_le nM g9.nx
    have rC9:=(g9.get _ mC not_false).trans rC
    have mC9:=Nat.lt_of_lt_of_le mC g9.nx
    have rM14:=(hfR.get _ nM9 fun h=>h (.inl hMB)).trans rM9
    have rC14:=(hfR.get _ mC9 fun h=>h (.inr rfl)).trans rC9
    have rP14:=(hfR.get _ nP9 fun h=>h (.inl (by omega))).trans rP9
    have nP14:=Nat.lt_of_lt_of_le nP9 hfR.nx
    have nM14:=Nat.lt_of_lt_of_le nM9 hfR.nx
    have mC14:=Nat.lt_of_lt_of_le mC9 hfR.nx
    have nB14:B≤H14.nx:=by have:=hfR.nx;omega
    have g14:Gr H H14:=(g12.gr g9).then hfR fun q hq=>.inl (by omega)
    rw[←hrl.out,←hel.out] at hbsR
    clear hown hids hsl hfR hbs hrl hel hem hc12 he12 rM rC hell hrll
    replace hbsR:Hd _:=hbsR
    refine zW tyF ?_
    refine w2.out _ _ ?_
    refine zG (qA tyF (qA gS happR)) fun K10 hK10=>?_
    refine ⟨hltR,?_⟩
    refine zE tyF ?_
    have rM15:(H14.mod (N+1) (.arr [cv',rv'] 37 0 0)).get MM=some (qx kvT ml):=(az (by omega)).trans rM14
    have rC15:=(az (o:=.arr [cv',rv'] 37 0 0) (show M≠N+1 by omega)).trans rC14
    have hup:=NL Uq (k:=(x.good,x.kind)) (x:=.i .i64 (kl.length:Int)) rM15
    have nM15:MM<(H14.mod (N+1) (.arr [cv',rv'] 37 0 0)).nx:=nM14
    have rP16:((H14.mod (N+1) (.arr [cv',rv'] 37 0 0)).mod MM (qx kvT (iG ml (x.good,x.kind) (.i .i64 (kl.length:Int))))).get (N+1)=some (.arr [cv',rv'] 37 0 0):=(az (by omega)).trans (ai rfl)
    have g16:Gr H ((H14.mod (N+1) (.arr [cv',rv'] 37 0 0)).mod MM (qx kvT (iG ml (x.good,x.kind) (.i .i64 (kl.length:Int))))):=(g14.mod _ (.inl (by omega))).mod _ (.inl (by omega))
    have hbs16:=(hbsR.out.fr (Y:=fun j=>j=N+1) (H':=H14.mod (N+1) (.arr [cv',rv'] 37 0 0)) ((Fr.refl _).mod _ (.inr rfl)) fun j h=>.inl (.inl (by omega))).fr (Y:=fun j=>j=MM) (H':=(H14.mod (N+1) (.arr [cv',rv'] 37 0 0)).mod MM (qx kvT (iG ml (x.good,x.kind) (.i .i64 (kl.length:Int))))) ((Fr.refl _).mod _ (.inr rfl)) fun j h=>.inl (.inl (by omega))
    clear hbsR
    replace hbs16:Hd _:=hbs16
    replace g16:Hd _:=g16
    replace rP16:Hd _:=rP16
    refine zW (qA tyF hup) ?_
    exact (go.out _ _ cv' rv' ev _ _ zL hlen' g16.out nB14 rP16.out (ai rfl) hmt.out hr4.out hbs16.out).2
  clear hr3 go badE
  by_cases c5:x.kind=1
  ·have e3:(x.kind==1)=true:=beq_iff_eq.2 c5
   by_cases c6:gd.2.2=[]
   ·have e4:¬(0:Int)<(gd.2.2.length:Int):=by rw[c6];decide
    have e6:decide (x.kind=1∧gd.2.2≠[])=false:=decide_eq_false fun h=>h.2 c6
    replace e6:Hd _:=e6
    clear c5 c6
    refine zS (qA tyF (ixC hglt)) ?_
    exact key.out _ _ zL e6.out
   ·have e4:(0:Int)<(gd.2.2.length:Int):=by
     have:gd.2.2.length≠0:=fun h=>c6 (List.eq_nil_of_length_eq_zero h)
     omega
    have e6:decide (x.kind=1∧gd.2.2≠[])=true:=decide_eq_true ⟨c5,c6⟩
    replace e6:Hd _:=e6
    clear c5 c6
    refine zS (qA tyF (ixC hglt)) ?_
    exact key.out _ _ zL e6.out
  ·have e3:(x.kind==1)=false:=beq_false_of_ne c5
   have e6:decide (x.kind=1∧gd.2.2≠[])=false:=decide_eq_false fun h=>c5 h.1
   replace e6:Hd _:=e6
   clear c5
   refine zS (qA tyF (ixC hglt)) ?_
   exact key.out _ _ zL e6.out
 ·have hie:i=cs.length:=by omega
  subst hie
  have hn:=hr.out
  rw[List.drop_length,cy] at hn
  have he:e0=0:=by rw[hee.out,←hn]
  have hk9:=hkk.out he
  rw[←hn] at hk9
  have hk9:qk o gs (nm,cs)=kl:=hk9
  have hbs9:=hbs.out.fr (Y:=fun i=>i=N+1) (H':=H6.mod (N+1) (.arr [cv,rv] 37 0 0)) ((Fr.refl _).mod _ (.inr rfl)) fun i h=>.inl (by omega)
  have b1:dD (fun j=>j<H.nx) (H6.mod (N+1) (.arr [cv,rv] 37 0 0)) p0.1 p0.2 q0 cv rv ev:=by
   rw[←hp0.out,←hq0.out]
   unfold iO
   rw[hk9]
   exact hbs9.less fun j h=>.inl (by omega)
  have g9:Gr H (H6.mod (N+1) (.arr [cv,rv] 37 0 0)):=g6.mod _ (.inl (by omega))
  have hev:ltV (.one ev) H6.nx:=hbs.out.e.lt
  replace b1:Hd _:=b1
  clear hbs hbs9 hk9 hn hr bad hee hkk hv6
  subst he
  refine zW tyF ?_
  refine k2.out _ _ ?_
  refine zW tyF ?_
  exact fin _ _ _ _ _ (N+1) (by simp only[aa,Nat.reduceEqDiff,reduceIte,t6]) (by simp only[aa,Nat.reduceEqDiff,reduceIte,t7]) qp (by simp only[ag,hdf];rfl) (ai rfl) g9 b1.out
end Go.Proofs.YtnhbkodnmkojpaaGreat
namespace Go.Proofs.YtnhbkodnmkojpaaGreat
open Go Go.Eng
theorem Of:al Tryz.prog 9=true:=by kernel_rfl
theorem Ho (H:Hp) (k gv v:AC) (o:Option (List Lad)) (gs:List Gd) (nm:List UInt8) (cs:List Cs) (hk:cT H k o) (hbl:∀ ls,o=some ls→∀ x∈ls,x.2.length≤1000000) (hg:SlG H gv gs) (hv:bX H v cs) (hB:TbB cs) (hO:∀ x∈gs,x.2.2.length≤4611686018427387904):
  Con E2 9 [.one k,.one gv,.agg [.o (.str nm),v]] H (fun _=>False) fun r H'=>∃ a b,r=.tup [(true,[a,b]),(false,[.i .i64 (gV o gs (nm,cs))])]∧gP H' a (iO o gs (nm,cs)).1∧np H' b (iO o gs (nm,cs)).2:=by
 refine Con.of rfl fun lg=>?_
 have hk:cT ⟨H.t,H.nx,lg⟩ k o:=cT.same (H:=H) rfl rfl hk
 have hg:SlG ⟨H.t,H.nx,lg⟩ gv gs:=hg
 have hv:bX ⟨H.t,H.nx,lg⟩ v cs:=hv
 generalize (⟨H.t,H.nx,lg⟩:Hp)=H at hk hg hv ⊢
 refine C1.body (E:=E2) (nt:=21) (res:=[.cell 6 37,.tmp 7]) Tryz.func9 rfl rfl rfl rfl rfl fun tm hargs=>?_
 have h0:=hargs 0 _ rfl
 have h1:=hargs 1 _ rfl
 have h2:=hargs 2 _ rfl
 clear hargs
 generalize hp0:iO o gs (nm,cs)=p0
 generalize he0:gV o gs (nm,cs)=e0
 generalize hq0:bx 0 (qk o gs (nm,cs))=q0
 have fin:∀ (a b:AC) (A:ab) (H9:Hp) (M:Nat),slot A.tm 6=.one (.o (.ptr M 0 0 2))→slot A.tm 7=.one (.i .i64 e0)→closeAll H9 A.dfr=some H9→H9.get M=some (.arr [a,b] 37 0 0)→Gr H H9→gP H9 a p0.1→np H9 b p0.2 →
   ∃ w H4,ao E2 [.cell 6 37,.tmp 7] (.ret,A,H9)=.ok [(w,H4)]∧Gr H H4∧∀ lg:List Nat,∃ a b,w=.tup [(true,[a,b]),(false,[.i .i64 e0])]∧gP ⟨H4.t,H4.nx,lg⟩ a p0.1∧np ⟨H4.t,H4.nx,lg⟩ b p0.2:=fun a b A H9 M s6 s7 hd r1 hgr h1 h2=>
  ⟨_,H9,cE (.inr rfl) hd (fw jQ s6 (by rw[r1];exact qq) (Nat.le_refl _) rfl (kS s7 lL)),hgr,fun lg=>⟨a,b,rfl,h1,h2⟩⟩
 have lv:=hv.lt
 replace hp0:Hd _:=hp0
 replace he0:Hd _:=he0
 replace hq0:Hd _:=hq0
 refine zG tyF fun K hK=>?_
 refine hK.out _ _ ?_
 refine R1.gen (fun A1 H1=>Gr H H1∧H.nx+1<H1.nx∧H1.get H.nx=some (.arr [.o (.str nm),v] 26 0 0)∧H1.get (H.nx+1)=some (.arr [.o .nilS,.o .nilS] 37 0 0)∧slot A1.tm 0=.one (k)∧slot A1.tm 1=.one (gv)∧slot A1.tm 5=.one ((.o (.ptr H.nx 0 0 2)))∧slot A1.tm 6=.one ((.o (.ptr (H.nx+1) 0 0 2)))∧A1.nt=21∧A1.dfr=[])
  ⟨((Fr.refl _).new _).new _,by show H.nx+1<H.nx+1+1;omega,by rw[aN (by show H.nx<H.nx+1;omega)];exact an rfl,an rfl,zL⟩ ?_
 clear h0 h1 h2 tm hK K lv
 rintro A1 H1 ⟨g1,n1,r0,r1,t0,t1,t5,t6,hnt,hdf⟩
 obtain ⟨N,hN⟩:∃ N,N=H.nx:=⟨_,rfl⟩
 rw[←hN] at n1 r0 r1 t5 t6
 have hNl:H.nx≤N:=Nat.le_of_eq hN.symm
 replace hN:Hd _:=hN
 have n0:N<H1.nx:=by omega
 have hk1:=hk.gr g1
 have hg1:=hg.gr g1
 have hv1:=hv.gr g1
 refine zG (qA tyF QK) fun K hK=>?_
 refine WE.con (MK H1 k gv v o gs nm cs hk1 hbl hg1 hv1 hB hO) fun w2 H2 g2 ⟨a,b,ev,hq2,hbs⟩=>?_
 rw[he0.out] at hq2
 rw[hp0.out,hq0.out] at hbs
 subst hq2
 have r0:=(g2.get _ n0 not_false).trans r0
 have n0:=Nat.lt_of_lt_of_le n0 g2.nx
 have r1:=(g2.get _ n1 not_false).trans r1
 have n1:=Nat.lt_of_lt_of_le n1 g2.nx
 have g2:=g1.gr g2
 have hbs3:=hbs.fr (Y:=fun j=>j=N+1) (H':=((H2.new (.arr [.o .nilS,.o .nilS] 37 0 0)).mod H2.nx (.arr [a,b] 37 0 0)).mod (N+1) (.arr [a,b] 37 0 0)) ((((Fr.refl H2).new _).mod _ (.inl (Nat.le_refl _))).mod _ (.inr rfl)) fun j h=>.inl (by omega)
 have la:=hbs.c.lt
 have lb:=hbs.r.lt
 have le:=hbs.e.lt
 have g9:Gr H (((H2.new (.arr [.o .nilS,.o .nilS] 37 0 0)).mod H2.nx (.arr [a,b] 37 0 0)).mod (N+1) (.arr [a,b] 37 0 0)):=((g2.new _).mod _ (.inl (by have:=g2.nx;omega))).mod _ (.inl (by omega))
 clear hbs
 replace hbs3:Hd _:=hbs3
 replace g9:Hd _:=g9
 refine zK tyF ?_
 exact fin _ _ _ _ (N+1) (by simp only[aa,Nat.reduceEqDiff,reduceIte,t6]) qp (by simp only[ag,hdf];rfl) (ai rfl) g9.out hbs3.out.c hbs3.out.r
end Go.Proofs.YtnhbkodnmkojpaaGreat
namespace Go.Proofs.YtnhbkodnmkojpaaGreat
open Go Go.Eng
def wrN (us:List Pr) (cs:List Int):List Gp:=(((us.zip cs).filter fun x=>decide (0<x.2)).map fun x=>(x.2,x.1.1,false)).reverse
def fP (cs:List Int):Bool:=cs.any fun c=>decide (99<c)
noncomputable def kJ (nm:List UInt8) (us:List Pr) (n:Int):List Gp×Int:=
 if aP nm us≠0 then ([],aP nm us) else if 1≤n∧n≤1099511627776 then (if fP (bz us n)=true then ([],21) else (wrN us (bz us n),0)) else ([],8)
theorem lO (u:Pr) (us:List Pr) (c:Int) (cs:List Int):wrN (u::us) (c::cs)=wrN us cs++(if 0<c then [(c,u.1,false)] else []):=by
 unfold wrN
 rw[List.zip_cons_cons,List.filter_cons]
 by_cases h:0<c
 ·have h2:decide (0<c)=true:=decide_eq_true h
  rw[if_pos h]
  show (List.map _ (if decide (0<c)=true then _ else _)).reverse=_
  rw[if_pos h2,List.map_cons,List.reverse_cons]
 ·have h2:¬decide (0<c)=true:=by simp[h]
  rw[if_neg h,List.append_nil]
  show (List.map _ (if decide (0<c)=true then _ else _)).reverse=_
  rw[if_neg h2]
theorem Tx:wrN [] []=[]:=rfl
theorem Od {us:List Pr} {cs:List Int} {i:Nat} {u:Pr} {c:Int} (hu:us[i]?=some u) (hc:cs[i]?=some c):wrN (us.drop i) (cs.drop i)=wrN (us.drop (i+1)) (cs.drop (i+1))++(if 0<c then [(c,u.1,false)] else []):=by
 obtain ⟨h1,h2⟩:=List.getElem?_eq_some_iff.1 hu
 obtain ⟨h3,h4⟩:=List.getElem?_eq_some_iff.1 hc
 rw[List.drop_eq_getElem_cons h1,List.drop_eq_getElem_cons h3,lO,h2,h4]
theorem tc:∀ (us:List Pr) (cs:List Int),(wrN us cs).length≤us.length
 | [],cs=>by simp[wrN]
 | u::us,[]=>by simp[wrN]
 | u::us,c::cs=>by
  have:=tc us cs
  rw[lO,List.length_append,List.length_cons]
  split
  ·rw[List.length_singleton];omega
  ·rw[List.length_nil];omega
theorem PD:∀ (us:List Pr) (cs:List Int),us.length=cs.length→wrN us cs=[]→∀ c∈cs,¬0<c
 | _,[],_,_=>fun _ h=>absurd h List.not_mem_nil
 | [],_::_,h,_=>by cases h
 | u::us,d::cs,hl,h=>fun c hc=>by
  rw[lO,List.append_eq_nil_iff] at h
  rcases List.mem_cons.1 hc with rfl|hc
  ·intro hp
   rw[if_pos hp] at h
   exact absurd h.2 (by simp)
  ·exact PD us cs (Nat.succ.inj hl) h.1 c hc
theorem xY:∀ (us:List Pr) (n:Int),us≠[]→1≤n→(∀ x∈us,1≤x.2)→∃ c∈bz us n,0<c
 | [],_,h,_,_=>absurd rfl h
 | [x],n,_,hn,_=>⟨n,List.mem_singleton.2 rfl,by omega⟩
 | x::y::l,n,_,hn,hf=>by
  have hy:=hf y (List.mem_cons_of_mem _ (List.mem_cons_self ..))
  have h1:=Int.emod_nonneg n (show y.2≠0 by omega)
  rw[bz]
  by_cases h:0<n % y.2
  ·exact ⟨_,List.mem_cons_self ..,h⟩
  ·have h2:=Int.emod_add_mul_ediv n y.2
   have h3:n % y.2=0:=by omega
   have h4:1≤n / y.2:=by
    rcases Int.lt_or_le 0 (n / y.2) with h5|h5
    ·omega
    ·have:=Int.mul_nonpos_of_nonneg_of_nonpos (show 0≤y.2 by omega) h5
     omega
   obtain ⟨c,hc,hp⟩:=xY (y::l) (n / y.2) (by simp) h4 fun z hz=>hf z (List.mem_cons_of_mem _ hz)
   exact ⟨c,List.mem_cons_of_mem _ hc,hp⟩
theorem zu:∀ (us:List Pr) (n:Int) (i:Nat),(∀ x∈us,1≤x.2∧x.2≤60)→i+1<us.length→(bz us n).getD i 0≤99
 | [],_,_,_,h=>by simp at h
 | [x],_,i,_,h=>by simp at h
 | x::y::l,n,0,hf,_=>by
  have hy:=hf y (List.mem_cons_of_mem _ (List.mem_cons_self ..))
  rw[bz]
  show n % y.2≤99
  have:=Int.emod_lt_of_pos n (show 0<y.2 by omega)
  omega
 | x::y::l,n,i+1,hf,h=>by
  rw[bz,List.getD_cons_succ]
  exact zu (y::l) (n / y.2) i (fun z hz=>hf z (List.mem_cons_of_mem _ hz)) (by simpa using h)
theorem Kq:∀ (us:List Pr) (cs:List Int),us.length=cs.length→(∀ i,i+1<us.length→cs.getD i 0≤99)→((wrN us cs).head?.any fun g=>decide (99<g.1))=fP cs
 | [],[],_,_=>rfl
 | [],_::_,h,_=>by cases h
 | _::_,[],h,_=>by cases h
 | [x],[c],_,_=>by
  rw[lO,Tx,List.nil_append]
  show _=(decide (99<c)||false)
  rw[Bool.or_false]
  by_cases h:0<c
  ·rw[if_pos h];rfl
  ·rw[if_neg h]
   exact (decide_eq_false (by omega)).symm
 | [x],_::_::_,h,_=>by cases h
 | _::_::_,[_],h,_=>by cases h
 | x::y::us,c::d::cs,hl,hlow=>by
  have ih:=Kq (y::us) (d::cs) (Nat.succ.inj hl) fun i hi=>by
   have:=hlow (i+1) (by rw[List.length_cons];omega)
   rwa [List.getD_cons_succ] at this
  have h0:c≤99:=hlow 0 (by simp)
  have e1:fP (c::d::cs)=fP (d::cs):=by
   show (decide (99<c)||_)=_
   rw[decide_eq_false (by omega)];rfl
  rw[lO,e1,←ih]
  cases hw:wrN (y::us) (d::cs) with
  | cons g l=>rfl
  | nil=>
   rw[List.nil_append]
   by_cases h:0<c
   ·rw[if_pos h]
    exact decide_eq_false (by show ¬99<c;omega)
   ·rw[if_neg h]
theorem RO {nm:List UInt8} {us:List Pr} {n:Int} (hck:aP nm us=0) (hn:1≤n):∃ g l,wrN us (bz us n)=g::l∧decide (99<g.1)=fP (bz us n):=by
 obtain ⟨h1,h2,h3⟩:=fT hck
 obtain ⟨x,l,hx,_⟩:=hY hck
 have h4:=Kq us (bz us n) (eW us n).symm fun i hi=>zu us n i h3 hi
 cases hw:wrN us (bz us n) with
 | nil=>
  obtain ⟨c,hc,hp⟩:=xY us n (by rw[hx];simp) hn fun x hx=>(h3 x hx).1
  exact absurd hp (PD us _ (eW us n).symm hw c hc)
 | cons g l=>
  rw[hw] at h4
  exact ⟨g,l,rfl,h4⟩
end Go.Proofs.YtnhbkodnmkojpaaGreat
