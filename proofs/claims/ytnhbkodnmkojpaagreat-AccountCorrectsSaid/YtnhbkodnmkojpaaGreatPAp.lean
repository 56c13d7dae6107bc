/- A part of the proof: BkTb5, BkTb6, BkTb7, BkTb8, BkTb9, BkTb10, BkTb11. No conditions. -/
import Derived.Test.YtnhbkodnmkojpaaGreatPAo
set_option maxRecDepth 100000
set_option maxHeartbeats 64000000
namespace Go.Proofs.YtnhbkodnmkojpaaGreat
open Go Go.Eng
theorem BG:al Tryz.prog 163=true:=by kernel_rfl
theorem wb:al Tryz.prog 164=true:=by kernel_rfl
theorem RD:al Tryz.prog 165=true:=by kernel_rfl
theorem BC:al Tryz.prog 102=true:=by kernel_rfl
theorem Oe:al Tryz.prog 142=true:=by kernel_rfl
theorem uA:al Tryz.prog 143=true:=by kernel_rfl
theorem Ia:al Tryz.prog 144=true:=by kernel_rfl
theorem Pw:al Tryz.prog 82=true:=by kernel_rfl
theorem vP:al Tryz.prog 52=true:=by kernel_rfl
theorem CB:al Tryz.prog 33=true:=by kernel_rfl
theorem wj (H:Hp) (b:AC) (bf:List Cs) (c:Cs) (p q w:AC) (hb:bX H b bf) (hp:aD H p c.num.1) (hq:aD H q c.num.2) (hw:SlP H w c.ws) (hL:c.ws.length≤4611686018427387904) (hBF:bf.length≤4611686018427387904):
  Con E2 102 [.one b,.agg [.i .i64 c.face,.i .i64 c.col,.i .i64 c.line,.i .i64 c.kind,p,q,.o (.str c.good),w]] H (fun _=>False) fun r _=>r=.one (.i .i64 (fj bf c)):=by
 refine Con.of rfl fun lg=>?_
 have hb:bX ⟨H.t,H.nx,lg⟩ b bf:=hb
 have hp:aD ⟨H.t,H.nx,lg⟩ p c.num.1:=hp
 have hq:aD ⟨H.t,H.nx,lg⟩ q c.num.2:=hq
 have hw:SlP ⟨H.t,H.nx,lg⟩ w c.ws:=hw
 generalize (⟨H.t,H.nx,lg⟩:Hp)=H at hb hp hq hw ⊢
 refine C1.body (E:=E2) (nt:=30) (res:=[.tmp 4]) Tryz.func102 rfl rfl rfl rfl rfl fun tm hargs=>?_
 have h0:=hargs 0 _ rfl
 have h1:=hargs 1 _ rfl
 clear hargs
 have fin:∀ (e:Int) (A:ab) (H3:Hp),slot A.tm 4=.one (.i .i64 e)→A.dfr=[]→Gr H H3→e=fj bf c→∃ w H4,ao E2 [.tmp 4] (.ret,A,H3)=.ok [(w,H4)]∧Gr H H4∧∀ _:List Nat,w=.one (.i .i64 (fj bf c)):=fun e A H3 h1 h2 h3 h4=>⟨_,H3,ak (.i .i64 e) (.inr rfl) h2 h1,h3,fun _=>by rw[h4]⟩
 generalize hr0:fj bf c=r0 at fin
 have lb:=hb.lt
 have lp:=hp.lt
 have lq:=hq.lt
 have lw:=hw.lt
 refine zG tyF fun K hK=>?_
 refine hK.out _ _ ?_
 refine R1.gen (fun A1 H1=>Gr H H1∧H.nx<H1.nx∧H1.get H.nx=some (.arr [.i .i64 c.face,.i .i64 c.col,.i .i64 c.line,.i .i64 c.kind,p,q,.o (.str c.good),w] 69 0 0)∧slot A1.tm 0=.one (b)∧slot A1.tm 3=.one ((.o (.ptr H.nx 0 0 8)))∧A1.nt=30∧A1.dfr=[])
  ⟨(Fr.refl _).new _,Nat.lt_succ_self _,an rfl,zL⟩ ?_
 clear h0 h1 tm hK K lp lq lw lb
 rintro A1 H1 ⟨g1,m1,rx,t0,t3,hnt,hdf⟩
 obtain ⟨N,hN⟩:∃ N,N=H.nx:=⟨_,rfl⟩
 rw[←hN] at m1 rx t3
 clear hN
 have hb:=hb.gr g1
 have hp:=hp.gr g1
 have hq:=hq.gr g1
 have hw:=hw.gr g1
 replace hr0:Hd _:=hr0
 refine zG (qA tyF BG) fun K hK=>?_
 refine WE.con (wi H1 c.face c.col c.line c.kind c.num c.good c.ws p q w hp hq hw) fun w2 H2 g2 hq2=>?_
 subst hq2
 have ec:fF ⟨c.face,c.col,c.line,c.kind,c.num,c.good,c.ws⟩=fF c:=rfl
 rw[ec]
 clear ec
 have rx:=(g2.get _ m1 not_false).trans rx
 have m1:=Nat.lt_of_lt_of_le m1 g2.nx
 have hb:=hb.gr g2
 have hp:=hp.gr g2
 have hq:=hq.gr g2
 have hw:=hw.gr g2
 have g2:=g1.gr g2
 clear g1
 cases e1:fF c with
 | false=>
  have hn:41=r0:=by rw[←hr0.out];exact (if_pos e1).symm
  replace hn:Hd _:=hn
  clear hr0
  refine zK tyF ?_
  exact fin (41) _ _ qp qe (g2) (hn.out)
 | true=>
 have hr:=hr0.out
 unfold fj at hr
 rw[if_neg (by rw[e1];decide)] at hr
 replace hr:Hd _:=hr
 replace e1:Hd _:=e1
 clear hr0
 have lw:=hw.lt
 refine zK tyF ?_
 refine zG (qA tyF wb) fun K hK=>?_
 refine WE.con (vk H2 w c.ws hw hL) fun w3 H3 g3 hq3=>?_
 subst hq3
 have rx:=(g3.get _ m1 not_false).trans rx
 have m1:=Nat.lt_of_lt_of_le m1 g3.nx
 have hb:=hb.gr g3
 have hp:=hp.gr g3
 have hq:=hq.gr g3
 have hw:=hw.gr g3
 have g3:=g2.gr g3
 clear g2 lw
 rcases vV c.ws with ew|ew
 case inr=>
  have hn:42=r0:=by rw[←hr.out];exact (if_pos (by rw[ew];decide)).symm
  rw[ew]
  replace hn:Hd _:=hn
  clear hr ew
  refine zK tyF ?_
  exact fin (42) _ _ qp qe (g3) (hn.out)
 replace hr:=hr.out
 rw[if_neg (by rw[ew];decide)] at hr
 rw[ew]
 clear ew
 replace hr:Hd _:=hr
 have lb:=hb.len
 have lb2:=hb.lt
 refine zK tyF ?_
 by_cases q0:0<bf.length
 ·obtain ⟨id,g,off,cells,rfl,hid,hgr,hat⟩:=hb.open q0
  have hi1:bf.length - 1<bf.length:=by omega
  have ey:bf[bf.length - 1]?=some bf[bf.length - 1]:=List.getElem?_eq_getElem hi1
  obtain ⟨p',q',w',hy⟩:=hat (bf.length - 1) _ ey
  have hl:bf.getLast?=some bf[bf.length - 1]:=by rw[List.getLast?_eq_getElem?];exact ey
  generalize bf[bf.length - 1]=y at ey hy hl
  have hr2:=hr.out
  rw[hl] at hr2
  have hp':=hy.of1
  have hq':=hy.of2
  have hw':=hy.of3
  have y1:=hy.all
  have y2:=hy.le
  have hw1:IntKind.i64.wrap ((bf.length:Int) - 1)=((bf.length - 1:Nat):Int):=by rw[aX (by omega) (by omega)];omega
  have e0:(0:Int)<(bf.length:Int):=by omega
  clear hy hat ey hl hr
  have hr2:(if (!kH y c)=true then (43:Int) else 0)=r0:=hr2
  replace hr2:Hd _:=hr2
  skip
  refine zG (qA tyF (qA (ixC hi1) RD)) fun K hK=>?_
  refine WE.con (MJ H3 c y p q w p' q' w' hp.lt hq.lt hw.lt hp'.lt hq'.lt hw'.lt) fun w4 H4 g4 hq4=>?_
  subst hq4
  cases eb:kH y c with
  | false=>
   have hn:43=r0:=by rw[←hr2.out,eb];rfl
   replace hn:Hd _:=hn
   clear hr2
   refine zK tyF ?_
   exact fin (43) _ _ qp qe (g3.gr g4) (hn.out)
  | true=>
   have hn:0=r0:=by rw[←hr2.out,eb];rfl
   replace hn:Hd _:=hn
   clear hr2
   refine zK tyF ?_
   exact fin (0) _ _ qp qe (g3.gr g4) (hn.out)
 ·have hz:bf=[]:=List.eq_nil_of_length_eq_zero (by omega)
  subst hz
  have hn:0=r0:=by rw[←hr.out];rfl
  replace hn:Hd _:=hn
  clear hr
  skip
  refine zW tyF ?_
  exact fin (0) _ _ qp qe (g3) (hn.out)
theorem Nn (H:Hp) (b:AC) (bf:List Cs) (c:Cs) (p q w:AC) (hb:bX H b bf) (hp:aD H p c.num.1) (hq:aD H q c.num.2) (hw:SlP H w c.ws) (hL:c.ws.length≤4611686018427387904) (hBF:bf.length≤4611686018427387904):
  Con E2 82 [.one b,.agg [.i .i64 c.face,.i .i64 c.col,.i .i64 c.line,.i .i64 c.kind,p,q,.o (.str c.good),w]] H (fun _=>False) fun r _=>r=.one (.i .i64 (fj bf c)):=by
 refine Con.of rfl fun lg=>?_
 have hb:bX ⟨H.t,H.nx,lg⟩ b bf:=hb
 have hp:aD ⟨H.t,H.nx,lg⟩ p c.num.1:=hp
 have hq:aD ⟨H.t,H.nx,lg⟩ q c.num.2:=hq
 have hw:SlP ⟨H.t,H.nx,lg⟩ w c.ws:=hw
 generalize (⟨H.t,H.nx,lg⟩:Hp)=H at hb hp hq hw ⊢
 refine C1.body (E:=E2) (nt:=26) (res:=[.tmp 4]) Tryz.func82 rfl rfl rfl rfl rfl fun tm hargs=>?_
 have h0:=hargs 0 _ rfl
 have h1:=hargs 1 _ rfl
 clear hargs
 have fin:∀ (e:Int) (A:ab) (H3:Hp),slot A.tm 4=.one (.i .i64 e)→A.dfr=[]→Gr H H3→e=fj bf c→∃ w H4,ao E2 [.tmp 4] (.ret,A,H3)=.ok [(w,H4)]∧Gr H H4∧∀ _:List Nat,w=.one (.i .i64 (fj bf c)):=fun e A H3 h1 h2 h3 h4=>⟨_,H3,ak (.i .i64 e) (.inr rfl) h2 h1,h3,fun _=>by rw[h4]⟩
 generalize hr0:fj bf c=r0 at fin
 have lb:=hb.lt
 have lp:=hp.lt
 have lq:=hq.lt
 have lw:=hw.lt
 refine zG tyF fun K hK=>?_
 refine hK.out _ _ ?_
 refine R1.gen (fun A1 H1=>Gr H H1∧H.nx<H1.nx∧H1.get H.nx=some (.arr [.i .i64 c.face,.i .i64 c.col,.i .i64 c.line,.i .i64 c.kind,p,q,.o (.str c.good),w] 69 0 0)∧slot A1.tm 0=.one (b)∧slot A1.tm 3=.one ((.o (.ptr H.nx 0 0 8)))∧A1.nt=26∧A1.dfr=[])
  ⟨(Fr.refl _).new _,Nat.lt_succ_self _,an rfl,zL⟩ ?_
 clear h0 h1 tm hK K lp lq lw lb
 rintro A1 H1 ⟨g1,m1,rx,t0,t3,hnt,hdf⟩
 obtain ⟨N,hN⟩:∃ N,N=H.nx:=⟨_,rfl⟩
 rw[←hN] at m1 rx t3
 clear hN
 have hb:=hb.gr g1
 have hp:=hp.gr g1
 have hq:=hq.gr g1
 have hw:=hw.gr g1
 replace hr0:Hd _:=hr0
 refine zG (qA tyF Oe) fun K hK=>?_
 refine WE.con (NG H1 c.face c.col c.line c.kind c.num c.good c.ws p q w hp hq hw) fun w2 H2 g2 hq2=>?_
 subst hq2
 have ec:fF ⟨c.face,c.col,c.line,c.kind,c.num,c.good,c.ws⟩=fF c:=rfl
 rw[ec]
 clear ec
 have rx:=(g2.get _ m1 not_false).trans rx
 have m1:=Nat.lt_of_lt_of_le m1 g2.nx
 have hb:=hb.gr g2
 have hp:=hp.gr g2
 have hq:=hq.gr g2
 have hw:=hw.gr g2
 have g2:=g1.gr g2
 clear g1
 cases e1:fF c with
 | false=>
  have hn:41=r0:=by rw[←hr0.out];exact (if_pos e1).symm
  replace hn:Hd _:=hn
  clear hr0
  refine zK tyF ?_
  exact fin (41) _ _ qp qe (g2) (hn.out)
 | true=>
 have hr:=hr0.out
 unfold fj at hr
 rw[if_neg (by rw[e1];decide)] at hr
 replace hr:Hd _:=hr
 replace e1:Hd _:=e1
 clear hr0
 have lw:=hw.lt
 refine zK tyF ?_
 refine zG (qA tyF uA) fun K hK=>?_
 refine WE.con (sL H2 w c.ws hw hL) fun w3 H3 g3 hq3=>?_
 subst hq3
 have rx:=(g3.get _ m1 not_false).trans rx
 have m1:=Nat.lt_of_lt_of_le m1 g3.nx
 have hb:=hb.gr g3
 have hp:=hp.gr g3
 have hq:=hq.gr g3
 have hw:=hw.gr g3
 have g3:=g2.gr g3
 clear g2 lw
 rcases vV c.ws with ew|ew
 case inr=>
  have hn:42=r0:=by rw[←hr.out];exact (if_pos (by rw[ew];decide)).symm
  rw[ew]
  replace hn:Hd _:=hn
  clear hr ew
  refine zK tyF ?_
  exact fin (42) _ _ qp qe (g3) (hn.out)
 replace hr:=hr.out
 rw[if_neg (by rw[ew];decide)] at hr
 rw[ew]
 clear ew
 replace hr:Hd _:=hr
 have lb:=hb.len
 have lb2:=hb.lt
 refine zK tyF ?_
 by_cases q0:0<bf.length
 ·obtain ⟨id,g,off,cells,rfl,hid,hgr,hat⟩:=hb.open q0
  have hi1:bf.length - 1<bf.length:=by omega
  have ey:bf[bf.length - 1]?=some bf[bf.length - 1]:=List.getElem?_eq_getElem hi1
  obtain ⟨p',q',w',hy⟩:=hat (bf.length - 1) _ ey
  have hl:bf.getLast?=some bf[bf.length - 1]:=by rw[List.getLast?_eq_getElem?];exact ey
  generalize bf[bf.length - 1]=y at ey hy hl
  have hr2:=hr.out
  rw[hl] at hr2
  have hp':=hy.of1
  have hq':=hy.of2
  have hw':=hy.of3
  have y1:=hy.all
  have y2:=hy.le
  have hw1:IntKind.i64.wrap ((bf.length:Int) - 1)=((bf.length - 1:Nat):Int):=by rw[aX (by omega) (by omega)];omega
  have e0:(0:Int)<(bf.length:Int):=by omega
  clear hy hat ey hl hr
  have hr2:(if (!kH y c)=true then (43:Int) else 0)=r0:=hr2
  replace hr2:Hd _:=hr2
  skip
  refine zG (qA tyF (qA (ixC hi1) Ia)) fun K hK=>?_
  refine WE.con (EJ H3 y c p' q' w' p q w hp'.lt hq'.lt hw'.lt hp.lt hq.lt hw.lt) fun w4 H4 g4 hq4=>?_
  subst hq4
  cases eb:kH y c with
  | false=>
   have hn:43=r0:=by rw[←hr2.out,eb];rfl
   replace hn:Hd _:=hn
   clear hr2
   refine zK tyF ?_
   exact fin (43) _ _ qp qe (g3.gr g4) (hn.out)
  | true=>
   have hn:0=r0:=by rw[←hr2.out,eb];rfl
   replace hn:Hd _:=hn
   clear hr2
   refine zK tyF ?_
   exact fin (0) _ _ qp qe (g3.gr g4) (hn.out)
 ·have hz:bf=[]:=List.eq_nil_of_length_eq_zero (by omega)
  subst hz
  have hn:0=r0:=by rw[←hr.out];rfl
  replace hn:Hd _:=hn
  clear hr
  skip
  refine zW tyF ?_
  exact fin (0) _ _ qp qe (g3) (hn.out)
theorem sB (H:Hp) (n:List UInt8) (b:AC) (l:List Cs) (hb:bX H b l) (hB:TbB l):Con E2 52 [.agg [.o (.str n),b]] H (fun _=>False) fun r _=>r=.one (.i .i64 (ir (n,l))):=by
 refine Con.of rfl fun lg=>?_
 have hb:bX ⟨H.t,H.nx,lg⟩ b l:=hb
 generalize (⟨H.t,H.nx,lg⟩:Hp)=H at hb ⊢
 refine C1.body (E:=E2) (nt:=32) (res:=[.tmp 2]) Tryz.func52 rfl rfl rfl rfl rfl fun tm hargs=>?_
 have h0:=hargs 0 _ rfl
 clear hargs
 have fin:∀ (e:Int) (A:ab) (H3:Hp),slot A.tm 2=.one (.i .i64 e)→A.dfr=[]→Gr H H3→e=ir (n,l)→∃ w H4,ao E2 [.tmp 2] (.ret,A,H3)=.ok [(w,H4)]∧Gr H H4∧∀ _:List Nat,w=.one (.i .i64 (ir (n,l))):=fun e A H3 h1 h2 h3 h4=>⟨_,H3,ak (.i .i64 e) (.inr rfl) h2 h1,h3,fun _=>by rw[h4]⟩
 generalize hr0:ir (n,l)=r0 at fin
 have hl:l.length*120≤140737488355328:=hB.c
 have lb:=hb.lt
 refine zG tyF fun K hK=>?_
 refine hK.out _ _ ?_
 refine R1.gen (fun A1 H1=>Gr H H1∧H.nx<H1.nx∧H1.get H.nx=some (.arr [.o (.str n),b] 26 0 0)∧slot A1.tm 1=.one ((.o (.ptr H.nx 0 0 2)))∧A1.nt=32∧A1.dfr=[])
  ⟨(Fr.refl _).new _,Nat.lt_succ_self _,an rfl,zL⟩ ?_
 clear h0 tm hK K lb
 rintro A1 H1 ⟨g1,m1,rx,t1,hnt,hdf⟩
 obtain ⟨N,hN⟩:∃ N,N=H.nx:=⟨_,rfl⟩
 rw[←hN] at m1 rx t1
 clear hN
 have hb:=hb.gr g1
 replace hr0:Hd _:=hr0
 refine zG (qA tyF fk) fun K hK=>?_
 refine WE.con (oz (X:=fun _=>False) n _) fun w2 H2 g2 hq2=>?_
 subst hq2
 have rx:=(g2.get _ m1 not_false).trans rx
 have m1:=Nat.lt_of_lt_of_le m1 g2.nx
 have hb:=hb.gr g2
 have g2:=g1.gr g2
 clear g1
 cases e1:nmB n with
 | false=>
  have hn:40=r0:=by rw[←hr0.out];exact (if_pos e1).symm
  replace hn:Hd _:=hn
  clear hr0
  refine zK tyF ?_
  exact fin (40) _ _ qp qe (g2) (hn.out)
 | true=>
 have hr:=hr0.out
 unfold ir at hr
 rw[if_neg (by show ¬nmB n=false;rw[e1];decide)] at hr
 clear hr0
 have l1:=hb.len
 have l2:=hb.lt
 by_cases q1:(256:Int)<l.length
 ·have hn:3=r0:=by rw[←hr];exact (if_pos q1).symm
  replace hn:Hd _:=hn
  clear hr
  refine zK tyF ?_
  exact fin (3) _ _ qp qe (g2) (hn.out)
 have hn:Hd (goT [] l=r0):=by rw[←hr];exact (if_neg q1).symm
 clear hr
 replace e1:Hd _:=e1
 refine zK tyF ?_
 refine R1.cq fun K k1 k2 k3 k4=>?_
 refine R1.loop (fun z A H3=>∃ i:Nat,z=l.length - i∧i≤l.length∧Gr H2 H3∧Hd (goT (l.take i) (l.drop i)=r0)∧slot A.tm 1=.one ((.o (.ptr N 0 0 2)))∧slot A.tm 15=.one (b)∧slot A.tm 16=.one (.i .i64 (l.length:Int))∧slot A.tm 17=.one (.i .i64 (i:Int))∧A.nt=32∧A.dfr=[]) ?_ l.length
  ⟨0,rfl,Nat.zero_le _,Fr.refl _,hn,zL⟩
 clear t1 hn hnt hdf A1 l1 l2 k3
 rintro z A H3 ⟨i,rfl,hi,g3,hr,t1,t15,t16,t17,hnt,hdf⟩
 have hb3:=hb.gr g3
 have rx:=(g3.get _ m1 not_false).trans rx
 have m1:=Nat.lt_of_lt_of_le m1 g3.nx
 have l1:=hb3.len
 have l2:=hb3.lt
 refine zW tyF ?_
 refine zI tyF (fun hc=>?_) (fun hc=>?_)
 ·have hlt:i<l.length:=by omega
  have ex:l[i]?=some l[i]:=List.getElem?_eq_getElem hlt
  have hdr:l.drop i=l[i]::l.drop (i+1):=List.drop_eq_getElem_cons hlt
  have htk:l.take (i+1)=l.take i++[l[i]]:=List.take_succ_eq_append_getElem hlt
  have hmem:l[i]∈l:=List.getElem_mem hlt
  generalize l[i]=x at ex hdr htk hmem
  have hw2:IntKind.i64.wrap ((i:Int)+1)=((i+1:Nat):Int):=by rw[aX (by omega) (by omega)];omega
  obtain ⟨id,g,off,cells,rfl,hid,hgr,hat⟩:=hb3.open (by omega)
  obtain ⟨p,q,w,hx⟩:=hat i x ex
  have y1:=hx.all
  have y2:=hx.le
  have hp:=hx.of1
  have hq:=hx.of2
  have hw:=hx.of3
  have lp:=hp.lt
  have lq:=hq.lt
  have lw:=hw.lt
  have hwl:=hB.w x hmem
  have hr1:=hr.out
  rw[hdr,goT,←htk] at hr1
  replace hr1:Hd _:=hr1
  replace ex:Hd _:=ex
  clear hx hat hmem hdr hr htk l1
  refine zW tyF ?_
  refine R1.cq fun K2 p1 p2 p3 p4=>?_
  refine zG (qA tyF (ixC hlt)) fun K3 hK3=>?_
  refine hK3.out _ _ ?_
  refine R1.gen (fun A4 H4=>Gr H3 H4∧H3.nx<H4.nx∧H4.get H3.nx=some (.arr [.i .i64 x.face,.i .i64 x.col,.i .i64 x.line,.i .i64 x.kind,p,q,.o (.str x.good),w] 69 0 0)∧slot A4.tm 1=.one ((.o (.ptr N 0 0 2)))∧slot A4.tm 3=.one (.i .i64 (i:Int))∧slot A4.tm 4=.one ((.o (.ptr H3.nx 0 0 8)))∧slot A4.tm 15=.one ((.o (.sl id g off l.length 8)))∧slot A4.tm 16=.one (.i .i64 (l.length:Int))∧slot A4.tm 17=.one (.i .i64 (i:Int))∧A4.nt=32∧A4.dfr=[])
   ⟨((Fr.refl _).new _).mod _ (.inl (Nat.le_refl _)),Nat.lt_succ_self _,ai rfl,zL⟩ ?_
  clear t1 t15 t16 t17 hnt hdf A y1 y2 hK3 K3
  rintro A H4 ⟨g34,mM,rM,t1,t3,t4,t15,t16,t17,hnt,hdf⟩
  obtain ⟨M,hM⟩:∃ M,M=H3.nx:=⟨_,rfl⟩
  rw[←hM] at mM rM t4
  clear hM
  have rx:=(g34.get _ m1 not_false).trans rx
  have m1:=Nat.lt_of_lt_of_le m1 g34.nx
  have y1:True:=trivial
  have y2:True:=trivial
  have lp:=lN lp g34.nx
  have lq:=lN lq g34.nx
  have lw:=lN lw g34.nx
  have l2:=lN l2 g34.nx
  have hpre:bX H4 (.o (.sl id g off i 8)) (l.take i):=SlR.take (hb.gr (g3.gr g34)) (by omega)
  refine zG (qA tyF (qA (ixC hlt) (qA (slH (show i≤l.length by omega)) BC))) fun K3 hK3=>?_
  refine WE.con (wj H4 _ (l.take i) x p q w hpre (hp.gr g34) (hq.gr g34) (hw.gr g34) (by omega) (by rw[List.length_take];omega)) fun w5 H5 g5 hq5=>?_
  subst hq5
  have g35:=g34.gr g5
  clear g34 hpre hp hq hw lp lq lw y1 y2 hgr hid
  by_cases en:fj (l.take i) x=0
  ·have hr2:=hr1.out
   rw[if_neg (fun h=>h en)] at hr2
   rw[en]
   replace hr2:Hd _:=hr2
   clear hr1 en
   refine zK tyF ?_
   refine p1.out _ _ ?_
   refine zW tyF ?_
   exact ⟨l.length - (i+1),by omega,i+1,rfl,hlt,g3.gr g35,hr2,zL⟩
  ·have hn:fj (l.take i) x=r0:=by rw[←hr1.out];exact (if_pos en).symm
   have e2:(fj (l.take i) x==0)=false:=beq_false_of_ne en
   generalize fj (l.take i) x=e0 at hn e2
   replace hn:Hd _:=hn
   clear hr1 en
   refine zK tyF ?_
   exact p4.out _ _ (k4.out _ _ (fin (e0) _ _ qp qe (g2.gr (g3.gr g35)) (hn.out)))
 ·have he:i=l.length:=by omega
  subst he
  have hn:=hr.out
  rw[List.drop_length,goT] at hn
  replace hn:Hd _:=hn
  clear hr
  refine zW tyF ?_
  refine k2.out _ _ ?_
  refine zW tyF ?_
  exact fin (0) _ _ qp qe (g2.gr g3) (hn.out)
theorem Av (H:Hp) (n:List UInt8) (b:AC) (l:List Cs) (hb:bX H b l) (hB:TbB l):Con E2 33 [.agg [.o (.str n),b]] H (fun _=>False) fun r _=>r=.one (.i .i64 (ir (n,l))):=by
 refine Con.of rfl fun lg=>?_
 have hb:bX ⟨H.t,H.nx,lg⟩ b l:=hb
 generalize (⟨H.t,H.nx,lg⟩:Hp)=H at hb ⊢
 refine C1.body (E:=E2) (nt:=33) (res:=[.tmp 2]) Tryz.func33 rfl rfl rfl rfl rfl fun tm hargs=>?_
 have h0:=hargs 0 _ rfl
 clear hargs
 have fin:∀ (e:Int) (A:ab) (H3:Hp),slot A.tm 2=.one (.i .i64 e)→A.dfr=[]→Gr H H3→e=ir (n,l)→∃ w H4,ao E2 [.tmp 2] (.ret,A,H3)=.ok [(w,H4)]∧Gr H H4∧∀ _:List Nat,w=.one (.i .i64 (ir (n,l))):=fun e A H3 h1 h2 h3 h4=>⟨_,H3,ak (.i .i64 e) (.inr rfl) h2 h1,h3,fun _=>by rw[h4]⟩
 generalize hr0:ir (n,l)=r0 at fin
 have hl:l.length*120≤140737488355328:=hB.c
 have lb:=hb.lt
 refine zG tyF fun K hK=>?_
 refine hK.out _ _ ?_
 refine R1.gen (fun A1 H1=>Gr H H1∧H.nx<H1.nx∧H1.get H.nx=some (.arr [.o (.str n),b] 26 0 0)∧slot A1.tm 1=.one ((.o (.ptr H.nx 0 0 2)))∧A1.nt=33∧A1.dfr=[])
  ⟨(Fr.refl _).new _,Nat.lt_succ_self _,an rfl,zL⟩ ?_
 clear h0 tm hK K lb
 rintro A1 H1 ⟨g1,m1,rx,t1,hnt,hdf⟩
 obtain ⟨N,hN⟩:∃ N,N=H.nx:=⟨_,rfl⟩
 rw[←hN] at m1 rx t1
 clear hN
 have hb:=hb.gr g1
 replace hr0:Hd _:=hr0
 refine zG (qA tyF iC) fun K hK=>?_
 refine WE.con (dE _ n) fun w2 H2 g2 hq2=>?_
 subst hq2
 have rx:=(g2.get _ m1 not_false).trans rx
 have m1:=Nat.lt_of_lt_of_le m1 g2.nx
 have hb:=hb.gr g2
 have g2:=g1.gr g2
 clear g1
 cases e1:nmB n with
 | false=>
  have hn:40=r0:=by rw[←hr0.out];exact (if_pos e1).symm
  replace hn:Hd _:=hn
  clear hr0
  refine zK tyF ?_
  exact fin (40) _ _ qp qe (g2) (hn.out)
 | true=>
 have hr:=hr0.out
 unfold ir at hr
 rw[if_neg (by show ¬nmB n=false;rw[e1];decide)] at hr
 clear hr0
 have l1:=hb.len
 have l2:=hb.lt
 by_cases q1:(256:Int)<l.length
 ·have hn:3=r0:=by rw[←hr];exact (if_pos q1).symm
  replace hn:Hd _:=hn
  clear hr
  refine zK tyF ?_
  exact fin (3) _ _ qp qe (g2) (hn.out)
 have hn:Hd (goT [] l=r0):=by rw[←hr];exact (if_neg q1).symm
 clear hr
 replace e1:Hd _:=e1
 refine zK tyF ?_
 refine R1.cq fun K k1 k2 k3 k4=>?_
 refine R1.loop (fun z A H3=>∃ i:Nat,z=l.length - i∧i≤l.length∧Gr H2 H3∧Hd (goT (l.take i) (l.drop i)=r0)∧slot A.tm 1=.one ((.o (.ptr N 0 0 2)))∧slot A.tm 3=.one (.i .i64 (i:Int))∧A.nt=33∧A.dfr=[]) ?_ l.length
  ⟨0,rfl,Nat.zero_le _,Fr.refl _,hn,zL⟩
 clear t1 hn hnt hdf A1 l1 l2 k3
 rintro z A H3 ⟨i,rfl,hi,g3,hr,t1,t3,hnt,hdf⟩
 have hb3:=hb.gr g3
 have rx:=(g3.get _ m1 not_false).trans rx
 have m1:=Nat.lt_of_lt_of_le m1 g3.nx
 have l1:=hb3.len
 have l2:=hb3.lt
 refine zW tyF ?_
 refine zI tyF (fun hc=>?_) (fun hc=>?_)
 ·have hlt:i<l.length:=by omega
  have ex:l[i]?=some l[i]:=List.getElem?_eq_getElem hlt
  have hdr:l.drop i=l[i]::l.drop (i+1):=List.drop_eq_getElem_cons hlt
  have htk:l.take (i+1)=l.take i++[l[i]]:=List.take_succ_eq_append_getElem hlt
  have hmem:l[i]∈l:=List.getElem_mem hlt
  generalize l[i]=x at ex hdr htk hmem
  have hw2:IntKind.i64.wrap ((i:Int)+1)=((i+1:Nat):Int):=by rw[aX (by omega) (by omega)];omega
  obtain ⟨id,g,off,cells,rfl,hid,hgr,hat⟩:=hb3.open (by omega)
  obtain ⟨p,q,w,hx⟩:=hat i x ex
  have y1:=hx.all
  have y2:=hx.le
  have hp:=hx.of1
  have hq:=hx.of2
  have hw:=hx.of3
  have lp:=hp.lt
  have lq:=hq.lt
  have lw:=hw.lt
  have hwl:=hB.w x hmem
  have hr1:=hr.out
  rw[hdr,goT,←htk] at hr1
  replace hr1:Hd _:=hr1
  replace ex:Hd _:=ex
  clear hx hat hmem hdr hr htk l1
  refine zW tyF ?_
  refine R1.cq fun K2 p1 p2 p3 p4=>?_
  obtain ⟨H4,hH4⟩:∃ H4,H4=H3:=⟨_,rfl⟩
  have g34:Gr H3 H4:=by rw[hH4];exact Fr.refl _
  rw[←hH4]
  have hgr4:rowOf (H4.get id) g=some cells:=by rw[hH4];exact hgr
  have hid4:id<H4.nx:=by rw[hH4];exact hid
  have rx:=(g34.get _ m1 not_false).trans rx
  have m1:=Nat.lt_of_lt_of_le m1 g34.nx
  have lp:=lN lp g34.nx
  have lq:=lN lq g34.nx
  have lw:=lN lw g34.nx
  have l2:=lN l2 g34.nx
  clear hH4
  have hpre:bX H4 (.o (.sl id g off i 8)) (l.take i):=SlR.take (hb.gr (g3.gr g34)) (by omega)
  refine zG (qA tyF (qA (ixC hlt) (qA (slH (show i≤l.length by omega)) Pw))) fun K3 hK3=>?_
  refine WE.con (Nn H4 _ (l.take i) x p q w hpre (hp.gr g34) (hq.gr g34) (hw.gr g34) (by omega) (by rw[List.length_take];omega)) fun w5 H5 g5 hq5=>?_
  subst hq5
  have g35:=g34.gr g5
  clear g34 hpre hp hq hw lp lq lw y1 y2 hgr hid
  by_cases en:fj (l.take i) x=0
  ·have hr2:=hr1.out
   rw[if_neg (fun h=>h en)] at hr2
   rw[en]
   replace hr2:Hd _:=hr2
   clear hr1 en
   refine zK tyF ?_
   refine p1.out _ _ ?_
   refine zW tyF ?_
   exact ⟨l.length - (i+1),by omega,i+1,rfl,hlt,g3.gr g35,hr2,zL⟩
  ·have hn:fj (l.take i) x=r0:=by rw[←hr1.out];exact (if_pos en).symm
   have e2:(fj (l.take i) x==0)=false:=beq_false_of_ne en
   generalize fj (l.take i) x=e0 at hn e2
   replace hn:Hd _:=hn
   clear hr1 en
   refine zK tyF ?_
   exact p4.out _ _ (k4.out _ _ (fin (e0) _ _ qp qe (g2.gr (g3.gr g35)) (hn.out)))
 ·have he:i=l.length:=by omega
  subst he
  have hn:=hr.out
  rw[List.drop_length,goT] at hn
  replace hn:Hd _:=hn
  clear hr
  refine zW tyF ?_
  refine k2.out _ _ ?_
  refine zW tyF ?_
  exact fin (0) _ _ qp qe (g2.gr g3) (hn.out)
end Go.Proofs.YtnhbkodnmkojpaaGreat
namespace Go.Proofs.YtnhbkodnmkojpaaGreat
open Go Go.Eng
theorem kF:al Tryz.prog 140=true:=by kernel_rfl
theorem Ib:al Tryz.prog 166=true:=by kernel_rfl
theorem FE:Tryz.prog.underlying 64=some (.slice 181):=by kernel_rfl
theorem wQ:Tryz.prog.underlying 67=some (.slice 185):=by kernel_rfl
theorem TX:∀ z:List AC,jt z 0=[]:=fun z=>rfl
theorem Ug:type_of% (Jb sY FE):=Jb sY FE
theorem TZ:type_of% (Jb qf wQ):=Jb qf wQ
theorem vC {H:Hp} {v:AC} {e:TypeId} {sz n:Nat} {cells:List AC} {r:Option Nat} (h:dO H v e sz n cells r):∀ i∈(AV.one v).ids,r=some i:=by
 rcases h with ⟨rfl,_⟩|⟨id,lo,gen,h1,rfl,_⟩
 ·intro i hi;cases hi
 ·intro i hi
  rw[List.mem_singleton.1 hi];exact h1
theorem jk (H:Hp) (v:AC) (l:List Gp) (hv:aD H v l) (hL:l.length*32≤140737488355328):
  Con E2 140 [.one v] H (fun _=>False) fun r H'=>∃ v',r=.one v'∧aD H' v' l∧∀ i∈(AV.one v').ids,H.nx≤i:=by
 refine Con.of rfl fun lg=>?_
 have hv:aD ⟨H.t,H.nx,lg⟩ v l:=hv
 have e0:H.nx=(⟨H.t,H.nx,lg⟩:Hp).nx:=rfl
 rw[e0]
 clear e0
 generalize (⟨H.t,H.nx,lg⟩:Hp)=H at hv ⊢
 refine C1.body (E:=E2) (nt:=8) (res:=[.tmp 2]) Tryz.func140 rfl rfl rfl rfl rfl fun tm hargs=>?_
 have h0:=hargs 0 _ rfl
 clear hargs
 obtain ⟨z,hz,hzl⟩:=Bh
 have hv':SlC H v 3 l.length (l.flatMap gpC):=hv
 have hlt:=hv.lt
 rcases id hv' with ⟨hc,⟨rfl,hn0⟩|⟨id,g,off,rfl,hid,hr⟩⟩
 ·have hl:l=[]:=List.eq_nil_of_length_eq_zero hn0
  subst hl
  clear hz hzl z hv' hc hn0 hv
  refine zW (qA tyF Ug) ?_
  exact ⟨_,_,ak (.o .nilS) (.inr rfl) qe qp,Fr.refl _,fun _=>⟨_,rfl,aD.nil,fun i h=>by cases h⟩⟩
 ·obtain ⟨v',H',happ,ho,hf⟩:=wM (P:=Tryz.prog) (H:=H.new (.arr [] 181 0 0)) (t:=64) (id:=H.nx) cd tx hz hzl (by decide) (an rfl) (Nat.lt_succ_self _) (hv'.gr ((Fr.refl _).new _)) (by omega)
  have hg:Gr H H':=((Fr.refl _).new _).then hf fun i h=>.inl (by omega)
  have hlt2:=ho.lt
  clear hz hzl z hc
  replace hv:Hd _:=hv
  replace hv':Hd _:=hv'
  replace hr:Hd _:=hr
  replace hf:Hd _:=hf
  refine zW (qA tyF (qA Ug TX)) ?_
  exact ⟨_,_,ak v' (.inr rfl) qe qp,hg,fun _=>⟨v',rfl,ho.slc,fun i h=>by have:=vC ho i h;cases this;exact Nat.le_refl _⟩⟩
theorem GC (H:Hp) (v:AC) (l:List Pr) (hv:SlP H v l) (hL:l.length*24≤140737488355328):
  Con E2 166 [.one v] H (fun _=>False) fun r H'=>∃ v',r=.one v'∧SlP H' v' l∧∀ i∈(AV.one v').ids,H.nx≤i:=by
 refine Con.of rfl fun lg=>?_
 have hv:SlP ⟨H.t,H.nx,lg⟩ v l:=hv
 have e0:H.nx=(⟨H.t,H.nx,lg⟩:Hp).nx:=rfl
 rw[e0]
 clear e0
 generalize (⟨H.t,H.nx,lg⟩:Hp)=H at hv ⊢
 refine C1.body (E:=E2) (nt:=8) (res:=[.tmp 2]) Tryz.func166 rfl rfl rfl rfl rfl fun tm hargs=>?_
 have h0:=hargs 0 _ rfl
 clear hargs
 obtain ⟨z,hz,hzl⟩:=JS
 have hv':SlC H v 2 l.length (l.flatMap prC):=hv
 have hlt:=hv.lt
 rcases id hv' with ⟨hc,⟨rfl,hn0⟩|⟨id,g,off,rfl,hid,hr⟩⟩
 ·have hl:l=[]:=List.eq_nil_of_length_eq_zero hn0
  subst hl
  clear hz hzl z hv' hc hn0 hv
  refine zW (qA tyF TZ) ?_
  exact ⟨_,_,ak (.o .nilS) (.inr rfl) qe qp,Fr.refl _,fun _=>⟨_,rfl,SlP.nil,fun i h=>by cases h⟩⟩
 ·obtain ⟨v',H',happ,ho,hf⟩:=wM (P:=Tryz.prog) (H:=H.new (.arr [] 185 0 0)) (t:=67) (id:=H.nx) lS JU hz hzl (by decide) (an rfl) (Nat.lt_succ_self _) (hv'.gr ((Fr.refl _).new _)) (by omega)
  have hg:Gr H H':=((Fr.refl _).new _).then hf fun i h=>.inl (by omega)
  have hlt2:=ho.lt
  clear hz hzl z hc
  replace hv:Hd _:=hv
  replace hv':Hd _:=hv'
  replace hr:Hd _:=hr
  replace hf:Hd _:=hf
  refine zW (qA tyF (qA TZ TX)) ?_
  exact ⟨_,_,ak v' (.inr rfl) qe qp,hg,fun _=>⟨v',rfl,ho.slc,fun i h=>by have:=vC ho i h;cases this;exact Nat.le_refl _⟩⟩
theorem tu (H:Hp) (v:AC) (l:List Pr) (hv:SlP H v l) (hL:l.length*24≤140737488355328):
  Con E2 75 [.one v] H (fun _=>False) fun r H'=>∃ v',r=.one v'∧SlP H' v' l∧∀ i∈(AV.one v').ids,H.nx≤i:=by
 refine Con.of rfl fun lg=>?_
 have hv:SlP ⟨H.t,H.nx,lg⟩ v l:=hv
 have e0:H.nx=(⟨H.t,H.nx,lg⟩:Hp).nx:=rfl
 rw[e0]
 clear e0
 generalize (⟨H.t,H.nx,lg⟩:Hp)=H at hv ⊢
 refine C1.body (E:=E2) (nt:=7) (res:=[.tmp 2]) Tryz.func75 rfl rfl rfl rfl rfl fun tm hargs=>?_
 have h0:=hargs 0 _ rfl
 clear hargs
 obtain ⟨z,hz,hzl⟩:=JS
 have hv':SlC H v 2 l.length (l.flatMap prC):=hv
 obtain ⟨v',H',q,happ,hs,hg,hi⟩:=Sd (P:=Tryz.prog) (t:=67) lS JU hz hzl (by decide) hv' (by omega)
 have hlt:=hv.lt
 clear hz hzl z
 replace hv:Hd _:=hv
 replace hv':Hd _:=hv'
 refine zW tyF ?_
 exact ⟨_,_,ak v' (.inr rfl) qe qp,hg,fun _=>⟨v',rfl,hs.slc,fun i h=>hi i (vC hs i h)⟩⟩
theorem Bz (H:Hp) (p q:AC) (x:Nm) (hp:aD H p x.1) (hq:aD H q x.2) (hL:x.1.length*32≤140737488355328∧x.2.length*32≤140737488355328):
  Con E2 78 [.agg [p,q]] H (fun _=>False) fun r H'=>∃ p' q',r=.agg [p',q']∧aD H' p' x.1∧aD H' q' x.2∧(∀ id∈(AV.one p').ids,H.nx≤id)∧∀ id∈(AV.one q').ids,H.nx≤id:=by
 refine Con.of rfl fun lg=>?_
 have hp:aD ⟨H.t,H.nx,lg⟩ p x.1:=hp
 have hq:aD ⟨H.t,H.nx,lg⟩ q x.2:=hq
 have e0:H.nx=(⟨H.t,H.nx,lg⟩:Hp).nx:=rfl
 rw[e0]
 clear e0
 generalize (⟨H.t,H.nx,lg⟩:Hp)=H at hp hq ⊢
 refine C1.body (E:=E2) (nt:=10) (res:=[.cell 2 66]) Tryz.func78 rfl rfl rfl rfl rfl fun tm hargs=>?_
 have h0:=hargs 0 _ rfl
 clear hargs
 have lp:=hp.lt
 have lq:=hq.lt
 refine zG tyF fun K hK=>?_
 refine hK.out _ _ ?_
 refine R1.gen (fun A1 H1=>Gr H H1∧H.nx+1<H1.nx∧H1.get H.nx=some (.arr [p,q] 66 0 0)∧H1.get (H.nx+1)=some (.arr [.o .nilS,.o .nilS] 66 0 0)∧slot A1.tm 1=.one ((.o (.ptr H.nx 0 0 2)))∧slot A1.tm 2=.one ((.o (.ptr (H.nx+1) 0 0 2)))∧A1.nt=10∧A1.dfr=[])
  ⟨((Fr.refl _).new _).new _,by show H.nx+1<H.nx+1+1;omega,by rw[aN (by show H.nx<H.nx+1;omega)];exact an rfl,an rfl,zL⟩ ?_
 clear h0 tm hK K lp lq
 rintro A1 H1 ⟨g1,n1,r1,r2,t1,t2,hnt,hdf⟩
 obtain ⟨N,hN⟩:∃ N,N=H.nx:=⟨_,rfl⟩
 rw[←hN] at n1 r1 r2 t1 t2
 replace hN:Hd _:=hN
 have hp:=hp.gr g1
 have hq:=hq.gr g1
 have l1:N<H1.nx:=by omega
 have lp:=hp.lt
 have lq:=hq.lt
 repeat refine R1.aw ?_
 repeat refine R1.aw ?_
 (first|refine R1.kY (ms:=[0,1,3,0,8,31,63,127]) (by kernel_rfl) (by kernel_rfl) fun K hK=>?_|refine R1.e_drw (ms:=[0,1,3,0,8,31,63,127]) (by kernel_rfl) (by kernel_rfl) fun K hK=>?_)
 simp (config:={decide:=true}) only [qB,au,Nat.reduceLT,Nat.reduceLeDiff,Nat.reduceAdd,Nat.reduceSub,qD,bw,aM,ad,t1,hnt,r1,l1,bc,bT,bg,kF]
 refine ga (fun r H'=>∃ v',r=.one v'∧aD H' v' x.1∧∀ i∈(AV.one v').ids,H1.nx≤i) (fun v h1 h2 hg ⟨v',a,b,c⟩=>⟨v',a,b.gr hg,c⟩) ?_ (fun h hg hn=>by have:=jk h p x.1 (hp.gr hg) hL.1;rw[hn] at this;exact this) ?_
 ·exact unU (by simp (config:={decide:=true}) only [aM,if_true])
 rintro w kx H2 ⟨p',rfl,hp',ip⟩ hkx hn2 g2
 subst hn2
 have r1:H2.get N=some (.arr [p,q] 66 0 0):=by rw[g2.get _ l1 not_false];exact r1
 have r2:H2.get (N+1)=some (.arr [.o .nilS,.o .nilS] 66 0 0):=by rw[g2.get _ n1 not_false];exact r2
 have n2:N+1<H2.nx:=Nat.lt_of_lt_of_le n1 g2.nx
 have l2:N<H2.nx:=by omega
 simp (config:={decide:=true}) only [qB,Nat.reduceLT,Nat.reduceAdd,qD,bw,aM,t1,hnt,r1,l1,l2]
 refine ga (fun r H'=>∃ v',r=.one v'∧aD H' v' x.2∧∀ i∈(AV.one v').ids,H2.nx≤i) (fun v h1 h2 hg ⟨v',a,b,c⟩=>⟨v',a,b.gr hg,c⟩) ?_ (fun h hg hn=>by have:=jk h q x.2 ((hq.gr g2).gr hg) hL.2;rw[hn] at this;exact this) ?_
 ·exact unU (by simp (config:={decide:=true}) only [aM,if_true])
 rintro w kx H3 ⟨q',rfl,hq',iq⟩ hkx hn3 g3
 subst hn3
 have r2:H3.get (N+1)=some (.arr [.o .nilS,.o .nilS] 66 0 0):=by rw[g3.get _ n2 not_false];exact r2
 have n3:N+1<H3.nx:=Nat.lt_of_lt_of_le n2 g3.nx
 have hp3:=hp'.gr g3
 have g13:=(g1.gr g2).gr g3
 have i12:=g1.nx
 have i23:=g2.nx
 replace i12:Hd _:=i12
 replace i23:Hd _:=i23
 have keep:∀ {u:AC} {l:List Gp},aD H3 u l→(∀ id∈(AV.one u).ids,H1.nx≤id)→aD (H3.mod (N+1) (.arr [p',q'] 66 0 0)) u l:=fun hu hi=>SlC.fr hu (X:=fun k=>k=N+1) ((Fr.refl _).mod _ (.inr rfl)) fun id h hh=>by have:=hi id h;omega
 have kp:=keep hp3 ip
 have kq:=keep hq' (fun i h=>by have:=iq i h;have:=i23.out;omega)
 clear keep
 replace kp:Hd _:=kp
 replace kq:Hd _:=kq
 simp (config:={decide:=true}) only [qB,Nat.reduceLeDiff,Nat.reduceAdd,qD,bw,bJ,aM,t2,hnt,Fc lP vL,mf,lB,ow,r2,n3]
 refine hK _ _ ?_
 clear hK K
 refine qV ?_
 exact ⟨_,_,cG (id:=N+1) (g:=0) iI (.inr rfl) (by simp only[ag,hdf];rfl) (by simp only[aa,Nat.reduceEqDiff,reduceIte,t2]) (by rw[ai rfl];exact bm (Nat.le_refl _) (Nat.le_refl _)) (Nat.le_refl _) rfl,g13.mod _ (.inl (by have:=hN.out;omega)),fun _=>⟨p',q',rfl,kp.out,kq.out,fun id h=>by have:=ip id h;have:=i12.out;omega,fun id h=>by have:=iq id h;have:=i12.out;have:=i23.out;omega⟩⟩
end Go.Proofs.YtnhbkodnmkojpaaGreat
namespace Go.Proofs.YtnhbkodnmkojpaaGreat
open Go Go.Eng
theorem vA:al Tryz.prog 74=true:=by kernel_rfl
theorem wv:al Tryz.prog 75=true:=by kernel_rfl
def csC (c:Cs) (p q w:AC):List AC:=[.i .i64 c.face,.i .i64 c.col,.i .i64 c.line,.i .i64 c.kind,p,q,.o (.str c.good),w]
theorem Lo (c:Cs) (p q w:AC):csC c p q w=[.i .i64 c.face,.i .i64 c.col,.i .i64 c.line,.i .i64 c.kind,p,q,.o (.str c.good),w]:=rfl
def yS (n:Nat) (c:Cs) (r:AV) (H:Hp):Prop:=∃ c',r=.agg c'∧c'.length=8∧CsR H c' c∧∀ id∈gM c',n≤id
theorem AJ (H:Hp) (c:Cs) (p q w:AC) (hp:aD H p c.num.1) (hq:aD H q c.num.2) (hw:SlP H w c.ws) (hL:c.num.1.length*32≤140737488355328∧c.num.2.length*32≤140737488355328) (hW:c.ws.length*24≤140737488355328):
  Con E2 103 [.agg [.i .i64 c.face,.i .i64 c.col,.i .i64 c.line,.i .i64 c.kind,p,q,.o (.str c.good),w]] H (fun _=>False) fun r H'=>yS H.nx c r H':=by
 unfold yS
 refine Con.of rfl fun lg=>?_
 have hp:aD ⟨H.t,H.nx,lg⟩ p c.num.1:=hp
 have hq:aD ⟨H.t,H.nx,lg⟩ q c.num.2:=hq
 have hw:SlP ⟨H.t,H.nx,lg⟩ w c.ws:=hw
 have e0:H.nx=(⟨H.t,H.nx,lg⟩:Hp).nx:=rfl
 rw[e0]
 clear e0
 generalize (⟨H.t,H.nx,lg⟩:Hp)=H at hp hq hw ⊢
 refine C1.body (E:=E2) (nt:=18) (res:=[.cell 2 69]) Tryz.func103 rfl rfl rfl rfl rfl fun tm hargs=>?_
 have h0:=hargs 0 _ rfl
 clear hargs
 have lp:=hp.lt
 have lq:=hq.lt
 have lw:=hw.lt
 refine zG tyF fun K hK=>?_
 refine hK.out _ _ ?_
 refine R1.gen (fun A1 H1=>Gr H H1∧H.nx+1<H1.nx∧H1.get H.nx=some (.arr [.i .i64 c.face,.i .i64 c.col,.i .i64 c.line,.i .i64 c.kind,p,q,.o (.str c.good),w] 69 0 0)∧H1.get (H.nx+1)=some (.arr [.i .i64 0,.i .i64 0,.i .i64 0,.i .i64 0,.o .nilS,.o .nilS,.o (.str []),.o .nilS] 69 0 0)∧slot A1.tm 1=.one ((.o (.ptr H.nx 0 0 8)))∧slot A1.tm 2=.one ((.o (.ptr (H.nx+1) 0 0 8)))∧A1.nt=18∧A1.dfr=[])
  ⟨((Fr.refl _).new _).new _,by show H.nx+1<H.nx+1+1;omega,by rw[aN (by show H.nx<H.nx+1;omega)];exact an rfl,an rfl,zL⟩ ?_
 clear h0 tm hK K lp lq lw
 rintro A1 H1 ⟨g1,n1,r1,r2,t1,t2,hnt,hdf⟩
 obtain ⟨N,hN⟩:∃ N,N=H.nx:=⟨_,rfl⟩
 rw[←hN] at n1 r1 r2 t1 t2
 replace hN:Hd _:=hN
 have hp:=hp.gr g1
 have hq:=hq.gr g1
 have hw:=hw.gr g1
 have l1:N<H1.nx:=by omega
 have lp:=hp.lt
 have lq:=hq.lt
 repeat refine R1.aw ?_
 repeat refine R1.aw ?_
 (first|refine R1.kY (ms:=[0,1,3,7,0,16,48,127,255,511,1023]) (by kernel_rfl) (by kernel_rfl) fun K hK=>?_|refine R1.e_drw (ms:=[0,1,3,7,0,16,48,127,255,511,1023]) (by kernel_rfl) (by kernel_rfl) fun K hK=>?_)
 simp (config:={decide:=true}) only [qB,au,Nat.reduceLT,Nat.reduceLeDiff,Nat.reduceAdd,Nat.reduceSub,qD,bw,aM,ad,t1,hnt,r1,l1,jI,bc,bT,bg,kF]
 refine ga (fun r H'=>∃ v',r=.one v'∧aD H' v' c.num.1∧∀ i∈(AV.one v').ids,H1.nx≤i) (fun v h1 h2 hg ⟨v',a,b,c⟩=>⟨v',a,b.gr hg,c⟩) ?_ (fun h hg hn=>by have:=jk h p c.num.1 (hp.gr hg) hL.1;rw[hn] at this;exact this) ?_
 ·exact unU (by simp (config:={decide:=true}) only [aM,if_true])
 rintro w1 kx H2 ⟨p',rfl,hp',ip⟩ hkx hn2 g2
 subst hn2
 have r1:H2.get N=some (.arr [.i .i64 c.face,.i .i64 c.col,.i .i64 c.line,.i .i64 c.kind,p,q,.o (.str c.good),w] 69 0 0):=by rw[g2.get _ l1 not_false];exact r1
 have r2:H2.get (N+1)=some (.arr [.i .i64 0,.i .i64 0,.i .i64 0,.i .i64 0,.o .nilS,.o .nilS,.o (.str []),.o .nilS] 69 0 0):=by rw[g2.get _ n1 not_false];exact r2
 have n2:N+1<H2.nx:=Nat.lt_of_lt_of_le n1 g2.nx
 have l2:N<H2.nx:=by omega
 simp (config:={decide:=true}) only [qB,Nat.reduceLT,Nat.reduceLeDiff,Nat.reduceAdd,Nat.reduceSub,qD,bw,aM,t1,hnt,r1,l1,l2]
 refine ga (fun r H'=>∃ v',r=.one v'∧aD H' v' c.num.2∧∀ i∈(AV.one v').ids,H2.nx≤i) (fun v h1 h2 hg ⟨v',a,b,c⟩=>⟨v',a,b.gr hg,c⟩) ?_ (fun h hg hn=>by have:=jk h q c.num.2 ((hq.gr g2).gr hg) hL.2;rw[hn] at this;exact this) ?_
 ·exact unU (by simp (config:={decide:=true}) only [aM,if_true])
 rintro w2 kx H3 ⟨q',rfl,hq',iq⟩ hkx hn3 g3
 subst hn3
 have r1:H3.get N=some (.arr [.i .i64 c.face,.i .i64 c.col,.i .i64 c.line,.i .i64 c.kind,p,q,.o (.str c.good),w] 69 0 0):=by rw[g3.get _ l2 not_false];exact r1
 have r2:H3.get (N+1)=some (.arr [.i .i64 0,.i .i64 0,.i .i64 0,.i .i64 0,.o .nilS,.o .nilS,.o (.str []),.o .nilS] 69 0 0):=by rw[g3.get _ n2 not_false];exact r2
 have n3:N+1<H3.nx:=Nat.lt_of_lt_of_le n2 g3.nx
 have l3:N<H3.nx:=by omega
 have hp3:=hp'.gr g3
 have g13:=(g1.gr g2).gr g3
 have i12:=g1.nx
 have i23:=g2.nx
 have keep:∀ {u:AC} {l:List Gp},aD H3 u l→(∀ id∈(AV.one u).ids,H1.nx≤id)→aD (H3.mod N (.arr [.i .i64 c.face,.i .i64 c.col,.i .i64 c.line,.i .i64 c.kind,p',q',.o (.str c.good),w] 69 0 0)) u l:=fun hu hi=>SlC.fr hu (X:=fun k=>k=N) ((Fr.refl _).mod _ (.inr rfl)) fun id h hh=>by have:=hi id h;omega
 simp (config:={decide:=true}) only [qB,Nat.reduceLT,Nat.reduceLeDiff,Nat.reduceAdd,Nat.reduceSub,qD,bw,bJ,aM,t1,hnt,Fc lP vL,mf,lB,ow,r1,l3]
 refine hK _ _ ?_
 clear hK K
 refine R1.gen (fun A4 H4=>Gr H H4∧N+1<H4.nx∧H4.get N=some (.arr [.i .i64 c.face,.i .i64 c.col,.i .i64 c.line,.i .i64 c.kind,p',q',.o (.str c.good),w] 69 0 0)∧H4.get (N+1)=some (.arr [.i .i64 0,.i .i64 0,.i .i64 0,.i .i64 0,.o .nilS,.o .nilS,.o (.str []),.o .nilS] 69 0 0)∧aD H4 p' c.num.1∧aD H4 q' c.num.2∧slot A4.tm 1=.one ((.o (.ptr N 0 0 8)))∧slot A4.tm 2=.one ((.o (.ptr (N+1) 0 0 8)))∧A4.nt=18∧A4.dfr=[])
  ⟨g13.mod _ (.inl (by have:=hN.out;omega)),n3,ai rfl,by rw[az (by omega)];exact r2,keep hp3 ip,keep hq' (fun i h=>by have:=iq i h;omega),zL⟩ ?_
 clear t1 t2 hnt hdf A1 keep r1 r2 g13
 rintro A H4 ⟨g4,n4,r1,r2,hp4,hq4,t1,t2,hnt,hdf⟩
 have l4:N<H4.nx:=by omega
 have hw4:SlP H4 w c.ws:=SlP.gr (by assumption) g4
 have lw:=hw4.lt
 have jp:∀ i∈(AV.one p').ids,H.nx≤i∧¬(i=N∨i=N+1):=fun i h=>by have:=ip i h;have:=hN.out;omega
 have jq:∀ i∈(AV.one q').ids,H.nx≤i∧¬(i=N∨i=N+1):=fun i h=>by have:=iq i h;have:=hN.out;omega
 clear ip iq hp3 hp' hq' i12 i23 g1 g2 g3 n1 n2 n3 l1 l2 l3 lp lq
 replace jp:Hd _:=jp
 replace jq:Hd _:=jq
 refine zG (qA tyF Ib) fun K hK=>?_
 refine WE.con (GC H4 w c.ws hw4 hW) fun w5 H5 g5 ⟨w',hq5,hw',iw⟩=>?_
 subst hq5
 have r1:=(g5.get _ l4 not_false).trans r1
 have l4:=Nat.lt_of_lt_of_le l4 g5.nx
 have r2:=(g5.get _ n4 not_false).trans r2
 have n4:=Nat.lt_of_lt_of_le n4 g5.nx
 have g45:=g4.gr g5
 have hp5:=hp4.gr g5
 have hq5:=hq4.gr g5
 have i4:=g4.nx
 have i5:=g5.nx
 have jw:∀ i∈(AV.one w').ids,H.nx≤i∧¬(i=N∨i=N+1):=fun i h=>by have:=iw i h;have:=hN.out;omega
 have keep:Fr (fun k=>k=N∨k=N+1) H5 ((H5.mod N (.arr [.i .i64 c.face,.i .i64 c.col,.i .i64 c.line,.i .i64 c.kind,p',q',.o (.str c.good),w'] 69 0 0)).mod (N+1) (.arr [.i .i64 c.face,.i .i64 c.col,.i .i64 c.line,.i .i64 c.kind,p',q',.o (.str c.good),w'] 69 0 0)):=((Fr.refl _).mod _ (.inr (.inl rfl))).mod _ (.inr (.inr rfl))
 have kp:=SlC.fr hp5 keep fun i h=>(jp.out i h).2
 have kq:=SlC.fr hq5 keep fun i h=>(jq.out i h).2
 have kw:=SlC.fr hw' keep fun i h=>(jw i h).2
 clear keep i4 i5 g5 hw4 hp4 hq4 lw hw' hp5 hq5
 replace kp:Hd _:=kp
 replace kq:Hd _:=kq
 replace kw:Hd _:=kw
 replace jw:Hd _:=jw
 refine zK tyF ?_
 exact ⟨_,_,cG (id:=N+1) (g:=0) ti (.inr rfl) (by simp only[ag,hdf];rfl) (by simp only[aa,Nat.reduceEqDiff,reduceIte,t2]) (by rw[ai rfl];exact bm (Nat.le_refl _) (Nat.le_refl _)) (Nat.le_refl _) rfl,(g45.mod _ (.inl (by have:=hN.out;omega))).mod _ (.inl (by have:=hN.out;omega)),fun _=>⟨_,rfl,rfl,⟨p',q',w',rfl,kp.out,kq.out,kw.out⟩,fun i hi=>by
  have hi':i∈gM [.i .i64 c.face,.i .i64 c.col,.i .i64 c.line,.i .i64 c.kind,p',q',.o (.str c.good),w']:=hi
  rw[mB] at hi'
  rcases List.mem_append.1 hi' with h|h
  ·exact (jp.out i h).1
  ·rcases List.mem_append.1 h with h|h
   ·exact (jq.out i h).1
   ·exact (jw.out i h).1⟩⟩
theorem vY (H:Hp) (c:Cs) (p q w:AC) (hp:aD H p c.num.1) (hq:aD H q c.num.2) (hw:SlP H w c.ws) (hL:c.num.1.length*32≤140737488355328∧c.num.2.length*32≤140737488355328) (hW:c.ws.length*24≤140737488355328):
  Con E2 30 [.agg [.i .i64 c.face,.i .i64 c.col,.i .i64 c.line,.i .i64 c.kind,p,q,.o (.str c.good),w]] H (fun _=>False) fun r H'=>yS H.nx c r H':=by
 unfold yS
 refine Con.of rfl fun lg=>?_
 have hp:aD ⟨H.t,H.nx,lg⟩ p c.num.1:=hp
 have hq:aD ⟨H.t,H.nx,lg⟩ q c.num.2:=hq
 have hw:SlP ⟨H.t,H.nx,lg⟩ w c.ws:=hw
 have e0:H.nx=(⟨H.t,H.nx,lg⟩:Hp).nx:=rfl
 rw[e0]
 clear e0
 generalize (⟨H.t,H.nx,lg⟩:Hp)=H at hp hq hw ⊢
 refine C1.body (E:=E2) (nt:=12) (res:=[.cell 2 69]) Tryz.func30 rfl rfl rfl rfl rfl fun tm hargs=>?_
 have h0:=hargs 0 _ rfl
 clear hargs
 have lp:=hp.lt
 have lq:=hq.lt
 have lw:=hw.lt
 refine zG tyF fun K hK=>?_
 refine hK.out _ _ ?_
 refine R1.gen (fun A1 H1=>Gr H H1∧H.nx+1<H1.nx∧H1.get H.nx=some (.arr [.i .i64 c.face,.i .i64 c.col,.i .i64 c.line,.i .i64 c.kind,p,q,.o (.str c.good),w] 69 0 0)∧H1.get (H.nx+1)=some (.arr [.i .i64 0,.i .i64 0,.i .i64 0,.i .i64 0,.o .nilS,.o .nilS,.o (.str []),.o .nilS] 69 0 0)∧slot A1.tm 1=.one ((.o (.ptr H.nx 0 0 8)))∧slot A1.tm 2=.one ((.o (.ptr (H.nx+1) 0 0 8)))∧A1.nt=12∧A1.dfr=[])
  ⟨((Fr.refl _).new _).new _,by show H.nx+1<H.nx+1+1;omega,by rw[aN (by show H.nx<H.nx+1;omega)];exact an rfl,an rfl,zL⟩ ?_
 clear h0 tm hK K lp lq lw
 rintro A1 H1 ⟨g1,n1,r1,r2,t1,t2,hnt,hdf⟩
 obtain ⟨N,hN⟩:∃ N,N=H.nx:=⟨_,rfl⟩
 rw[←hN] at n1 r1 r2 t1 t2
 replace hN:Hd _:=hN
 have hp:=hp.gr g1
 have hq:=hq.gr g1
 have hw:=hw.gr g1
 have l1:N<H1.nx:=by omega
 have lp:=hp.lt
 have lq:=hq.lt
 refine zG (qA tyF vA) fun K hK=>?_
 refine WE.con (wT H1 p q c.num hp hq hL) fun w2 H2 g2 ⟨p',q',hq2,hp',hq',ip,iq⟩=>?_
 subst hq2
 have r1:=(g2.get _ l1 not_false).trans r1
 have l1:=Nat.lt_of_lt_of_le l1 g2.nx
 have r2:=(g2.get _ n1 not_false).trans r2
 have n1:=Nat.lt_of_lt_of_le n1 g2.nx
 have g12:=g1.gr g2
 have i1:=g1.nx
 have i2:=g2.nx
 have kf:Fr (fun k=>k=N) H2 (H2.mod N (.arr [.i .i64 c.face,.i .i64 c.col,.i .i64 c.line,.i .i64 c.kind,p',q',.o (.str c.good),w] 69 0 0)):=(Fr.refl _).mod _ (.inr rfl)
 have jp:∀ i∈(AV.one p').ids,H.nx≤i∧¬(i=N∨i=N+1):=fun i h=>by have:=ip i h;have:=hN.out;omega
 have jq:∀ i∈(AV.one q').ids,H.nx≤i∧¬(i=N∨i=N+1):=fun i h=>by have:=iq i h;have:=hN.out;omega
 have gm:Gr H (H2.mod N (.arr [.i .i64 c.face,.i .i64 c.col,.i .i64 c.line,.i .i64 c.kind,p',q',.o (.str c.good),w] 69 0 0)):=g12.mod _ (.inl (by have:=hN.out;omega))
 have kp:=SlC.fr hp' kf fun i h e=>(jp i h).2 (.inl e)
 have kq:=SlC.fr hq' kf fun i h e=>(jq i h).2 (.inl e)
 clear kf ip iq i1 i2 lp lq g1 g2
 replace jp:Hd _:=jp
 replace jq:Hd _:=jq
 replace kp:Hd _:=kp
 replace kq:Hd _:=kq
 replace gm:Hd _:=gm
 refine zS tyF ?_
 refine hK.out _ _ ?_
 refine R1.gen (fun A4 H4=>Gr H H4∧N+1<H4.nx∧H4.get N=some (.arr [.i .i64 c.face,.i .i64 c.col,.i .i64 c.line,.i .i64 c.kind,p',q',.o (.str c.good),w] 69 0 0)∧H4.get (N+1)=some (.arr [.i .i64 0,.i .i64 0,.i .i64 0,.i .i64 0,.o .nilS,.o .nilS,.o (.str []),.o .nilS] 69 0 0)∧aD H4 p' c.num.1∧aD H4 q' c.num.2∧slot A4.tm 1=.one ((.o (.ptr N 0 0 8)))∧slot A4.tm 2=.one ((.o (.ptr (N+1) 0 0 8)))∧A4.nt=12∧A4.dfr=[])
  ⟨gm.out,n1,ai rfl,by rw[az (by omega)];exact r2,kp.out,kq.out,zL⟩ ?_
 clear t1 t2 hnt hdf A1 r1 r2 g12 gm kp kq hp' hq' hK K
 rintro A H4 ⟨g4,n4,r1,r2,hp4,hq4,t1,t2,hnt,hdf⟩
 have l4:N<H4.nx:=by omega
 have hw4:SlP H4 w c.ws:=SlP.gr (by assumption) g4
 have lw:=hw4.lt
 refine zG (qA tyF wv) fun K hK=>?_
 refine WE.con (tu H4 w c.ws hw4 hW) fun w5 H5 g5 ⟨w',hq5,hw',iw⟩=>?_
 subst hq5
 have r1:=(g5.get _ l4 not_false).trans r1
 have l4:=Nat.lt_of_lt_of_le l4 g5.nx
 have r2:=(g5.get _ n4 not_false).trans r2
 have n4:=Nat.lt_of_lt_of_le n4 g5.nx
 have g45:=g4.gr g5
 have hp5:=hp4.gr g5
 have hq5:=hq4.gr g5
 have i4:=g4.nx
 have i5:=g5.nx
 have jw:∀ i∈(AV.one w').ids,H.nx≤i∧¬(i=N∨i=N+1):=fun i h=>by have:=iw i h;have:=hN.out;omega
 have keep:Fr (fun k=>k=N∨k=N+1) H5 ((H5.mod N (.arr [.i .i64 c.face,.i .i64 c.col,.i .i64 c.line,.i .i64 c.kind,p',q',.o (.str c.good),w'] 69 0 0)).mod (N+1) (.arr [.i .i64 c.face,.i .i64 c.col,.i .i64 c.line,.i .i64 c.kind,p',q',.o (.str c.good),w'] 69 0 0)):=((Fr.refl _).mod _ (.inr (.inl rfl))).mod _ (.inr (.inr rfl))
 have kp:=SlC.fr hp5 keep fun i h=>(jp.out i h).2
 have kq:=SlC.fr hq5 keep fun i h=>(jq.out i h).2
 have kw:=SlC.fr hw' keep fun i h=>(jw i h).2
 clear keep i4 i5 g5 hw4 hp4 hq4 lw hw' hp5 hq5
 replace kp:Hd _:=kp
 replace kq:Hd _:=kq
 replace kw:Hd _:=kw
 replace jw:Hd _:=jw
 refine zK tyF ?_
 exact ⟨_,_,cG (id:=N+1) (g:=0) ti (.inr rfl) (by simp only[ag,hdf];rfl) (by simp only[aa,Nat.reduceEqDiff,reduceIte,t2]) (by rw[ai rfl];exact bm (Nat.le_refl _) (Nat.le_refl _)) (Nat.le_refl _) rfl,(g45.mod _ (.inl (by have:=hN.out;omega))).mod _ (.inl (by have:=hN.out;omega)),fun _=>⟨_,rfl,rfl,⟨p',q',w',rfl,kp.out,kq.out,kw.out⟩,fun i hi=>by
  have hi':i∈gM [.i .i64 c.face,.i .i64 c.col,.i .i64 c.line,.i .i64 c.kind,p',q',.o (.str c.good),w']:=hi
  rw[mB] at hi'
  rcases List.mem_append.1 hi' with h|h
  ·exact (jp.out i h).1
  ·rcases List.mem_append.1 h with h|h
   ·exact (jq.out i h).1
   ·exact (jw.out i h).1⟩⟩
end Go.Proofs.YtnhbkodnmkojpaaGreat
namespace Go.Proofs.YtnhbkodnmkojpaaGreat
open Go Go.Eng
theorem Di:al Tryz.prog 103=true:=by kernel_rfl
theorem AZ:al Tryz.prog 30=true:=by kernel_rfl
theorem yS.open {n:Nat} {c:Cs} {r:AV} {H:Hp} (h:yS n c r H):∃ p q w,r=.agg [.i .i64 c.face,.i .i64 c.col,.i .i64 c.line,.i .i64 c.kind,p,q,.o (.str c.good),w]∧CsR H [.i .i64 c.face,.i .i64 c.col,.i .i64 c.line,.i .i64 c.kind,p,q,.o (.str c.good),w] c∧∀ id∈gM [.i .i64 c.face,.i .i64 c.col,.i .i64 c.line,.i .i64 c.kind,p,q,.o (.str c.good),w],n≤id:=by
 obtain ⟨c',h1,h2,h3,h4⟩:=h
 obtain ⟨p,q,w,rfl,h5⟩:=h3
 exact ⟨p,q,w,h1,⟨p,q,w,rfl,h5⟩,h4⟩
theorem aY.lg {α:Type} {R:Hp→List AC→α→Prop} (hlg:∀ H lg c x,R H c x→R ⟨H.t,H.nx,lg⟩ c x) {sz:Nat} {e:TypeId} {X:Nat→Prop} {H:Hp} {v:AC} {l:List α} {r:Option Nat} (h:aY R sz e X H v l r) (lg:List Nat):aY R sz e X ⟨H.t,H.nx,lg⟩ v l r where
 row:=h.row
 own:=let ⟨css,a,b⟩:=h.own;⟨css,a,b.mono fun c x ⟨h1,h2,h3⟩=>⟨h1,hlg _ _ _ _ h2,h3⟩⟩
theorem JN:∀ (H:Hp) (lg:List Nat) (c:List AC) (x:Cs),CsR H c x→CsR ⟨H.t,H.nx,lg⟩ c x:=fun _ _ _ _ h=>h
theorem hS (H:Hp) (n:List UInt8) (v:AC) (l:List Cs) (hv:bX H v l) (hB:TbB l):
  Con E2 53 [.one (.o (.str n)),.one v] H (fun _=>False) fun r H'=>∃ v' q,r=.agg [.o (.str n),v']∧aY CsR 8 69 (fun i=>i<H.nx) H' v' l q:=by
 refine Con.of rfl fun lg=>?_
 have hv:bX ⟨H.t,H.nx,lg⟩ v l:=hv
 have e0:H.nx=(⟨H.t,H.nx,lg⟩:Hp).nx:=rfl
 rw[e0]
 clear e0
 generalize (⟨H.t,H.nx,lg⟩:Hp)=H at hv ⊢
 refine C1.body (E:=E2) (nt:=25) (res:=[.cell 4 26]) Tryz.func53 rfl rfl rfl rfl rfl fun tm hargs=>?_
 have h0:=hargs 0 _ rfl
 have h1:=hargs 1 _ rfl
 clear hargs
 have hl:l.length*120≤140737488355328:=hB.c
 obtain ⟨z,hz,hzl⟩:=KV
 replace hz:Hd _:=hz
 replace hzl:Hd _:=hzl
 refine zW tyF ?_
 refine R1.gen (fun A1 H1=>Gr H H1∧H.nx+2=H1.nx∧H1.get H.nx=some (.arr [.o (.str []),.o .nilS] 26 0 0)∧H1.get (H.nx+1)=some (.arr [.o (.str n),.o .nilS] 26 0 0)∧slot A1.tm 1=.one (v)∧slot A1.tm 4=.one ((.o (.ptr H.nx 0 0 2)))∧slot A1.tm 5=.one ((.o (.ptr (H.nx+1) 0 0 2)))∧A1.nt=25∧A1.dfr=[])
  ⟨(((Fr.refl _).new _).new _).mod _ (.inl (Nat.le_succ _)),rfl,by rw[az (by show H.nx≠H.nx+1;omega),aN (by show H.nx<H.nx+1;omega)];exact an rfl,ai rfl,zL⟩ ?_
 clear h0 h1 tm
 rintro A1 H1 ⟨g1,n1,r1,r2,t1,t4,t5,hnt,hdf⟩
 obtain ⟨N,hN⟩:∃ N,N=H.nx:=⟨_,rfl⟩
 rw[←hN] at n1 r1 r2 t4 t5
 replace hN:Hd _:=hN
 have hv1:=hv.gr g1
 have lv:=hv1.lt
 have ll:=hv1.len
 have n0:N+2≤H1.nx:=Nat.le_of_eq n1
 clear n1
 refine zW tyF ?_
 refine R1.cq fun K k1 k2 k3 k4=>?_
 refine R1.loop (fun k A H2=>∃ (i:Nat) (v':AC) (r:Option Nat),k=l.length - i∧i≤l.length∧Gr H H2∧N+2≤H2.nx∧H2.get N=some (.arr [.o (.str []),.o .nilS] 26 0 0)∧H2.get (N+1)=some (.arr [.o (.str n),v'] 26 0 0)∧aY CsR 8 69 (fun i=>i<N+2) H2 v' (l.take i) r ∧
   slot A.tm 4=.one ((.o (.ptr N 0 0 2)))∧slot A.tm 5=.one ((.o (.ptr (N+1) 0 0 2)))∧slot A.tm 10=.one (v)∧slot A.tm 11=.one (.i .i64 (l.length:Int))∧slot A.tm 12=.one (.i .i64 (i:Int))∧A.nt=25∧A.dfr=[]) ?_ l.length
  ⟨0,.o .nilS,none,rfl,Nat.zero_le _,g1,n0,r1,r2,aY.nil,zL⟩
 clear t1 t4 t5 hnt hdf A1 r1 r2 k3 lv ll hv1 g1 n0 H1
 rintro k A H2 ⟨i,v',r,rfl,hi,g2,n2,r1,r2,ho,t4,t5,t10,t11,t12,hnt,hdf⟩
 have hv2:=hv.gr g2
 have m1:N<H2.nx:=by omega
 have m2:N+1<H2.nx:=by omega
 refine zW tyF ?_
 refine zI tyF (fun hc=>?_) (fun hc=>?_)
 ·have hlt:i<l.length:=by omega
  have ex:l[i]?=some l[i]:=List.getElem?_eq_getElem hlt
  have hdr:l.drop i=l[i]::l.drop (i+1):=List.drop_eq_getElem_cons hlt
  have htk:l.take (i+1)=l.take i++[l[i]]:=List.take_succ_eq_append_getElem hlt
  have hmem:l[i]∈l:=List.getElem_mem hlt
  generalize l[i]=x at ex hdr htk hmem
  have hw2:IntKind.i64.wrap ((i:Int)+1)=((i+1:Nat):Int):=by rw[aX (by omega) (by omega)];omega
  have hlen:(l.take i).length=i:=by rw[List.length_take];omega
  obtain ⟨id,g,off,cells,rfl,hid,hgr,hat⟩:=hv2.open (by omega)
  obtain ⟨p,q,w,hx⟩:=hat i x ex
  have y1:=hx.all
  have y2:=hx.le
  have hp:=hx.of1
  have hq:=hx.of2
  have hw:=hx.of3
  have hBn:=hB.n x hmem
  have hBw:=hB.w x hmem
  clear hx hat hdr ex hmem
  replace htk:Hd _:=htk
  replace hlen:Hd _:=hlen
  refine zW tyF ?_
  refine R1.cq fun K2 p1 p2 p3 p4=>?_
  refine zG (qA tyF (ixC hlt)) fun K3 hK3=>?_
  refine hK3.out _ _ ?_
  refine R1.gen (fun A4 H4=>Gr H2 H4∧H2.nx<H4.nx∧H4.get H2.nx=some (.arr [.i .i64 x.face,.i .i64 x.col,.i .i64 x.line,.i .i64 x.kind,p,q,.o (.str x.good),w] 69 0 0)∧slot A4.tm 4=.one ((.o (.ptr N 0 0 2)))∧slot A4.tm 5=.one ((.o (.ptr (N+1) 0 0 2)))∧slot A4.tm 7=.one ((.o (.ptr H2.nx 0 0 8)))∧slot A4.tm 10=.one ((.o (.sl id g off l.length 8)))∧slot A4.tm 11=.one (.i .i64 (l.length:Int))∧slot A4.tm 12=.one (.i .i64 (i:Int))∧A4.nt=25∧A4.dfr=[])
   ⟨((Fr.refl _).new _).mod _ (.inl (Nat.le_refl _)),Nat.lt_succ_self _,ai rfl,zL⟩ ?_
  clear t4 t5 t10 t11 t12 hnt hdf A y1 y2 hK3 K3 hgr hid
  rintro A H4 ⟨g4,mM,rM,t4,t5,t7,t10,t11,t12,hnt,hdf⟩
  obtain ⟨M,hM⟩:∃ M,M=H2.nx:=⟨_,rfl⟩
  rw[←hM] at mM rM t7
  have nM:N+2≤M:=by omega
  clear hM
  have r1:=(g4.get _ m1 not_false).trans r1
  have m1:=Nat.lt_of_lt_of_le m1 g4.nx
  have r2:=(g4.get _ m2 not_false).trans r2
  have m2:=Nat.lt_of_lt_of_le m2 g4.nx
  have ho4:=ho.gr bG bB g4
  have g24:=g2.gr g4
  have lo:=ho4.lt
  clear ho g2 hv2
  refine zH (qA tyF Di) fun K3 hK3=>?_
  refine WE.MP (AJ H4 x p q w (hp.gr g4) (hq.gr g4) (hw.gr g4) hBn hBw) fun w5 H5 g5 hnew=>?_
  obtain ⟨p',q',w',rfl,hcs,hids⟩:=hnew.open
  have r1:=(g5.get _ m1 not_false).trans r1
  have m1:=Nat.lt_of_lt_of_le m1 g5.nx
  have r2:=(g5.get _ m2 not_false).trans r2
  have m2:=Nat.lt_of_lt_of_le m2 g5.nx
  have ho5:=ho4.gr bG bB g5
  have g25:=g24.gr g5
  have hi0:∀ id∈gM [.i .i64 x.face,.i .i64 x.col,.i .i64 x.line,.i .i64 x.kind,p',q',.o (.str x.good),w'],¬id<N+2∧some id≠r:=fun id hid=>by
   have h1:=hids id hid
   refine ⟨by omega,fun e=>?_⟩
   have:=(ho4.row id e.symm).2
   omega
  obtain ⟨hlt5,v7,H7,r7,happ,ho7,hf7,hr7⟩:=ho5.push bG bB gq Lf hz.out hzl.out (by decide) (fun i h=>by omega) rfl hcs hi0 (by have:=hlen.out;omega)
  have r17:=(hf7.get _ m1 fun e=>(ho5.row _ e).1 (by omega)).trans r1
  have r27:=(hf7.get _ m2 fun e=>(ho5.row _ e).1 (by omega)).trans r2
  have m17:=Nat.lt_of_lt_of_le m1 hf7.nx
  have m27:=Nat.lt_of_lt_of_le m2 hf7.nx
  have g27:Gr H H7:=g25.then hf7 fun q hq=>.inl (by have:=(ho5.row q hq).1;have:=hN.out;omega)
  have ho8:=ho7.fr bG bB (Y:=fun i=>i=N+1) (H':=H7.mod (N+1) (.arr [.o (.str n),v7] 26 0 0)) ((Fr.refl _).mod _ (.inr rfl)) fun i h=>.inl (by omega)
  rw[←htk.out] at ho8
  have nx7:N+2≤H7.nx:=by omega
  have gm:=g27.mod (i:=N+1) (.arr [.o (.str n),v7] 26 0 0) (.inl (by have:=hN.out;omega))
  clear ho4 ho5 ho7 hi0 hids hcs hnew hp hq hw g24 g25 g5 g4 hf7 hr7 r1 r2 g27 lo
  replace ho8:Hd _:=ho8
  replace gm:Hd _:=gm
  refine zS (qA tyF gS) ?_
  refine ⟨hlt5,?_⟩
  refine zK tyF ?_
  refine p1.out _ _ ?_
  refine zW tyF ?_
  exact ⟨l.length - (i+1),by omega,i+1,v7,some r7,rfl,hlt,gm.out,nx7,(az (by omega)).trans r17,ai rfl,ho8.out,zL⟩
 ·have hie:i=l.length:=by omega
  subst hie
  rw[List.take_length] at ho
  have ho9:=(ho.fr bG bB (Y:=fun i=>i=N) (H':=H2.mod N (.arr [.o (.str n),v'] 26 0 0)) ((Fr.refl _).mod _ (.inr rfl)) fun i h=>.inl (by omega)).less (X':=fun i=>i<H.nx) fun i h=>by have:=hN.out;omega
  have gm:=g2.mod (i:=N) (.arr [.o (.str n),v'] 26 0 0) (.inl (by have:=hN.out;omega))
  have lo:=ho.lt
  clear ho hv2
  replace ho9:Hd _:=ho9
  replace gm:Hd _:=gm
  refine zW tyF ?_
  refine k2.out _ _ ?_
  refine zW tyF ?_
  exact ⟨_,_,cG (id:=N) (g:=0) iP (.inr rfl) (by simp only[ag,hdf];rfl) (by simp only[aa,Nat.reduceEqDiff,reduceIte,t4]) (by rw[ai rfl];exact bm (Nat.le_refl _) (Nat.le_refl _)) (Nat.le_refl _) rfl,gm.out,fun lg=>⟨v',r,rfl,aY.lg JN ho9.out lg⟩⟩
theorem rE (H:Hp) (n:List UInt8) (v:AC) (l:List Cs) (hv:bX H v l) (hB:TbB l):
  Con E2 8 [.agg [.o (.str n),v]] H (fun _=>False) fun r H'=>∃ v' q,r=.agg [.o (.str n),v']∧aY CsR 8 69 (fun i=>i<H.nx) H' v' l q:=by
 refine Con.of rfl fun lg=>?_
 have hv:bX ⟨H.t,H.nx,lg⟩ v l:=hv
 have e0:H.nx=(⟨H.t,H.nx,lg⟩:Hp).nx:=rfl
 rw[e0]
 clear e0
 generalize (⟨H.t,H.nx,lg⟩:Hp)=H at hv ⊢
 refine C1.body (E:=E2) (nt:=27) (res:=[.cell 2 26]) Tryz.func8 rfl rfl rfl rfl rfl fun tm hargs=>?_
 have h0:=hargs 0 _ rfl
 clear hargs
 have hl:l.length*120≤140737488355328:=hB.c
 obtain ⟨z,hz,hzl⟩:=KV
 replace hz:Hd _:=hz
 replace hzl:Hd _:=hzl
 have lv:=hv.lt
 refine zW tyF ?_
 refine R1.gen (fun A1 H1=>Gr H H1∧H.nx+3=H1.nx∧H1.get H.nx=some (.arr [.o (.str n),v] 26 0 0)∧H1.get (H.nx+1)=some (.arr [.o (.str []),.o .nilS] 26 0 0)∧H1.get (H.nx+2)=some (.arr [.o (.str n),.o .nilS] 26 0 0)∧slot A1.tm 1=.one ((.o (.ptr H.nx 0 0 2)))∧slot A1.tm 2=.one ((.o (.ptr (H.nx+1) 0 0 2)))∧slot A1.tm 3=.one ((.o (.ptr (H.nx+2) 0 0 2)))∧slot A1.tm 4=.one (.i .i64 (0:Int))∧A1.nt=27∧A1.dfr=[])
  ⟨((((Fr.refl _).new _).new _).new _).mod _ (.inl (by show H.nx≤H.nx+1+1;omega)),rfl,by rw[az (by show H.nx≠H.nx+1+1;omega),aN (by show H.nx<H.nx+1+1;omega),aN (by show H.nx<H.nx+1;omega)];exact an rfl,by rw[az (by show H.nx+1≠H.nx+1+1;omega),aN (by show H.nx+1<H.nx+1+1;omega)];exact an rfl,ai rfl,zL⟩ ?_
 clear h0 tm lv
 rintro A1 H1 ⟨g1,n1,r0,r1,r2,t1,t2,t3,t4,hnt,hdf⟩
 obtain ⟨N,hN⟩:∃ N,N=H.nx:=⟨_,rfl⟩
 rw[←hN] at n1 r0 r1 r2 t1 t2 t3
 replace hN:Hd _:=hN
 have n0:N+3≤H1.nx:=Nat.le_of_eq n1
 clear n1
 refine R1.cq fun K k1 k2 k3 k4=>?_
 refine R1.loop (fun k A H2=>∃ (i:Nat) (v':AC) (r:Option Nat),k=l.length - i∧i≤l.length∧Gr H H2∧N+3≤H2.nx∧H2.get N=some (.arr [.o (.str n),v] 26 0 0)∧H2.get (N+1)=some (.arr [.o (.str []),.o .nilS] 26 0 0)∧H2.get (N+2)=some (.arr [.o (.str n),v'] 26 0 0)∧aY CsR 8 69 (fun i=>i<N+3) H2 v' (l.take i) r ∧
   slot A.tm 1=.one ((.o (.ptr N 0 0 2)))∧slot A.tm 2=.one ((.o (.ptr (N+1) 0 0 2)))∧slot A.tm 3=.one ((.o (.ptr (N+2) 0 0 2)))∧slot A.tm 4=.one (.i .i64 (i:Int))∧A.nt=27∧A.dfr=[]) ?_ l.length
  ⟨0,.o .nilS,none,rfl,Nat.zero_le _,g1,n0,r0,r1,r2,aY.nil,zL⟩
 clear t1 t2 t3 t4 hnt hdf A1 r0 r1 r2 k3 g1 n0 H1
 rintro k A H2 ⟨i,v',r,rfl,hi,g2,n2,r0,r1,r2,ho,t1,t2,t3,t4,hnt,hdf⟩
 have hv2:=hv.gr g2
 have m0:N<H2.nx:=by omega
 have m1:N+1<H2.nx:=by omega
 have m2:N+2<H2.nx:=by omega
 have lv:=hv2.lt
 have ll:=hv2.len
 refine zW tyF ?_
 refine zI tyF (fun hc=>?_) (fun hc=>?_)
 ·have hlt:i<l.length:=by omega
  have ex:l[i]?=some l[i]:=List.getElem?_eq_getElem hlt
  have hdr:l.drop i=l[i]::l.drop (i+1):=List.drop_eq_getElem_cons hlt
  have htk:l.take (i+1)=l.take i++[l[i]]:=List.take_succ_eq_append_getElem hlt
  have hmem:l[i]∈l:=List.getElem_mem hlt
  generalize l[i]=x at ex hdr htk hmem
  have hw2:IntKind.i64.wrap ((i:Int)+1)=((i+1:Nat):Int):=by rw[aX (by omega) (by omega)];omega
  have hlen:(l.take i).length=i:=by rw[List.length_take];omega
  obtain ⟨id,g,off,cells,rfl,hid,hgr,hat⟩:=hv2.open (by omega)
  obtain ⟨p,q,w,hx⟩:=hat i x ex
  have y1:=hx.all
  have y2:=hx.le
  have hp:=hx.of1
  have hq:=hx.of2
  have hw:=hx.of3
  have lp:=hp.lt
  have lq:=hq.lt
  have lw:=hw.lt
  have hBn:=hB.n x hmem
  have hBw:=hB.w x hmem
  have lo:=ho.lt
  clear hx hat hdr ex hmem ll
  replace htk:Hd _:=htk
  replace hlen:Hd _:=hlen
  refine zW tyF ?_
  refine R1.cq fun K2 p1 p2 p3 p4=>?_
  refine zH (qA tyF (qA (ixC hlt) AZ)) fun K3 hK3=>?_
  refine WE.MP (vY H2 x p q w hp hq hw hBn hBw) fun w5 H5 g5 hnew=>?_
  obtain ⟨p',q',w',rfl,hcs,hids⟩:=hnew.open
  have r0:=(g5.get _ m0 not_false).trans r0
  have m0:=Nat.lt_of_lt_of_le m0 g5.nx
  have r1:=(g5.get _ m1 not_false).trans r1
  have m1:=Nat.lt_of_lt_of_le m1 g5.nx
  have r2:=(g5.get _ m2 not_false).trans r2
  have m2:=Nat.lt_of_lt_of_le m2 g5.nx
  have ho5:=ho.gr bG bB g5
  have g25:=g2.gr g5
  have hi0:∀ id∈gM [.i .i64 x.face,.i .i64 x.col,.i .i64 x.line,.i .i64 x.kind,p',q',.o (.str x.good),w'],¬id<N+3∧some id≠r:=fun id hid=>by
   have h1:=hids id hid
   refine ⟨by omega,fun e=>?_⟩
   have:=(ho.row id e.symm).2
   omega
  obtain ⟨hlt5,v7,H7,r7,happ,ho7,hf7,hr7⟩:=ho5.push bG bB gq Lf hz.out hzl.out (by decide) (fun i h=>by omega) rfl hcs hi0 (by have:=hlen.out;omega)
  have r07:=(hf7.get _ m0 fun e=>(ho5.row _ e).1 (by omega)).trans r0
  have r17:=(hf7.get _ m1 fun e=>(ho5.row _ e).1 (by omega)).trans r1
  have r27:=(hf7.get _ m2 fun e=>(ho5.row _ e).1 (by omega)).trans r2
  have m17:=Nat.lt_of_lt_of_le m1 hf7.nx
  have m27:=Nat.lt_of_lt_of_le m2 hf7.nx
  have g27:Gr H H7:=g25.then hf7 fun q hq=>.inl (by have:=(ho5.row q hq).1;have:=hN.out;omega)
  have ho8:=ho7.fr bG bB (Y:=fun i=>i=N+2) (H':=H7.mod (N+2) (.arr [.o (.str n),v7] 26 0 0)) ((Fr.refl _).mod _ (.inr rfl)) fun i h=>.inl (by omega)
  rw[←htk.out] at ho8
  have nx7:N+3≤H7.nx:=by omega
  have gm:=g27.mod (i:=N+2) (.arr [.o (.str n),v7] 26 0 0) (.inl (by have:=hN.out;omega))
  clear ho ho5 ho7 hi0 hids hcs hnew hp hq hw g25 g5 hf7 hr7 r0 r1 r2 g27 lo y1 y2 hgr hid lp lq lw lv hv2
  replace ho8:Hd _:=ho8
  replace gm:Hd _:=gm
  refine zS (qA tyF gS) ?_
  refine ⟨hlt5,?_⟩
  refine zK tyF ?_
  refine p1.out _ _ ?_
  refine zW tyF ?_
  exact ⟨l.length - (i+1),by omega,i+1,v7,some r7,rfl,hlt,gm.out,nx7,(az (by omega)).trans r07,(az (by omega)).trans r17,ai rfl,ho8.out,zL⟩
 ·have hie:i=l.length:=by omega
  subst hie
  rw[List.take_length] at ho
  have ho9:=(ho.fr bG bB (Y:=fun i=>i=N+1) (H':=H2.mod (N+1) (.arr [.o (.str n),v'] 26 0 0)) ((Fr.refl _).mod _ (.inr rfl)) fun i h=>.inl (by omega)).less (X':=fun i=>i<H.nx) fun i h=>by have:=hN.out;omega
  have gm:=g2.mod (i:=N+1) (.arr [.o (.str n),v'] 26 0 0) (.inl (by have:=hN.out;omega))
  have lo:=ho.lt
  clear ho hv2 lv ll
  replace ho9:Hd _:=ho9
  replace gm:Hd _:=gm
  refine zW tyF ?_
  refine k2.out _ _ ?_
  refine zW tyF ?_
  exact ⟨_,_,cG (id:=N+1) (g:=0) iP (.inr rfl) (by simp only[ag,hdf];rfl) (by simp only[aa,Nat.reduceEqDiff,reduceIte,t2]) (by rw[ai rfl];exact bm (Nat.le_refl _) (Nat.le_refl _)) (Nat.le_refl _) rfl,gm.out,fun lg=>⟨v',r,rfl,aY.lg JN ho9.out lg⟩⟩
end Go.Proofs.YtnhbkodnmkojpaaGreat
namespace Go.Proofs.YtnhbkodnmkojpaaGreat
open Go Go.Eng
theorem ja:al Tryz.prog 53=true:=by kernel_rfl
noncomputable def AK (t:Tb) (n:Int):Int:=if ir t≠0 then ir t else if n<0∨(t.2.length:Int)<n then 8 else 0
def slN (H:Hp) (alt:ae) (x y:AV):ae:=
 match x,y with
 | .one (.o .nilS),.one (.i .i64 (.ofNat 0))=>.val (.one (.o .nilS)) H
 | _,_=>alt
theorem Uk {H:Hp} {alt:ae}:slN H alt (.one (.o .nilS)) (.one (.i .i64 0))=.val (.one (.o .nilS)) H:=rfl
theorem sm {H:Hp} {sz:Nat} {lo hi:Option AV} {alt:ae}:de H sz (.one (.o .nilS)) lo hi alt=alt:=rfl
theorem xA {tm:PT AV} {H:Hp} {d:Option Tmp} {x y:Operand} {ty:TypeId} {pos:String} {af:Array Edge} {g:Option (Nat×Bool)}:
  ax Tryz.prog tm H ⟨d,.slice 24 x none (some y) none,ty,pos,af,g⟩=slN H (cZ Tryz.prog tm H ⟨d,.slice 24 x none (some y) none,ty,pos,af,g⟩) (ev tm x) (ev tm y):=by
 unfold slN
 split
 ·rename_i hx hy
  have vx:(ev tm x).val?=some (.slice none 0 0):=by rw[hx];rfl
  have vy:(ev tm y).val?=some (.int .i64 0):=by rw[hy];rfl
  have dx:bu (ev tm x)=.slice none 0 0:=by unfold bu;rw[vx]
  have dy:bu (ev tm y)=.int .i64 0:=by unfold bu;rw[vy]
  unfold ax
  have e1:((⟨d,.slice 24 x none (some y) none,ty,pos,af,g⟩:Oper).op.operands.toList.all fun x=>(ev tm x).val?.isSome)=true:=by
   show ([x,y].all fun x=>(ev tm x).val?.isSome)=true
   simp only[List.all_cons,List.all_nil,vx,vy];rfl
  rw[e1]
  have e2:aC Tryz.prog (execOp (fun x=>bu (ev tm x)) ⟨d,.slice 24 x none (some y) none,ty,pos,af,g⟩)=some (.value (.slice none 0 0)):=by
   show aC Tryz.prog (Sem.bind (Instr.sliceAt 24 (bu (ev tm x)) none (some (bu (ev tm y))) none) fun v=>Sem.pure (Next.value v))=_
   rw[dx,dy]
   kernel_rfl
  rw[e2];rfl
 ·rfl
theorem zn {tm:PT AV} {H:Hp} {d:Option Tmp} {x y:Operand} {ty:TypeId} {pos:String} {af:Array Edge} {g:Option (Nat×Bool)}:
  ax Tryz.prog tm H ⟨d,.slice 24 x (some y) none none,ty,pos,af,g⟩=slN H (cZ Tryz.prog tm H ⟨d,.slice 24 x (some y) none none,ty,pos,af,g⟩) (ev tm x) (ev tm y):=by
 unfold slN
 split
 ·rename_i hx hy
  have vx:(ev tm x).val?=some (.slice none 0 0):=by rw[hx];rfl
  have vy:(ev tm y).val?=some (.int .i64 0):=by rw[hy];rfl
  have dx:bu (ev tm x)=.slice none 0 0:=by unfold bu;rw[vx]
  have dy:bu (ev tm y)=.int .i64 0:=by unfold bu;rw[vy]
  unfold ax
  have e1:((⟨d,.slice 24 x (some y) none none,ty,pos,af,g⟩:Oper).op.operands.toList.all fun x=>(ev tm x).val?.isSome)=true:=by
   show ([x,y].all fun x=>(ev tm x).val?.isSome)=true
   simp only[List.all_cons,List.all_nil,vx,vy];rfl
  rw[e1]
  have e2:aC Tryz.prog (execOp (fun x=>bu (ev tm x)) ⟨d,.slice 24 x (some y) none none,ty,pos,af,g⟩)=some (.value (.slice none 0 0)):=by
   show aC Tryz.prog (Sem.bind (Instr.sliceAt 24 (bu (ev tm x)) (some (bu (ev tm y))) none none) fun v=>Sem.pure (Next.value v))=_
   rw[dx,dy]
   kernel_rfl
  rw[e2];rfl
 ·rfl
theorem OG {α β:Type} {R:β→α→Prop}:∀ (n:Nat) {cs:List β} {xs:List α},Al R cs xs→Al R (cs.drop n) (xs.drop n)
 | 0,_,_,h=>h
 | n+1,[],[],_=>trivial
 | n+1,[],_::_,h=>h.elim
 | n+1,_::_,[],h=>h.elim
 | n+1,_::_,_::_,h=>OG n h.2
theorem uG {sz:Nat}:∀ (n:Nat) {css:List (List AC)},(∀ c∈css,c.length=sz)→(css.drop n).flatMap id=(css.flatMap id).drop (n*sz)
 | 0,css,_=>by rw[Nat.zero_mul];rfl
 | n+1,[],_=>by simp
 | n+1,c::css,h=>by
  have hc:c.length=sz:=h c (List.mem_cons_self ..)
  rw[List.drop_succ_cons,uG n fun x hx=>h x (List.mem_cons_of_mem _ hx),List.flatMap_cons,Nat.succ_mul]
  show _=(c++css.flatMap id).drop (n*sz+sz)
  rw[List.drop_append,hc,List.drop_of_length_le (by omega:c.length≤n*sz+sz),List.nil_append,Nat.add_sub_cancel]
theorem bX.UK {H:Hp} {v:AC} {l:List Cs} (h:bX H v l):(v=.o .nilS∧l=[])∨∃ id g off,v=.o (.sl id g off l.length 8)∧id<H.nx:=by
 obtain ⟨css,h1,h2⟩:=h
 rcases h1.2 with ⟨e,h0⟩|⟨id,g,off,e,hid,hr⟩
 ·exact .inl ⟨e,List.eq_nil_of_length_eq_zero h0⟩
 ·exact .inr ⟨id,g,off,e,hid⟩
theorem SlR.drop {α:Type} {R:Hp→List AC→α→Prop} {sz:Nat} {H:Hp} {id g off:Nat} {l:List α} (h:SlR R sz H (.o (.sl id g off l.length sz)) l) {n:Nat} (hn:n≤l.length):SlR R sz H (.o (.sl id g (off+n*sz) (l.length - n) sz)) (l.drop n):=by
 obtain ⟨css,h1,h2⟩:=h
 have hl:(l.drop n).length=l.length - n:=List.length_drop
 have hcl:css.length=l.length:=h2.len
 have hcn:(css.drop n).length=l.length - n:=by rw[List.length_drop];omega
 have hm:n*sz+(l.length - n)*sz=l.length*sz:=by rw[←Nat.add_mul];congr 1;omega
 have hfl:=jB h2.lens
 refine ⟨css.drop n,⟨?_,?_⟩,OG n h2⟩
 ·rw[jB fun c hc=>h2.lens c (List.mem_of_mem_drop hc),hcn,hl]
 ·rcases h1.2 with ⟨e,h0⟩|⟨id',g',off',e,hid,hr⟩
  ·cases e
  ·cases e
   right
   refine ⟨id,g,off+n*sz,by rw[hl],hid,?_⟩
   rw[hl,uG n h2.lens]
   have:=hr.part (n*sz) ((l.length - n)*sz) (by omega)
   rwa [List.take_of_length_le (by rw[List.length_drop,hfl,hcl];omega)] at this
theorem SX (H:Hp) (nm:List UInt8) (v:AC) (l:List Cs) (n:Int) (hv:bX H v l) (hB:TbB l):
  Con E2 19 [.agg [.o (.str nm),v],.one (.i .i64 n)] H (fun _=>False) fun r H'=>∃ va vb,r=.tup [(true,[.o (.str (if AK (nm,l) n=0 then nm else [])),va]),(true,[.o (.str (if AK (nm,l) n=0 then nm else [])),vb]),(false,[.i .i64 (AK (nm,l) n)])] ∧
   (AK (nm,l) n=0→∃ q r',aY CsR 8 69 (fun i=>i<H.nx) H' va (l.take n.toNat) q∧aY CsR 8 69 (fun i=>i<H.nx) H' vb (l.drop n.toNat) r')∧(AK (nm,l) n≠0→va=.o .nilS∧vb=.o .nilS):=by
 generalize he0:AK (nm,l) n=e0
 refine Con.of rfl fun lg=>?_
 have hv:bX ⟨H.t,H.nx,lg⟩ v l:=hv
 have e0:H.nx=(⟨H.t,H.nx,lg⟩:Hp).nx:=rfl
 rw[e0]
 clear e0
 generalize (⟨H.t,H.nx,lg⟩:Hp)=H at hv ⊢
 refine C1.body (E:=E2) (nt:=40) (res:=[.cell 4 26,.cell 5 26,.tmp 6]) Tryz.func19 rfl rfl rfl rfl rfl fun tm hargs=>?_
 have h0:=hargs 0 _ rfl
 have h1:=hargs 1 _ rfl
 clear hargs
 replace he0:Hd _:=he0
 have hl:l.length*120≤140737488355328:=hB.c
 have lv:=hv.lt
 refine zG tyF fun K hK=>?_
 refine hK.out _ _ ?_
 refine R1.gen (fun A1 H1=>Gr H H1∧H.nx+2<H1.nx∧H1.get H.nx=some (.arr [.o (.str nm),v] 26 0 0)∧H1.get (H.nx+1)=some (.arr [.o (.str []),.o .nilS] 26 0 0)∧H1.get (H.nx+2)=some (.arr [.o (.str []),.o .nilS] 26 0 0)∧slot A1.tm 1=.one ((.i .i64 n))∧slot A1.tm 2=.one ((.o (.ptr H.nx 0 0 2)))∧slot A1.tm 4=.one ((.o (.ptr (H.nx+1) 0 0 2)))∧slot A1.tm 5=.one ((.o (.ptr (H.nx+2) 0 0 2)))∧slot A1.tm 6=.one ((.i .i64 0))∧A1.nt=40∧A1.dfr=[])
  ⟨(((Fr.refl _).new _).new _).new _,by show H.nx+2<H.nx+1+1+1;omega,by rw[aN (by show H.nx<H.nx+1+1;omega),aN (by show H.nx<H.nx+1;omega)];exact an rfl,by rw[aN (by show H.nx+1<H.nx+1+1;omega)];exact an rfl,an rfl,zL⟩ ?_
 clear h0 h1 tm hK K lv
 rintro A1 H1 ⟨g1,n2,r0,r1,r2,t1,t2,t4,t5,t6,hnt,hdf⟩
 obtain ⟨N,hN⟩:∃ N,N=H.nx:=⟨_,rfl⟩
 rw[←hN] at n2 r0 r1 r2 t2 t4 t5
 replace hN:Hd _:=hN
 have m0:N<H1.nx:=by omega
 have m1:N+1<H1.nx:=by omega
 have hv1:=hv.gr g1
 have lv:=hv1.lt
 refine zG (qA tyF vP) fun K hK=>?_
 refine WE.con (sB H1 nm v l hv1 hB) fun w2 H2 g2 hq2=>?_
 subst hq2
 have r0:=(g2.get _ m0 not_false).trans r0
 have m0:=Nat.lt_of_lt_of_le m0 g2.nx
 have r1:=(g2.get _ m1 not_false).trans r1
 have m1:=Nat.lt_of_lt_of_le m1 g2.nx
 have r2:=(g2.get _ n2 not_false).trans r2
 have n2:=Nat.lt_of_lt_of_le n2 g2.nx
 have hv2:=hv1.gr g2
 have g12:=g1.gr g2
 clear g1 g2 hv1 lv
 have lv:=hv2.lt
 have ll:=hv2.len
 have he:=he0.out
 unfold AK at he
 clear he0
 have fin:∀ (sn:List UInt8) (va vb:AC) (A:ab) (H9:Hp),slot A.tm 4=.one (.o (.ptr (N+1) 0 0 2))→slot A.tm 5=.one (.o (.ptr (N+2) 0 0 2))→slot A.tm 6=.one (.i .i64 e0)→closeAll H9 A.dfr=some H9→H9.get (N+1)=some (.arr [.o (.str sn),va] 26 0 0)→H9.get (N+2)=some (.arr [.o (.str sn),vb] 26 0 0)→Gr H H9→sn=(if e0=0 then nm else []) →
   (e0=0→∃ q r',aY CsR 8 69 (fun i=>i<H.nx) H9 va (l.take n.toNat) q∧aY CsR 8 69 (fun i=>i<H.nx) H9 vb (l.drop n.toNat) r')→(e0≠0→va=.o .nilS∧vb=.o .nilS) →
   ∃ w H4,ao E2 [.cell 4 26,.cell 5 26,.tmp 6] (.ret,A,H9)=.ok [(w,H4)]∧Gr H H4∧∀ lg:List Nat,∃ va vb,w=.tup [(true,[.o (.str (if e0=0 then nm else [])),va]),(true,[.o (.str (if e0=0 then nm else [])),vb]),(false,[.i .i64 e0])] ∧
    (e0=0→∃ q r',aY CsR 8 69 (fun i=>i<H.nx) ⟨H4.t,H4.nx,lg⟩ va (l.take n.toNat) q∧aY CsR 8 69 (fun i=>i<H.nx) ⟨H4.t,H4.nx,lg⟩ vb (l.drop n.toNat) r')∧(e0≠0→va=.o .nilS∧vb=.o .nilS):=fun sn va vb A H9 s4 s5 s6 hd r1 r2 hg hsn ho hz=>
  ⟨_,H9,cE (.inr rfl) hd (fw iP s4 (by rw[r1];exact qq) (Nat.le_refl _) rfl (fw iP s5 (by rw[r2];exact qq) (Nat.le_refl _) rfl (kS s6 lL))),hg,fun lg=>⟨va,vb,by rw[←hsn];rfl,fun h=>by
   obtain ⟨q,r',a,b⟩:=ho h
   exact ⟨q,r',aY.lg JN a lg,aY.lg JN b lg⟩,hz⟩⟩
 by_cases q1:ir (nm,l)=0
 case neg=>
  rw[if_pos q1] at he
  have e1:(e0==0)=false:=beq_false_of_ne (by rw[←he];exact q1)
  rw[he]
  have g9:=(g12.mod (i:=N+1) (.arr [.o (.str []),.o .nilS] 26 0 0) (.inl (by have:=hN.out;omega))).mod (i:=N+2) (.arr [.o (.str []),.o .nilS] 26 0 0) (.inl (by have:=hN.out;omega))
  have hne:e0≠0:=by rw[←he];exact q1
  replace hne:Hd _:=hne
  replace g9:Hd _:=g9
  clear q1 he
  refine zE tyF ?_
  refine zR tyF ?_
  refine zX tyF ?_
  repeat refine R1.aw ?_
  repeat refine R1.aw ?_
  (first|refine R1.kY (ms:=[0,0,0,1,11,31]) (by kernel_rfl) (by kernel_rfl) fun K hK=>?_|refine R1.e_drw (ms:=[0,0,0,1,11,31]) (by kernel_rfl) (by kernel_rfl) fun K hK=>?_)
  simp (config:={decide:=true}) only [qB,au,Nat.reduceLT,Nat.reduceAdd,qD,bw,bJ,aM,ad,t4,t5,hnt,r1,m1,r2,n2,iP,om]
  refine hK _ _ ?_
  clear hK K
  refine qV ?_
  exact fin [] (.o .nilS) (.o .nilS) _ _ (by simp only[aa,Nat.reduceEqDiff,reduceIte,t4]) (by simp only[aa,Nat.reduceEqDiff,reduceIte,t5]) qp (by simp only[ag,hdf];rfl) ((az (by omega)).trans (ai rfl)) (ai rfl) g9.out (if_neg hne.out).symm (fun h=>absurd h hne.out) fun _=>⟨rfl,rfl⟩
 rw[if_neg (fun h=>h q1)] at he
 rw[q1]
 by_cases q2:n<0∨(l.length:Int)<n
 ·rw[if_pos (by exact q2)] at he
  have g9:=(g12.mod (i:=N+1) (.arr [.o (.str []),.o .nilS] 26 0 0) (.inl (by have:=hN.out;omega))).mod (i:=N+2) (.arr [.o (.str []),.o .nilS] 26 0 0) (.inl (by have:=hN.out;omega))
  subst he
  replace g9:Hd _:=g9
  clear q1
  by_cases q3:n<0
  ·clear q2
   refine zE tyF ?_
   refine zR tyF ?_
   refine zX tyF ?_
   refine R1.aS ?_
   refine zR tyF ?_
   refine zX tyF ?_
   repeat refine R1.aw ?_
   repeat refine R1.aw ?_
   (first|refine R1.kY (ms:=[0,0,1,7,15]) (by kernel_rfl) (by kernel_rfl) fun K hK=>?_|refine R1.e_drw (ms:=[0,0,1,7,15]) (by kernel_rfl) (by kernel_rfl) fun K hK=>?_)
   simp (config:={decide:=true}) only [qB,au,Nat.reduceLT,Nat.reduceAdd,qD,bw,bJ,aM,ad,t4,t5,hnt,r1,m1,r2,n2,iP,om]
   refine hK _ _ ?_
   clear hK K
   refine qV ?_
   exact fin [] (.o .nilS) (.o .nilS) _ _ (by simp only[aa,Nat.reduceEqDiff,reduceIte,t4]) (by simp only[aa,Nat.reduceEqDiff,reduceIte,t5]) qp (by simp only[ag,hdf];rfl) ((az (by omega)).trans (ai rfl)) (ai rfl) g9.out rfl (fun h=>absurd h (by decide)) fun _=>⟨rfl,rfl⟩
  ·have q4:(l.length:Int)<n:=q2.resolve_left q3
   clear q2
   refine zE tyF ?_
   refine zR tyF ?_
   refine zX tyF ?_
   refine R1.aS ?_
   refine zR tyF ?_
   refine zX tyF ?_
   repeat refine R1.aw ?_
   repeat refine R1.aw ?_
   (first|refine R1.kY (ms:=[0,0,1,7,15]) (by kernel_rfl) (by kernel_rfl) fun K hK=>?_|refine R1.e_drw (ms:=[0,0,1,7,15]) (by kernel_rfl) (by kernel_rfl) fun K hK=>?_)
   simp (config:={decide:=true}) only [qB,au,Nat.reduceLT,Nat.reduceAdd,qD,bw,bJ,aM,ad,t4,t5,hnt,r1,m1,r2,n2,iP,om]
   refine hK _ _ ?_
   clear hK K
   refine qV ?_
   exact fin [] (.o .nilS) (.o .nilS) _ _ (by simp only[aa,Nat.reduceEqDiff,reduceIte,t4]) (by simp only[aa,Nat.reduceEqDiff,reduceIte,t5]) qp (by simp only[ag,hdf];rfl) ((az (by omega)).trans (ai rfl)) (ai rfl) g9.out rfl (fun h=>absurd h (by decide)) fun _=>⟨rfl,rfl⟩
 rw[if_neg (by exact q2)] at he
 subst he
 have q3:¬n<0:=fun h=>q2 (.inl h)
 have q4:¬(l.length:Int)<n:=fun h=>q2 (.inr h)
 obtain ⟨k,hk⟩:∃ k:Nat,n=(k:Int):=⟨n.toNat,by omega⟩
 subst hk
 have hkl:k≤l.length:=by omega
 rw[Int.toNat_natCast] at fin
 clear q1 q2
 refine zK tyF ?_
 rcases hv2.UK with ⟨rfl,hz⟩|hz
 ·have hv0:bX H2 (.o .nilS) (l.take k):=by rw[hz,List.take_nil];rw[hz] at hv2;exact hv2
  have hv1:bX H2 (.o .nilS) (l.drop k):=by rw[hz,List.drop_nil];rw[hz] at hv2;exact hv2
  have hl0:l.length=0:=by rw[hz];rfl
  have hk0:k=0:=by omega
  subst hk0
  repeat refine R1.aw ?_
  repeat refine R1.aw ?_
  (first|refine R1.kY (ms:=[0,1,0,4,0,28,63,0,128,0,512,0,3584,8191,16383,32767,65535]) (by kernel_rfl) (by kernel_rfl) fun K hK=>?_|refine R1.e_drw (ms:=[0,1,0,4,0,28,63,0,128,0,512,0,3584,8191,16383,32767,65535]) (by kernel_rfl) (by kernel_rfl) fun K hK=>?_)
  simp (config:={decide:=true}) only [qB,au,Nat.reduceLT,Nat.reduceLeDiff,Nat.reduceAdd,Nat.reduceSub,qD,bw,aM,ad,t1,t2,hnt,r0,m0,jL,jU,aL,jH,gq,ja,Uk,sm,@xA,@zn]
  refine ga (fun r H'=>∃ v' q,r=.agg [.o (.str nm),v']∧aY CsR 8 69 (fun i=>i<H2.nx) H' v' (l.take 0) q) (fun v h1 h2 hg ⟨v',q,a,b⟩=>⟨v',q,a,b.gr bG bB hg⟩) ?_ (fun h hg hn=>by have:=hS h nm (.o .nilS) (l.take 0) (hv0.gr hg) (hB.take 0);rw[hn] at this;exact this) ?_
  ·exact unU (by simp (config:={decide:=true}) only [aM,if_true])
  rintro w3 kx H3 ⟨va,q,rfl,hoa⟩ hkx hn3 g3
  subst hn3
  have r0:=(g3.get _ m0 not_false).trans r0
  have m0:=Nat.lt_of_lt_of_le m0 g3.nx
  have r1:=(g3.get _ m1 not_false).trans r1
  have m1:=Nat.lt_of_lt_of_le m1 g3.nx
  have r2:=(g3.get _ n2 not_false).trans r2
  have n2:=Nat.lt_of_lt_of_le n2 g3.nx
  have m03:=m0
  have hpb:=hv1.gr g3
  have m02:N<H2.nx:=by assumption
  simp (config:={decide:=true}) only [qB,Nat.reduceLT,Nat.reduceLeDiff,Nat.reduceAdd,Nat.reduceSub,qD,bw,aM,t1,t2,hnt,r0,m0,m02,Uk,sm]
  refine ga (fun r H'=>∃ v' q,r=.agg [.o (.str nm),v']∧aY CsR 8 69 (fun i=>i<H3.nx) H' v' (l.drop 0) q) (fun v h1 h2 hg ⟨v',q,a,b⟩=>⟨v',q,a,b.gr bG bB hg⟩) ?_ (fun h hg hn=>by have:=hS h nm (.o .nilS) (l.drop 0) (hpb.gr hg) (hB.drop 0);rw[hn] at this;exact this) ?_
  ·exact unU (by simp (config:={decide:=true}) only [aM,if_true])
  rintro w4 kx H4 ⟨vb,q',rfl,hob⟩ hkx hn4 g4
  subst hn4
  have m13:=m1
  have m23:=n2
  have r1:=(g4.get _ m1 not_false).trans r1
  have m1:=Nat.lt_of_lt_of_le m1 g4.nx
  have r2:=(g4.get _ n2 not_false).trans r2
  have n2:=Nat.lt_of_lt_of_le n2 g4.nx
  have hoa4:=hoa.gr bG bB g4
  have n23:=g3.nx
  have b2:N+2<H2.nx:=by assumption
  have keep:Fr (fun j=>j=N+1∨j=N+2) H4 ((H4.mod (N+1) (.arr [.o (.str nm),va] 26 0 0)).mod (N+2) (.arr [.o (.str nm),vb] 26 0 0)):=((Fr.refl _).mod _ (.inr (.inl rfl))).mod _ (.inr (.inr rfl))
  have hN1:H.nx≤N+1:=by have:=hN.out;omega
  have hN2:H.nx≤N+2:=by omega
  have hle:H.nx≤H2.nx:=by omega
  have ka:=(hoa4.fr bG bB keep fun j hj=>.inl (by omega)).less (X':=fun j=>j<H.nx) fun j hj=>by omega
  have kb:=(hob.fr bG bB keep fun j hj=>.inl (by omega)).less (X':=fun j=>j<H.nx) fun j hj=>by omega
  have g9:=(((g12.gr g3).gr g4).mod (i:=N+1) (.arr [.o (.str nm),va] 26 0 0) (.inl hN1)).mod (i:=N+2) (.arr [.o (.str nm),vb] 26 0 0) (.inl hN2)
  simp (config:={decide:=true}) only [qB,Nat.reduceLT,Nat.reduceAdd,qD,bw,bJ,aM,t4,t5,hnt,r1,m1,r2,n2,om]
  refine hK _ _ ?_
  clear hK K
  refine qV ?_
  exact fin nm va vb _ _ (by simp only[aa,Nat.reduceEqDiff,reduceIte,t4]) (by simp only[aa,Nat.reduceEqDiff,reduceIte,t5]) qp (by simp only[ag,hdf];rfl) ((az (by omega)).trans (ai rfl)) (ai rfl) g9 rfl (fun _=>⟨q,q',ka,kb⟩) fun h=>absurd rfl h
 ·obtain ⟨id,g,off,rfl,hid⟩:=hz
  have hpa:bX H2 (.o (.sl id g off k 8)) (l.take k):=SlR.take hv2 hkl
  have hpd:bX H2 (.o (.sl id g (off+k*8) (l.length - k) 8)) (l.drop k):=SlR.drop hv2 hkl
  repeat refine R1.aw ?_
  repeat refine R1.aw ?_
  (first|refine R1.kY (ms:=[0,1,0,4,0,28,63,0,128,0,512,0,3584,8191,16383,32767,65535]) (by kernel_rfl) (by kernel_rfl) fun K hK=>?_|refine R1.e_drw (ms:=[0,1,0,4,0,28,63,0,128,0,512,0,3584,8191,16383,32767,65535]) (by kernel_rfl) (by kernel_rfl) fun K hK=>?_)
  simp (config:={decide:=true}) only [qB,au,Nat.reduceLT,Nat.reduceLeDiff,Nat.reduceAdd,Nat.reduceSub,qD,bw,aM,ad,t1,t2,hnt,r0,m0,jL,jU,aL,jH,gq,ja,slH hkl]
  refine ga (fun r H'=>∃ v' q,r=.agg [.o (.str nm),v']∧aY CsR 8 69 (fun i=>i<H2.nx) H' v' (l.take k) q) (fun v h1 h2 hg ⟨v',q,a,b⟩=>⟨v',q,a,b.gr bG bB hg⟩) ?_ (fun h hg hn=>by have:=hS h nm (.o (.sl id g off k 8)) (l.take k) (hpa.gr hg) (hB.take k);rw[hn] at this;exact this) ?_
  ·exact unU (by simp (config:={decide:=true}) only [aM,if_true])
  rintro w3 kx H3 ⟨va,q,rfl,hoa⟩ hkx hn3 g3
  subst hn3
  have r0:=(g3.get _ m0 not_false).trans r0
  have m0:=Nat.lt_of_lt_of_le m0 g3.nx
  have r1:=(g3.get _ m1 not_false).trans r1
  have m1:=Nat.lt_of_lt_of_le m1 g3.nx
  have r2:=(g3.get _ n2 not_false).trans r2
  have n2:=Nat.lt_of_lt_of_le n2 g3.nx
  have m03:=m0
  have hpb:=hpd.gr g3
  have m02:N<H2.nx:=by assumption
  simp (config:={decide:=true}) only [qB,Nat.reduceLT,Nat.reduceLeDiff,Nat.reduceAdd,Nat.reduceSub,qD,bw,aM,t1,t2,hnt,r0,m0,m02,slL hkl]
  refine ga (fun r H'=>∃ v' q,r=.agg [.o (.str nm),v']∧aY CsR 8 69 (fun i=>i<H3.nx) H' v' (l.drop k) q) (fun v h1 h2 hg ⟨v',q,a,b⟩=>⟨v',q,a,b.gr bG bB hg⟩) ?_ (fun h hg hn=>by have:=hS h nm (.o (.sl id g (off+k*8) (l.length - k) 8)) (l.drop k) (hpb.gr hg) (hB.drop k);rw[hn] at this;exact this) ?_
  ·exact unU (by simp (config:={decide:=true}) only [aM,if_true])
  rintro w4 kx H4 ⟨vb,q',rfl,hob⟩ hkx hn4 g4
  subst hn4
  have m13:=m1
  have m23:=n2
  have r1:=(g4.get _ m1 not_false).trans r1
  have m1:=Nat.lt_of_lt_of_le m1 g4.nx
  have r2:=(g4.get _ n2 not_false).trans r2
  have n2:=Nat.lt_of_lt_of_le n2 g4.nx
  have hoa4:=hoa.gr bG bB g4
  have n23:=g3.nx
  have b2:N+2<H2.nx:=by assumption
  have keep:Fr (fun j=>j=N+1∨j=N+2) H4 ((H4.mod (N+1) (.arr [.o (.str nm),va] 26 0 0)).mod (N+2) (.arr [.o (.str nm),vb] 26 0 0)):=((Fr.refl _).mod _ (.inr (.inl rfl))).mod _ (.inr (.inr rfl))
  have hN1:H.nx≤N+1:=by have:=hN.out;omega
  have hN2:H.nx≤N+2:=by omega
  have hle:H.nx≤H2.nx:=by omega
  have ka:=(hoa4.fr bG bB keep fun j hj=>.inl (by omega)).less (X':=fun j=>j<H.nx) fun j hj=>by omega
  have kb:=(hob.fr bG bB keep fun j hj=>.inl (by omega)).less (X':=fun j=>j<H.nx) fun j hj=>by omega
  have g9:=(((g12.gr g3).gr g4).mod (i:=N+1) (.arr [.o (.str nm),va] 26 0 0) (.inl hN1)).mod (i:=N+2) (.arr [.o (.str nm),vb] 26 0 0) (.inl hN2)
  simp (config:={decide:=true}) only [qB,Nat.reduceLT,Nat.reduceAdd,qD,bw,bJ,aM,t4,t5,hnt,r1,m1,r2,n2,om]
  refine hK _ _ ?_
  clear hK K
  refine qV ?_
  exact fin nm va vb _ _ (by simp only[aa,Nat.reduceEqDiff,reduceIte,t4]) (by simp only[aa,Nat.reduceEqDiff,reduceIte,t5]) qp (by simp only[ag,hdf];rfl) ((az (by omega)).trans (ai rfl)) (ai rfl) g9 rfl (fun _=>⟨q,q',ka,kb⟩) fun h=>absurd rfl h
end Go.Proofs.YtnhbkodnmkojpaaGreat
namespace Go.Proofs.YtnhbkodnmkojpaaGreat
open Go Go.Eng
theorem Pv:al Tryz.prog 141=true:=by kernel_rfl
theorem Sz:al Tryz.prog 177=true:=by kernel_rfl
theorem Kg:al Tryz.prog 83=true:=by kernel_rfl
theorem xJ:al Tryz.prog 42=true:=by kernel_rfl
def gY:Nat→List (List UInt8)→List UInt8→Int
 | _,[],_=>-1
 | n,x::l,s=>if s=x then (n:Int) else gY (n+1) l s
theorem tW:∀ (n:Nat) (l:List (List UInt8)) (s:List UInt8),decide (0≤gY n l s)=l.contains s
 | _,[],_=>rfl
 | n,x::l,s=>by
  unfold gY
  rw[List.contains_cons]
  by_cases h:s=x
  ·subst h
   rw[if_pos rfl,beq_self_eq_true,Bool.true_or]
   exact decide_eq_true (by omega)
  ·rw[if_neg h,beq_false_of_ne h,Bool.false_or]
   exact tW (n+1) l s
def dp (g:Gd) (s:List UInt8):Bool:=if g.2.2=[] then g.1==s else g.2.2.contains s
theorem QA (H:Hp) (v:AC) (l:List (List UInt8)) (s:List UInt8) (hv:SlS H v l) (hL:l.length≤4611686018427387904):Con E2 177 [.one v,.one (.o (.str s))] H (fun _=>False) fun r _=>r=.one (.i .i64 (gY 0 l s)):=by
 refine Con.of rfl fun lg=>?_
 have hv:SlS ⟨H.t,H.nx,lg⟩ v l:=hv
 generalize (⟨H.t,H.nx,lg⟩:Hp)=H at hv ⊢
 refine C1.body (E:=E2) (nt:=19) (res:=[.tmp 4]) Tryz.func177 rfl rfl rfl rfl rfl fun tm hargs=>?_
 have h0:=hargs 0 _ rfl
 have h1:=hargs 1 _ rfl
 clear hargs
 have fin:∀ (e:Int) (A:ab) (H3:Hp),slot A.tm 4=.one (.i .i64 e)→A.dfr=[]→Gr H H3→e=gY 0 l s→∃ w H4,ao E2 [.tmp 4] (.ret,A,H3)=.ok [(w,H4)]∧Gr H H4∧∀ _:List Nat,w=.one (.i .i64 (gY 0 l s)):=fun e A H3 h1 h2 h3 h4=>⟨_,H3,ak (.i .i64 e) (.inr rfl) h2 h1,h3,fun _=>by rw[h4]⟩
 generalize hr0:gY 0 l s=r0 at fin
 have l1:=hv.len
 have l2:=hv.lt
 replace hr0:Hd _:=hr0
 refine zW tyF ?_
 refine R1.cq fun K k1 k2 k3 k4=>?_
 refine R1.loop (fun z A H3=>∃ i:Nat,z=l.length - i∧i≤l.length∧H3=H∧Hd (gY i (l.drop i) s=r0)∧slot A.tm 0=.one (v)∧slot A.tm 1=.one ((.o (.str s)))∧slot A.tm 6=.one (v)∧slot A.tm 7=.one (.i .i64 (l.length:Int))∧slot A.tm 8=.one (.i .i64 (i:Int))∧A.nt=19∧A.dfr=[]) ?_ l.length
  ⟨0,rfl,Nat.zero_le _,rfl,hr0,zL⟩
 clear h0 h1 hr0 tm l1 l2 k3
 rintro z A H3 ⟨i,rfl,hi,rfl,hr,t0,t1,t6,t7,t8,hnt,hdf⟩
 refine zW tyF ?_
 refine zI tyF (fun hc=>?_) (fun hc=>?_)
 ·have hlt:i<l.length:=by omega
  have ex:l[i]?=some l[i]:=List.getElem?_eq_getElem hlt
  have hdr:l.drop i=l[i]::l.drop (i+1):=List.drop_eq_getElem_cons hlt
  have htk:l.take (i+1)=l.take i++[l[i]]:=List.take_succ_eq_append_getElem hlt
  have hmem:l[i]∈l:=List.getElem_mem hlt
  generalize l[i]=x at ex hdr htk hmem
  have hw2:IntKind.i64.wrap ((i:Int)+1)=((i+1:Nat):Int):=by rw[aX (by omega) (by omega)];omega
  obtain ⟨id,g,off,cells,rfl,hid,hgr,hat⟩:=hv.open (by omega)
  obtain ⟨y1,y2⟩:=hat i x ex
  have hr1:=hr.out
  rw[hdr,gY] at hr1
  clear hat hmem htk hdr hr ex
  refine zW tyF ?_
  refine R1.cq fun K2 p1 p2 p3 p4=>?_
  by_cases q:s=x
  ·have hn:(i:Int)=r0:=by rw[←hr1];exact (if_pos q).symm
   subst q
   have es:(s==s)=true:=beq_self_eq_true s
   have es2:lEq s s=true:=(bU s s).trans (beq_self_eq_true s)
   replace hn:Hd _:=hn
   clear hr1
   refine zW (qA tyF (ixC hlt)) ?_
   exact p4.out _ _ (k4.out _ _ (fin ((i:Int)) _ _ qp qe (Fr.refl _) (hn.out)))
  ·have hn:gY (i+1) (l.drop (i+1)) s=r0:=by rw[←hr1];exact (if_neg q).symm
   have es:(s==x)=false:=beq_false_of_ne q
   have es2:lEq s x=false:=by rw[bU];exact es
   replace hn:Hd _:=hn
   clear hr1 q
   refine zW (qA tyF (ixC hlt)) ?_
   refine p1.out _ _ ?_
   refine zW tyF ?_
   exact ⟨l.length - (i+1),by omega,i+1,rfl,hlt,rfl,hn,zL⟩
 ·have he:i=l.length:=by omega
  subst he
  have hn:=hr.out
  rw[List.drop_length,gY] at hn
  replace hn:Hd _:=hn
  clear hr
  refine zW tyF ?_
  refine k2.out _ _ ?_
  refine zW tyF ?_
  exact fin (-1) _ _ qp qe (Fr.refl _) (hn.out)
theorem MX (H:Hp) (v:AC) (l:List (List UInt8)) (s:List UInt8) (hv:SlS H v l) (hL:l.length≤4611686018427387904):Con E2 141 [.one v,.one (.o (.str s))] H (fun _=>False) fun r _=>r=.one (.b (l.contains s)):=by
 refine Con.of rfl fun lg=>?_
 have hv:SlS ⟨H.t,H.nx,lg⟩ v l:=hv
 generalize (⟨H.t,H.nx,lg⟩:Hp)=H at hv ⊢
 refine C1.body (E:=E2) (nt:=9) (res:=[.tmp 4]) Tryz.func141 rfl rfl rfl rfl rfl fun tm hargs=>?_
 have h0:=hargs 0 _ rfl
 have h1:=hargs 1 _ rfl
 clear hargs
 have fin:∀ (e:Bool) (A:ab) (H3:Hp),slot A.tm 4=.one (.b e)→A.dfr=[]→Gr H H3→e=l.contains s→∃ w H4,ao E2 [.tmp 4] (.ret,A,H3)=.ok [(w,H4)]∧Gr H H4∧∀ _:List Nat,w=.one (.b (l.contains s)):=fun e A H3 h1 h2 h3 h4=>⟨_,H3,ak (.b e) (.inr rfl) h2 h1,h3,fun _=>by rw[h4]⟩
 generalize hr0:l.contains s=r0 at fin
 have l2:=hv.lt
 have hn:decide (0≤gY 0 l s)=r0:=(tW 0 l s).trans hr0
 replace hn:Hd _:=hn
 clear hr0
 refine zW tyF ?_
 refine zG (qA tyF Sz) fun K hK=>?_
 refine WE.con (QA H v l s hv hL) fun w2 H2 g2 hq2=>?_
 subst hq2
 refine zK tyF ?_
 exact fin (decide (0≤gY 0 l s)) _ _ qp qe (g2) (hn.out)
theorem ND (H:Hp) (g:Gd) (u:AC) (s:List UInt8) (hu:SlS H u g.2.2) (hL:g.2.2.length≤4611686018427387904):Con E2 79 [.agg [.o (.str g.1),.o (.str g.2.1),u],.one (.o (.str s))] H (fun _=>False) fun r _=>r=.one (.b (dp g s)):=by
 refine Con.of rfl fun lg=>?_
 have hu:SlS ⟨H.t,H.nx,lg⟩ u g.2.2:=hu
 generalize (⟨H.t,H.nx,lg⟩:Hp)=H at hu ⊢
 refine C1.body (E:=E2) (nt:=17) (res:=[.tmp 4]) Tryz.func79 rfl rfl rfl rfl rfl fun tm hargs=>?_
 have h0:=hargs 0 _ rfl
 have h1:=hargs 1 _ rfl
 clear hargs
 have fin:∀ (e:Bool) (A:ab) (H3:Hp),slot A.tm 4=.one (.b e)→A.dfr=[]→Gr H H3→e=dp g s→∃ w H4,ao E2 [.tmp 4] (.ret,A,H3)=.ok [(w,H4)]∧Gr H H4∧∀ _:List Nat,w=.one (.b (dp g s)):=fun e A H3 h1 h2 h3 h4=>⟨_,H3,ak (.b e) (.inr rfl) h2 h1,h3,fun _=>by rw[h4]⟩
 generalize hr0:dp g s=r0 at fin
 obtain ⟨gn,gl,go⟩:=g
 have l2:=hu.lt
 replace hr0:Hd _:=hr0
 refine zG tyF fun K hK=>?_
 refine hK.out _ _ ?_
 refine R1.gen (fun A1 H1=>Gr H H1∧H.nx<H1.nx∧H1.get H.nx=some (.arr [.o (.str gn),.o (.str gl),u] 104 0 0)∧slot A1.tm 1=.one ((.o (.str s)))∧slot A1.tm 2=.one ((.o (.ptr H.nx 0 0 3)))∧A1.nt=17∧A1.dfr=[])
  ⟨(Fr.refl _).new _,Nat.lt_succ_self _,an rfl,zL⟩ ?_
 clear h0 h1 tm hK K l2
 rintro A1 H1 ⟨g1,m1,rx,t1,t2,hnt,hdf⟩
 obtain ⟨N,hN⟩:∃ N,N=H.nx:=⟨_,rfl⟩
 rw[←hN] at m1 rx t2
 clear hN
 have hu:=hu.gr g1
 have l1:=hu.len
 have l2:=hu.lt
 by_cases q:go=[]
 ·have hn:lEq gn s=r0:=by rw[←hr0.out,bU];exact (if_pos (by exact q)).symm
  subst q
  replace hn:Hd _:=hn
  have e0:(((([]:List (List UInt8)).length:Nat):Int)==0)=true:=rfl
  clear hr0
  refine zW tyF ?_
  exact fin (lEq gn s) _ _ qp qe (g1) (hn.out)
 ·have hn:go.contains s=r0:=by rw[←hr0.out];exact (if_neg (by exact q)).symm
  have e0:((go.length:Int)==0)=false:=beq_false_of_ne fun h=>q (List.eq_nil_of_length_eq_zero (by omega))
  replace hn:Hd _:=hn
  clear hr0 q
  refine zW tyF ?_
  refine zG (qA tyF Pv) fun K hK=>?_
  refine WE.con (MX H1 u go s hu hL) fun w2 H2 g2 hq2=>?_
  subst hq2
  refine zK tyF ?_
  exact fin (go.contains s) _ _ qp qe (g1.gr g2) (hn.out)
theorem FH (H:Hp) (v:AC) (l:List (List UInt8)) (s:List UInt8) (hv:SlS H v l) (hL:l.length≤4611686018427387904):Con E2 83 [.one v,.one (.o (.str s))] H (fun _=>False) fun r _=>r=.one (.i .i64 (gY 0 l s)):=by
 refine Con.of rfl fun lg=>?_
 have hv:SlS ⟨H.t,H.nx,lg⟩ v l:=hv
 generalize (⟨H.t,H.nx,lg⟩:Hp)=H at hv ⊢
 refine C1.body (E:=E2) (nt:=19) (res:=[.tmp 4]) Tryz.func83 rfl rfl rfl rfl rfl fun tm hargs=>?_
 have h0:=hargs 0 _ rfl
 have h1:=hargs 1 _ rfl
 clear hargs
 have fin:∀ (e:Int) (A:ab) (H3:Hp),slot A.tm 4=.one (.i .i64 e)→A.dfr=[]→Gr H H3→e=gY 0 l s→∃ w H4,ao E2 [.tmp 4] (.ret,A,H3)=.ok [(w,H4)]∧Gr H H4∧∀ _:List Nat,w=.one (.i .i64 (gY 0 l s)):=fun e A H3 h1 h2 h3 h4=>⟨_,H3,ak (.i .i64 e) (.inr rfl) h2 h1,h3,fun _=>by rw[h4]⟩
 generalize hr0:gY 0 l s=r0 at fin
 have l1:=hv.len
 have l2:=hv.lt
 replace hr0:Hd _:=hr0
 refine zW tyF ?_
 refine R1.cq fun K k1 k2 k3 k4=>?_
 refine R1.loop (fun z A H3=>∃ i:Nat,z=l.length - i∧i≤l.length∧H3=H∧Hd (gY i (l.drop i) s=r0)∧slot A.tm 0=.one (v)∧slot A.tm 1=.one ((.o (.str s)))∧slot A.tm 5=.one (.i .i64 (i:Int))∧A.nt=19∧A.dfr=[]) ?_ l.length
  ⟨0,rfl,Nat.zero_le _,rfl,hr0,zL⟩
 clear h0 h1 hr0 tm k3
 rintro z A H3 ⟨i,rfl,hi,rfl,hr,t0,t1,t5,hnt,hdf⟩
 refine zW tyF ?_
 refine zI tyF (fun hc=>?_) (fun hc=>?_)
 ·have hlt:i<l.length:=by omega
  have ex:l[i]?=some l[i]:=List.getElem?_eq_getElem hlt
  have hdr:l.drop i=l[i]::l.drop (i+1):=List.drop_eq_getElem_cons hlt
  have htk:l.take (i+1)=l.take i++[l[i]]:=List.take_succ_eq_append_getElem hlt
  have hmem:l[i]∈l:=List.getElem_mem hlt
  generalize l[i]=x at ex hdr htk hmem
  have hw2:IntKind.i64.wrap ((i:Int)+1)=((i+1:Nat):Int):=by rw[aX (by omega) (by omega)];omega
  obtain ⟨id,g,off,cells,rfl,hid,hgr,hat⟩:=hv.open (by omega)
  obtain ⟨y1,y2⟩:=hat i x ex
  have hr1:=hr.out
  rw[hdr,gY] at hr1
  clear hat hmem htk hdr hr ex
  refine zW tyF ?_
  refine R1.cq fun K2 p1 p2 p3 p4=>?_
  by_cases q:s=x
  ·have hn:(i:Int)=r0:=by rw[←hr1];exact (if_pos q).symm
   subst q
   have es:(s==s)=true:=beq_self_eq_true s
   have es2:lEq s s=true:=(bU s s).trans (beq_self_eq_true s)
   replace hn:Hd _:=hn
   clear hr1
   refine zW (qA tyF (ixC hlt)) ?_
   exact p4.out _ _ (k4.out _ _ (fin ((i:Int)) _ _ qp qe (Fr.refl _) (hn.out)))
  ·have hn:gY (i+1) (l.drop (i+1)) s=r0:=by rw[←hr1];exact (if_neg q).symm
   have es:(x==s)=false:=beq_false_of_ne fun h=>q h.symm
   have es2:lEq x s=false:=by rw[bU];exact es
   replace hn:Hd _:=hn
   clear hr1 q
   refine zW (qA tyF (ixC hlt)) ?_
   refine p1.out _ _ ?_
   refine zW tyF ?_
   exact ⟨l.length - (i+1),by omega,i+1,rfl,hlt,rfl,hn,zL⟩
 ·have he:i=l.length:=by omega
  subst he
  have hn:=hr.out
  rw[List.drop_length,gY] at hn
  replace hn:Hd _:=hn
  clear hr
  refine zW tyF ?_
  refine k2.out _ _ ?_
  refine zW tyF ?_
  exact fin (-1) _ _ qp qe (Fr.refl _) (hn.out)
theorem CO (H:Hp) (v:AC) (gs:List Gd) (own tot:List UInt8) (i:Nat) (g:Gd) (hv:SlG H v gs) (hL:gs.length≤1000000) (hB:∀ x∈gs,x.2.2.length≤4611686018427387904) (hi:cY 0 gs tot=(i:Int)) (hg:gs[i]?=some g) (hn:g.1=tot):
  Con E2 35 [.one v,.one (.o (.str own)),.one (.o (.str tot))] H (fun _=>False) fun r _=>r=.one (.b (dp g own)):=by
 refine Con.of rfl fun lg=>?_
 have hv:SlG ⟨H.t,H.nx,lg⟩ v gs:=hv
 generalize (⟨H.t,H.nx,lg⟩:Hp)=H at hv ⊢
 refine C1.body (E:=E2) (nt:=30) (res:=[.tmp 6]) Tryz.func35 rfl rfl rfl rfl rfl fun tm hargs=>?_
 have h0:=hargs 0 _ rfl
 have h1:=hargs 1 _ rfl
 have h2:=hargs 2 _ rfl
 clear hargs
 have fin:∀ (e:Bool) (A:ab) (H3:Hp),slot A.tm 6=.one (.b e)→A.dfr=[]→Gr H H3→e=dp g own→∃ w H4,ao E2 [.tmp 6] (.ret,A,H3)=.ok [(w,H4)]∧Gr H H4∧∀ _:List Nat,w=.one (.b (dp g own)):=fun e A H3 h1 h2 h3 h4=>⟨_,H3,ak (.b e) (.inr rfl) h2 h1,h3,fun _=>by rw[h4]⟩
 generalize hr0:dp g own=r0 at fin
 have l2:=hv.lt
 replace hr0:Hd _:=hr0
 replace hn:Hd _:=hn
 refine zW tyF ?_
 refine zG (qA tyF xJ) fun K hK=>?_
 refine WE.con (mA H v gs tot hv hL) fun w2 H2 g2 hq2=>?_
 subst hq2
 rw[hi]
 have hv2:=hv.gr g2
 have hlt:=(List.getElem?_eq_some_iff.1 hg).1
 obtain ⟨id,gn,off,cells,rfl,hid,hgr,hat⟩:=hv2.open (by omega)
 obtain ⟨u,hx⟩:=hat i g hg
 have y1:=hx.all
 have y2:=hx.le
 have hu:=hx.of
 have hBg:=hB g (List.mem_of_getElem? hg)
 clear hx hat hi hg
 obtain ⟨gname,gl,go⟩:=g
 have y1:(cells.drop (off+i*3)).take 3=[.o (.str gname),.o (.str gl),u]:=y1
 have hu:SlS H2 u go:=hu
 have hBg:go.length≤4611686018427387904:=hBg
 refine zS (qA tyF (ixC hlt)) ?_
 refine hK.out _ _ ?_
 refine R1.gen (fun A4 H4=>Gr H2 H4∧H2.nx<H4.nx∧H4.get H2.nx=some (.arr [.o (.str gname),.o (.str gl),u] 104 0 0)∧slot A4.tm 1=.one ((.o (.str own)))∧slot A4.tm 2=.one ((.o (.str tot)))∧slot A4.tm 7=.one ((.o (.ptr H2.nx 0 0 3)))∧A4.nt=30∧A4.dfr=[])
  ⟨((Fr.refl _).new _).mod _ (.inl (Nat.le_refl _)),Nat.lt_succ_self _,ai rfl,zL⟩ ?_
 clear h0 h1 h2 tm hK K l2 y1 y2 hgr hid hlt
 rintro A H4 ⟨g4,mM,rM,t1,t2,t7,hnt,hdf⟩
 obtain ⟨M,hM⟩:∃ M,M=H2.nx:=⟨_,rfl⟩
 rw[←hM] at mM rM t7
 clear hM
 have hu4:=hu.gr g4
 have l1:=hu4.len
 have l2:=hu4.lt
 have g24:=g2.gr g4
 by_cases q:go=[]
 ·have hn2:(gname==own)=r0:=by rw[←hr0.out];exact (if_pos (by exact q)).symm
  have hgt:gname=tot:=hn.out
  subst q
  have e0:(((([]:List (List UInt8)).length:Nat):Int)==0)=true:=rfl
  by_cases q1:own=tot
  ·have hn3:true=r0:=by rw[←hn2,hgt,q1];exact (beq_self_eq_true tot).symm
   subst q1
   have es2:lEq own own=true:=(bU own own).trans (beq_self_eq_true own)
   replace hn3:Hd _:=hn3
   clear hr0 hn hn2 hgt
   refine zW tyF ?_
   exact fin (true) _ _ qp qe (g24) (hn3.out)
  ·have hn3:false=r0:=by rw[←hn2,hgt];exact (beq_false_of_ne fun h=>q1 h.symm).symm
   have es2:lEq own tot=false:=by rw[bU];exact beq_false_of_ne q1
   replace hn3:Hd _:=hn3
   clear hr0 hn hn2 q1 hgt
   refine zG (qA tyF Kg) fun K hK=>?_
   refine WE.con (FH H4 u [] own hu4 (Nat.zero_le _)) fun w5 H5 g5 hq5=>?_
   subst hq5
   have e7:gY 0 [] own=-1:=rfl
   rw[e7]
   refine zK tyF ?_
   exact fin (false) _ _ qp qe (g24.gr g5) (hn3.out)
 ·have hn2:decide (0≤gY 0 go own)=r0:=by rw[←hr0.out,tW];exact (if_neg (by exact q)).symm
  have e0:((go.length:Int)==0)=false:=beq_false_of_ne fun h=>q (List.eq_nil_of_length_eq_zero (by omega))
  replace hn2:Hd _:=hn2
  clear hr0 hn q
  refine zG (qA tyF Kg) fun K hK=>?_
  refine WE.con (FH H4 u go own hu4 hBg) fun w5 H5 g5 hq5=>?_
  subst hq5
  refine zK tyF ?_
  exact fin (decide (0≤gY 0 go own)) _ _ qp qe (g24.gr g5) (hn2.out)
end Go.Proofs.YtnhbkodnmkojpaaGreat
namespace Go.Proofs.YtnhbkodnmkojpaaGreat
open Go Go.Eng
def fR (gs:List Gd) (s:List UInt8):Gd:=(gs[(cY 0 gs s).toNat]?).getD ([],[],[])
def cy (gs:List Gd):Nat→List Cs→List (Cl×Int)→List (Cl×Int)×Int
 | _,[],acc=>(acc,0)
 | i,c::cs,acc=>
  if c.kind=4∨c.good=[] then cy gs (i+1) cs acc else if cY 0 gs c.good<0 then ([],4) else if c.kind=1∧(fR gs c.good).2.2≠[] then ([],52) else if acc.length=64 then ([],3) else
  cy gs (i+1) cs (acc++[(((i:Int),c.good,(fR gs c.good).2.1,c.num),c.kind)])
def dh (key:List UInt8×Int):Nat→Nat→List (Cl×Int)→Nat
 | _,a,[]=>a
 | n,a,x::l=>dh key (n+1) (if x.1.2.1=key.1∧x.2=key.2 then n+1 else a) l
def ck (g:Gd) (fr:Nat):Nat→List (Cl×Int)→List Int
 | _,[]=>[]
 | n,x::l=>if fr≤n∧x.2=1∧dp g x.1.2.1=true then (n:Int)::ck g fr (n+1) l else ck g fr (n+1) l
def im (gs:List Gd) (pre:List (Cl×Int)) (x:Cl×Int):List Rl:=if x.2=1 then [] else [((pre.length:Int),ck (fR gs x.1.2.1) (dh (x.1.2.1,x.2) 0 0 pre) 0 pre)]
def eK (gs:List Gd):List (Cl×Int)→List (Cl×Int)→List Rl
 | _,[]=>[]
 | pre,x::l=>im gs pre x++eK gs (pre++[x]) l
def bx:Nat→List (Cl×Int)→List Int
 | _,[]=>[]
 | n,x::l=>if x.2=1 then (n:Int)::bx (n+1) l else bx (n+1) l
noncomputable def gV (o:Option (List Lad)) (gs:List Gd) (t:Tb):Int:=if jy o gs≠0 then jy o gs else if ir t≠0 then ir t else (cy gs 0 t.2 []).2
noncomputable def qk (o:Option (List Lad)) (gs:List Gd) (t:Tb):List (Cl×Int):=if gV o gs t=0 then (cy gs 0 t.2 []).1 else []
noncomputable def iO (o:Option (List Lad)) (gs:List Gd) (t:Tb):Pz:=((qk o gs t).map Prod.fst,eK gs [] (qk o gs t))
theorem Ep {o:Option (List Lad)} {gs:List Gd} (h:jy o gs=0):gs.length≤1000000:=by
 cases o with
 | none=>cases h
 | some ls=>
  have h':(if (32:Int)<gs.length then 3 else goG ls [] gs)=0:=h
  by_cases c:(32:Int)<gs.length
  ·rw[if_pos c] at h';cases h'
  ·omega
theorem oc (gs:List Gd):∀ (l pre:List (Cl×Int)) (x:Cl×Int),eK gs pre (l++[x])=eK gs pre l++im gs (pre++l) x
 | [],pre,x=>by
  show im gs pre x++[]=[]++im gs (pre++[]) x
  rw[List.append_nil,List.append_nil,List.nil_append]
 | y::l,pre,x=>by
  show im gs pre y++eK gs (pre++[y]) (l++[x])=(im gs pre y++eK gs (pre++[y]) l)++im gs (pre++y::l) x
  rw[oc gs l (pre++[y]) x,List.append_assoc,List.append_assoc];rfl
theorem zO:∀ (n:Nat) (l:List (Cl×Int)) (x:Cl×Int),bx n (l++[x])=bx n l++(if x.2=1 then [((n+l.length:Nat):Int)] else [])
 | n,[],x=>by
  show (if x.2=1 then (n:Int)::[] else [])=_
  split <;> rfl
 | n,y::l,x=>by
  have e:n+1+l.length=n+(l.length+1):=by omega
  show (if y.2=1 then (n:Int)::bx (n+1) (l++[x]) else bx (n+1) (l++[x]))=(if y.2=1 then (n:Int)::bx (n+1) l else bx (n+1) l)++_
  rw[zO (n+1) l x,List.length_cons,e]
  split <;> rfl
theorem jT (key:List UInt8×Int):∀ (n a:Nat) (l:List (Cl×Int)) (x:Cl×Int),dh key n a (l++[x])=if x.1.2.1=key.1∧x.2=key.2 then n+l.length+1 else dh key n a l
 | n,a,[],x=>by
  show (if x.1.2.1=key.1∧x.2=key.2 then n+1 else a)=_
  rfl
 | n,a,y::l,x=>by
  show dh key (n+1) _ (l++[x])=_
  rw[jT key (n+1) _ l x,List.length_cons]
  have e:n+1+l.length+1=n+(l.length+1)+1:=by omega
  rw[e];rfl
theorem sU {gs:List Gd} {s:List UInt8} (h:0≤cY 0 gs s):∃ i:Nat,cY 0 gs s=(i:Int)∧gs[i]?=some (fR gs s)∧(fR gs s).1=s:=by
 rcases ic 0 gs s with h1|⟨k,y,h1,h2⟩
 ·omega
 ·refine ⟨k,by rw[h2,Nat.zero_add],?_,?_⟩
  ·unfold fR
   rw[h2,Nat.zero_add,Int.toNat_natCast,h1];rfl
  ·unfold fR
   rw[h2,Nat.zero_add,Int.toNat_natCast,h1]
   show y.1=s
   exact idxG_name 0 gs s k y h1 h2
where
 idxG_name:∀ (n:Nat) (l:List Gd) (s:List UInt8) (k:Nat) (y:Gd),l[k]?=some y→cY n l s=((n+k:Nat):Int)→y.1=s
  | _,[],_,_,_,h,_=>by cases h
  | n,x::l,s,0,y,h,h2=>by
   cases h
   unfold cY at h2
   by_cases hx:x.1=s
   ·exact hx
   ·rw[if_neg hx] at h2
    rcases ic (n+1) l s with h3|⟨k,y,_,h3⟩
    ·rw[h3] at h2;omega
    ·rw[h3] at h2;omega
  | n,x::l,s,k+1,y,h,h2=>by
   unfold cY at h2
   by_cases hx:x.1=s
   ·rw[if_pos hx] at h2;omega
   ·rw[if_neg hx] at h2
    exact idxG_name (n+1) l s k y (by simpa using h) (by rw[h2];omega)
end Go.Proofs.YtnhbkodnmkojpaaGreat
