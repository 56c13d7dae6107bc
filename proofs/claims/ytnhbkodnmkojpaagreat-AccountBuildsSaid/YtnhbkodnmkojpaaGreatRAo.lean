/- A part of the proof: BkAll, BkTb1, BkTb2, BkTb3, BkTb4, BkTb5, BkTb6, BkTb7, BkTb8, BkTb9. No conditions. -/
import Derived.Test.YtnhbkodnmkojpaaGreatRAn
set_option maxRecDepth 100000
set_option maxHeartbeats 64000000
set_option linter.unusedVariables false
set_option linter.unusedSimpArgs false
noncomputable section
namespace Go.Proofs.YtnhbkodnmkojpaaGreat
open Go Go.Eng
theorem tyF:type_of% (qA ad (qA aO (qA Ts (qA PC (qA sk (qA QY (qA bV (qA vQ (qA oV (qA Qz (qA jx (qA Ni (qA MU (qA Lw (qA pI (qA eB (qA pJ (qA Hs (qA qh (qA nD (qA lA (qA Nh (qA bQ (qA cx (qA KE (qA Ae (qA zk (qA cC (qA HL (qA Fg (qA gW (qA dP (qA FV (qA ca (qA fW (qA dX (qA PA (qA fq (qA cF (qA px (qA qI (qA rz (qA jH (qA uq (qA Nb (qA fa (qA iD (qA MJ (qA sC (qA Kf (qA JZ (qA Bx (qA xd (qA CY (qA Uk (qA oX (qA Sw (qA Se (qA TU (qA vM (qA wV (qA CK (qA DZ (qA Ei (qA Im (qA lY (qA Le (qA Nc (qA Ci (qA LY (qA kN (qA gI (qA sG (qA si (qA Cw (qA Ad (qA ss (qA yE (qA xY (qA uh (qA Df (qA Ld (qA fv (qA uv (qA MX (qA wj (qA xA (qA EL (qA pU (qA Gt (qA Eb (qA ME (qA MG (qA tZ (qA Lq (qA zw (qA yo (qA Ck (qA yI (qA AI (qA dB (qA KM (qA Mb (qA dK (qA dJ (qA MZ (qA nF (qA Dc (qA Dt (qA My (qA fH (qA cu (qA bX (qA LU (qA Bk (qA AZ (qA yp (qA DT (qA ER (qA Fy (qA bI (qA fu (qA Fi (qA DJ (qA Hn (qA xw (qA EJ (qA fz (qA vJ (qA uS (qA wT (qA wR (qA yr (qA yJ (qA Bo (qA om (qA jZ (qA yN (qA yR (qA AK (qA gS (qA gT (qA Bc (qA sT (qA sN (qA ng (qA Il (qA Hk (qA mZ (qA qM (qA DA (qA CJ (qA CA (qA uk (qA La (qA sJ (qA rN (qA nX (qA oh (qA KG (qA zB (qA yZ (qA zc (qA zg (qA mH (qA Fm (qA DM (qA lZ (qA qc (qA FH (qA Ns (qA MB (qA Cx (qA Nv (qA rZ (qA sb (qA LO (qA yF (qA AS (qA mD (qA CW (qA wO (qA PN (qA bm (qA cm (qA Co (qA rk (qA qb (qA bq (qA KT (qA Mx (qA cB (qA bM (qA tX (qA dh (qA pb (qA jO (qA Qh (qA eh (qA eU (qA gR (qA BZ (qA Es (qA HX (qA Hx (qA EX (qA FY (qA DB (qA Fk (qA DY (qA FJ (qA Bb (qA AT (qA yh (qA zM (qA zP (qA zj (qA KB (qA MQ (qA Nd (qA MP (qA Bv (qA zy (qA zY (qA MW (qA Bg (qA AA (qA AQ (qA DH (qA FL (qA Ej (qA Eg (qA HB (qA GZ (qA TL (qA RX (qA Ri (qA Um (qA FO (qA Iq (qA Ix (qA GJ (qA PJ (qA EG (qA Ft (qA FX (qA Gk (qA Sk (qA TA (qA Qf (qA TD (qA Dn (qA KZ (qA CG (qA NH (qA Ah (qA Aw (qA MC (qA AW (qA yB (qA Fe (qA HW (qA Ef (qA rj (qA EW (qA Ip (qA BJ (qA Ms (qA CB (qA Ln (qA zf (qA zJ (qA zo (qA zZ (qA zT (qA Bp (qA AH (qA NO (qA yD (qA zD (qA AD (qA Ao (qA Am (qA Ay (qA yY (qA Hu (qA FA (qA Ed (qA vA (qA EB (qA Fs (qA Jj (qA TI (qA RC (qA Sh (qA Eo (qA Gn (qA Ty (qA HQ (qA HI (qA JD (qA RN (qA Jl (qA QZ (qA Gb (qA DN (qA SZ (qA Hj (qA Gm (qA Li (qA Ml (qA KY (qA fw (qA Mf (qA Mo (qA EN (qA ES (qA GY (qA EF (qA uW (qA uI (qA Hr (qA vR (qA wU (qA RJ (qA Qb (qA PG (qA QQ (qA SB (qA JI (qA Uj (qA HF (qA Ij (qA He (qA Fv (qA va (qA wW (qA vV (qA Fo (qA vL (qA wX (qA xa (qA KS (qA KC (qA KX (qA Mi (qA LC LN))))))))))))))))))))))))))))))))))))))))))))))))))))))))))))))))))))))))))))))))))))))))))))))))))))))))))))))))))))))))))))))))))))))))))))))))))))))))))))))))))))))))))))))))))))))))))))))))))))))))))))))))))))))))))))))))))))))))))))))))))))))))))))))))))))))))))))))))))))))))))))))))))))))))))))))))))))))))))))))))))))))))))))))))))))))))))):=qA ad (qA aO (qA Ts (qA PC (qA sk (qA QY (qA bV (qA vQ (qA oV (qA Qz (qA jx (qA Ni (qA MU (qA Lw (qA pI (qA eB (qA pJ (qA Hs (qA qh (qA nD (qA lA (qA Nh (qA bQ (qA cx (qA KE (qA Ae (qA zk (qA cC (qA HL (qA Fg (qA gW (qA dP (qA FV (qA ca (qA fW (qA dX (qA PA (qA fq (qA cF (qA px (qA qI (qA rz (qA jH (qA uq (qA Nb (qA fa (qA iD (qA MJ (qA sC (qA Kf (qA JZ (qA Bx (qA xd (qA CY (qA Uk (qA oX (qA Sw (qA Se (qA TU (qA vM (qA wV (qA CK (qA DZ (qA Ei (qA Im (qA lY (qA Le (qA Nc (qA Ci (qA LY (qA kN (qA gI (qA sG (qA si (qA Cw (qA Ad (qA ss (qA yE (qA xY (qA uh (qA Df (qA Ld (qA fv (qA uv (qA MX (qA wj (qA xA (qA EL (qA pU (qA Gt (qA Eb (qA ME (qA MG (qA tZ (qA Lq (qA zw (qA yo (qA Ck (qA yI (qA AI (qA dB (qA KM (qA Mb (qA dK (qA dJ (qA MZ (qA nF (qA Dc (qA Dt (qA My (qA fH (qA cu (qA bX (qA LU (qA Bk (qA AZ (qA yp (qA DT (qA ER (qA Fy (qA bI (qA fu (qA Fi (qA DJ (qA Hn (qA xw (qA EJ (qA fz (qA vJ (qA uS (qA wT (qA wR (qA yr (qA yJ (qA Bo (qA om (qA jZ (qA yN (qA yR (qA AK (qA gS (qA gT (qA Bc (qA sT (qA sN (qA ng (qA Il (qA Hk (qA mZ (qA qM (qA DA (qA CJ (qA CA (qA uk (qA La (qA sJ (qA rN (qA nX (qA oh (qA KG (qA zB (qA yZ (qA zc (qA zg (qA mH (qA Fm (qA DM (qA lZ (qA qc (qA FH (qA Ns (qA MB (qA Cx (qA Nv (qA rZ (qA sb (qA LO (qA yF (qA AS (qA mD (qA CW (qA wO (qA PN (qA bm (qA cm (qA Co (qA rk (qA qb (qA bq (qA KT (qA Mx (qA cB (qA bM (qA tX (qA dh (qA pb (qA jO (qA Qh (qA eh (qA eU (qA gR (qA BZ (qA Es (qA HX (qA Hx (qA EX (qA FY (qA DB (qA Fk (qA DY (qA FJ (qA Bb (qA AT (qA yh (qA zM (qA zP (qA zj (qA KB (qA MQ (qA Nd (qA MP (qA Bv (qA zy (qA zY (qA MW (qA Bg (qA AA (qA AQ (qA DH (qA FL (qA Ej (qA Eg (qA HB (qA GZ (qA TL (qA RX (qA Ri (qA Um (qA FO (qA Iq (qA Ix (qA GJ (qA PJ (qA EG (qA Ft (qA FX (qA Gk (qA Sk (qA TA (qA Qf (qA TD (qA Dn (qA KZ (qA CG (qA NH (qA Ah (qA Aw (qA MC (qA AW (qA yB (qA Fe (qA HW (qA Ef (qA rj (qA EW (qA Ip (qA BJ (qA Ms (qA CB (qA Ln (qA zf (qA zJ (qA zo (qA zZ (qA zT (qA Bp (qA AH (qA NO (qA yD (qA zD (qA AD (qA Ao (qA Am (qA Ay (qA yY (qA Hu (qA FA (qA Ed (qA vA (qA EB (qA Fs (qA Jj (qA TI (qA RC (qA Sh (qA Eo (qA Gn (qA Ty (qA HQ (qA HI (qA JD (qA RN (qA Jl (qA QZ (qA Gb (qA DN (qA SZ (qA Hj (qA Gm (qA Li (qA Ml (qA KY (qA fw (qA Mf (qA Mo (qA EN (qA ES (qA GY (qA EF (qA uW (qA uI (qA Hr (qA vR (qA wU (qA RJ (qA Qb (qA PG (qA QQ (qA SB (qA JI (qA Uj (qA HF (qA Ij (qA He (qA Fv (qA va (qA wW (qA vV (qA Fo (qA vL (qA wX (qA xa (qA KS (qA KC (qA KX (qA Mi (qA LC LN))))))))))))))))))))))))))))))))))))))))))))))))))))))))))))))))))))))))))))))))))))))))))))))))))))))))))))))))))))))))))))))))))))))))))))))))))))))))))))))))))))))))))))))))))))))))))))))))))))))))))))))))))))))))))))))))))))))))))))))))))))))))))))))))))))))))))))))))))))))))))))))))))))))))))))))))))))))))))))))))))))))))))))))))))))))))))
structure Cs where
 face:Int
 col:Int
 line:Int
 kind:Int
 num:Nm
 good:List UInt8
 ws:List Pr
def CsR (H:Hp) (c:List AC) (x:Cs):Prop:=∃ p q w,c=[.i .i64 x.face,.i .i64 x.col,.i .i64 x.line,.i .i64 x.kind,p,q,.o (.str x.good),w]∧aM H p x.num.1∧aM H q x.num.2∧SlP H w x.ws
theorem CsR.gr {H H':Hp} {c:List AC} {x:Cs} (h:CsR H c x) (hg:Gr H H'):CsR H' c x:=let ⟨p,q,w,h1,h2,h3,h4⟩:=h;⟨p,q,w,h1,h2.gr hg,h3.gr hg,h4.gr hg⟩
theorem Dd {a b d e:Int} {s:List UInt8} {p q w:AC}:ju [.i .i64 a,.i .i64 b,.i .i64 d,.i .i64 e,p,q,.o (.str s),w]=(AV.one p).ids++((AV.one q).ids++(AV.one w).ids):=by
 simp only[sy,vb,TG,NC,List.nil_append,List.append_nil]
theorem CQ:FrR CsR:=fun Y H H' c x ⟨p,q,w,h1,h2,h3,h4⟩ hf hi=>by
 subst h1;rw[Dd] at hi;exact ⟨p,q,w,rfl,SlC.fr h2 hf fun i h=>hi i (List.mem_append_left _ h),SlC.fr h3 hf fun i h=>hi i (List.mem_append_right _ (List.mem_append_left _ h)),SlC.fr h4 hf fun i h=>hi i (List.mem_append_right _ (List.mem_append_right _ h))⟩
theorem CE:LtR CsR:=fun H c x ⟨p,q,w,h1,h2,h3,h4⟩ i hi=>by
 subst h1;rw[Dd] at hi;rcases List.mem_append.1 hi with h|h
 ·exact h2.lt i h
 rcases List.mem_append.1 h with h|h
 ·exact h3.lt i h
 exact h4.lt i h
def dI (H:Hp) (v:AC) (l:List Cs):Prop:=SlR CsR 8 H v l
theorem dI.gr {H H':Hp} {v:AC} {l:List Cs} (h:dI H v l) (hg:Gr H H'):dI H' v l:=SlR.dY h hg.nx (fun i hi=>hg.get i hi zB2) fun _ _ h=>h.gr hg
theorem dI.len {H:Hp} {v:AC} {l:List Cs} (h:dI H v l):cQ H 1 (.one v)=.val (.one (.i .i64 (l.length:Int))) H:=SlR.len h
theorem dI.lt {H:Hp} {v:AC} {l:List Cs} (h:dI H v l):ltV (.one v) H.nx:=SlR.lt h
structure CsAt (H:Hp) (cells:List AC) (o:Nat) (x:Cs) (p q w:AC):Prop where
 of1:aM H p x.num.1
 of2:aM H q x.num.2
 of3:SlP H w x.ws
 all:(cells.drop o).take 8=[.i .i64 x.face,.i .i64 x.col,.i .i64 x.line,.i .i64 x.kind,p,q,.o (.str x.good),w]
 le:o+8≤cells.length
 f0:(cells.drop o).headD (.b false)=.i .i64 x.face
 f1:(cells.drop (o+1)).headD (.b false)=.i .i64 x.col
 f2:(cells.drop (o+2)).headD (.b false)=.i .i64 x.line
 f3:(cells.drop (o+3)).headD (.b false)=.i .i64 x.kind
 f4:(cells.drop (o+4)).take 2=[p,q]
 f6:(cells.drop (o+6)).headD (.b false)=.o (.str x.good)
 f7:(cells.drop (o+7)).headD (.b false)=w
theorem Yu {cells:List AC} {o:Nat} {a b c d e f g h:AC} (hh:(cells.drop o).take 8=[a,b,c,d,e,f,g,h]):(cells.drop o).headD (.b false)=a∧(cells.drop (o+1)).headD (.b false)=b∧(cells.drop (o+2)).headD (.b false)=c∧(cells.drop (o+3)).headD (.b false)=d∧(cells.drop (o+4)).take 2=[e,f]∧(cells.drop (o+6)).headD (.b false)=g∧(cells.drop (o+7)).headD (.b false)=h:=by
 rw[←List.drop_drop,←List.drop_drop,←List.drop_drop,←List.drop_drop,←List.drop_drop,←List.drop_drop];match hd:cells.drop o,hh with
 | x0::x1::x2::x3::x4::x5::x6::x7::r,hh=>
  simp only[List.take_succ_cons,List.take_zero,List.cons.injEq,and_true] at hh;obtain ⟨rfl,rfl,rfl,rfl,rfl,rfl,rfl,rfl⟩:=hh;exact ⟨rfl,rfl,rfl,rfl,rfl,rfl,rfl⟩
theorem dI.open {H:Hp} {v:AC} {l:List Cs} (h:dI H v l) (hn:0<l.length):∃ id g off cells,v=.o (.sl id g off l.length 8)∧id<H.nx∧rowOf (H.get id) g=some cells∧∀ (i:Nat) (x:Cs),l[i]?=some x→∃ p q w,CsAt H cells (off+i*8) x p q w:=by
 obtain ⟨id,g,off,cells,h1,h2,h3,h4⟩:=SlR.open h hn;refine ⟨id,g,off,cells,h1,h2,h3,fun i x hx=>?_⟩;obtain ⟨h5,c,h6,h7,p,q,w,rfl,h8,h9,h10⟩:=h4 i x hx;obtain ⟨d0,d1,d2,d3,d4,d6,d7⟩:=Yu h6;exact ⟨p,q,w,h8,h9,h10,h6,h5,d0,d1,d2,d3,d4,d6,d7⟩
abbrev Tb:=List UInt8×List Cs
structure TbB (l:List Cs):Prop where
 c:l.length*120≤140737488355328
 n:∀ x∈l,x.num.1.length*32≤140737488355328∧x.num.2.length*32≤140737488355328
 w:∀ x∈l,x.ws.length*24≤140737488355328
theorem TbB.take {l:List Cs} (h:TbB l) (i:Nat):TbB (l.take i):=
 ⟨by have:=h.c;rw[List.length_take];omega,fun x hx=>h.n x (List.mem_of_mem_take hx),fun x hx=>h.w x (List.mem_of_mem_take hx)⟩
theorem TbB.drop {l:List Cs} (h:TbB l) (i:Nat):TbB (l.drop i):=
 ⟨by have:=h.c;rw[List.length_drop];omega,fun x hx=>h.n x (List.mem_of_mem_drop hx),fun x hx=>h.w x (List.mem_of_mem_drop hx)⟩
theorem cE {E:Env} {res:List ResultVar} {l:List (Bool×List AC)} {A:ab} {H H2:Hp} {e:aA} (he:e=.normal∨e=.ret) (hd:closeAll H A.dfr=some H2) (h:bk E.P res A.tm H2=some l):an E res (e,A,H)=.ok [(du l,H2)]:=by
 have key:(az (closeAll H A.dfr) (R.bad "marks") fun h2=>az (bk E.P res A.tm h2) (.bad "results") fun l=>.ok [(du l,h2)])=.ok [(du l,H2)]:=by
  rw[hd];show az (bk E.P res A.tm H2) (R.bad "results") (fun l=>R.ok [(du l,H2)])=_
  rw[h];rfl
 rcases he with rfl|rfl
 ·exact key
 exact key
theorem Jn {P:Program} {tm:PT AV} {H:Hp}:bk P [] tm H=some []:=rfl
theorem Cd {P:Program} {A:ab} {H:Hp} {t:Tmp} {c:AC} {rest:List ResultVar} {l:List (Bool×List AC)} (hs:slot A.tm t=.one c) (h:bk P rest A.tm H=some l):bk P (.tmp t::rest) A.tm H=some ((false,[c])::l):=by
 show az (az (A.tm.get t) none fO) none (fun x=>az (bk P rest A.tm H) none fun l=>some (x::l))=_;rw[tJ hs,h];rfl
theorem uz {P:Program} {A:ab} {H:Hp} {s:Tmp} {t:TypeId} {n id g lim:Nat} {cells:List AC} {rest:List ResultVar} {l:List (Bool×List AC)} (ht:loadT P t=some (true,n)) (hs:slot A.tm s=.one (.o (.ptr id g 0 lim))) (hg:rowOf (H.get id) g=some cells) (hl:n≤lim) (ho:cells.length=n)
  (h:bk P rest A.tm H=some l):bk P (.cell s t::rest) A.tm H=some ((true,cells)::l):=by
 have e1:iY P (.cell s t) A.tm H=some (true,cells):=by
  have e0:iY P (.cell s t)=match loadT P t with
    | some p=>fun tm h=>az (tm.get s) none fun v=>ae.rec (motive:=fun _=>Option (Bool×List AC)) (fun v _=>fO v) (fun _=>none) (fun _ _=>none) (fun _ _=>none) (fun _=>none) (cd h p.1 p.2 v)
    | none=>fun _ _=>none:=rfl
  rw[e0,ht];show az (A.tm.get s) none (fun v=>ae.rec (motive:=fun _=>Option (Bool×List AC)) (fun v _=>fO v) (fun _=>none) (fun _ _=>none) (fun _ _=>none) (fun _=>none) (cd H true n v))=_;rw[tJ hs];show ae.rec (motive:=fun _=>Option (Bool×List AC)) (fun v _=>fO v) (fun _=>none) (fun _ _=>none) (fun _ _=>none) (fun _=>none) (cd H true n (.one (.o (.ptr id g 0 lim))))=_;rw[fE,hg,qx hl (by omega),List.drop_zero,List.take_of_length_le (by omega)];rfl
 show az (iY P (.cell s t) A.tm H) none (fun x=>az (bk P rest A.tm H) none fun l=>some (x::l))=_;rw[e1,h];rfl
theorem TS {c:List AC} {e:TypeId}:rowOf (some (.arr c e 0 0)) 0=some c:=bF (zA1 _) (zA1 _)
def jc (x:Pr):Bool:=if x.2=1∨x.2=2∨x.2=3 then nmB x.1 else if x.2=4∨x.2=5 then lEq x.1 [] else false
def JO (acc:List Pr):Bool:=acc.getLast?.any fun y=>y.2==5
def goW:List Pr→List Pr→Int
 | _,[]=>0
 | acc,x::l=>if jc x=false then 42 else if x.2=5∧JO acc=true then 42 else goW (acc++[x]) l
def ig (l:List Pr):Int:=if (16:Int)<l.length then 42 else goW [] l
theorem MD:∀ (acc l:List Pr),goW acc l=0∨goW acc l=42
 | _,[]=>.inl rfl
 | acc,x::l=>by
  unfold goW;split
  ·exact .inr rfl
  split
  ·exact .inr rfl
  exact MD _ l
theorem vT (l:List Pr):ig l=0∨ig l=42:=by
 unfold ig;split
 ·exact .inr rfl
 exact MD _ _
def fZ (c:Cs):Bool:=
 if c.face<1∨6<c.face∨c.col<1∨12<c.col∨c.line<1∨99<c.line then false else
 if c.kind=4 then (decide (c.num.1.length=0)&&(decide (c.num.2.length=0)&&lEq c.good [])) else
 if c.kind=1∨c.kind=2∨c.kind=3 then (decide (dt c.num=0)&&(lEq c.good []||nmB c.good)) else false
def lH (a b:Cs):Bool:=if b.face=a.face then (if b.col=a.col then decide (a.line<b.line) else decide (a.col<b.col)) else decide (a.face<b.face)
def fI (acc:List Cs) (c:Cs):Int:=
 if fZ c=false then 41 else if ig c.ws≠0 then 42 else if acc.getLast?.any (fun y=>!lH y c)=true then 43 else 0
def goT:List Cs→List Cs→Int
 | _,[]=>0
 | acc,c::l=>if fI acc c≠0 then fI acc c else goT (acc++[c]) l
def kC (t:Tb):Int:=if nmB t.1=false then 40 else if (256:Int)<t.2.length then 3 else goT [] t.2
theorem nv {v:AV} {a b:Nat} (h:ltV v a) (Y5:a≤b):ltV v b:=fun i hi=>zA0 (h i hi) Y5
theorem Bs {α:Type} {l:List α} {i:Nat} {y:α} (hi:0<i) (hy:l[i - 1]?=some y):(l.take i).getLast?=some y:=by
 have D0:=(List.getElem?_eq_some_iff.1 hy).1;rw[List.getLast?_eq_getElem?,List.length_take,Nat.min_eq_left (by omega),List.getElem?_take,zB0 (by omega)];exact hy
theorem iV:ak Tryz.prog 80=true:=by kernel_rfl
theorem rn:ak Tryz.prog 193=true:=by kernel_rfl
theorem IE:ak Tryz.prog 195=true:=by kernel_rfl
theorem Qe:ak Tryz.prog 178=true:=by kernel_rfl
theorem xJ (H:Hp) (s:List UInt8) (k:Int):Con E2 193 [.agg [.o (.str s),.i .i64 k]] H (fun _=>False) fun r _=>r=.one (.b (jc (s,k))):=by
 refine Con.of rfl fun lg=>?_;generalize (⟨H.t,H.nx,lg⟩:Hp)=H at ⊢;refine C1.body (E:=E2) (nt:=18) (res:=[.tmp 2]) Tryz.func193 rfl rfl rfl rfl rfl fun tm A0=>?_;have h0:=A0 0 _ rfl;clear A0;have fin:∀ (e:Bool) (A:ab) (H3:Hp),slot A.tm 2=.one (.b e)→A.dfr=[]→Gr H H3→e=jc (s,k)→∃ w H4,an E2 [.tmp 2] (.ret,A,H3)=.ok [(w,H4)]∧Gr H H4∧∀ _:List Nat,w=.one (.b (jc (s,k))):=fun e A H3 h1 h2 h3 h4=>⟨_,H3,ah (.b e) (.inr rfl) h2 h1,h3,fun _=>by rw[h4]⟩;generalize E0:jc (s,k)=r0 at fin;have c123:k=1∨k=2∨k=3→nmB s=r0:=fun h=>by rw[←E0];exact (zB0 h).symm
 have c45:k=4∨k=5→lEq s []=r0:=fun h=>by
  rw[←E0];unfold jc;rw[zB1 (by show ¬(k=1∨k=2∨k=3);omega),zB0 (by show k=4∨k=5;exact h)]
 have c0:¬(k=1∨k=2∨k=3)→¬(k=4∨k=5)→false=r0:=fun h h'=>by
  rw[←E0];unfold jc;rw[zB1 (by show ¬(k=1∨k=2∨k=3);exact h),zB1 (by show ¬(k=4∨k=5);exact h')]
 replace c123:Hd _:=c123;replace c45:Hd _:=c45;replace c0:Hd _:=c0;clear E0;refine zG tyF fun K hK=>?_;refine hK.out _ _ ?_;refine R1.gen (fun A1 H1=>Gr H H1∧H.nx<H1.nx∧H1.get H.nx=some (.arr [.o (.str s),.i .i64 k] 185 0 0)∧slot A1.tm 1=.one ((.o (.ptr H.nx 0 0 2)))∧A1.nt=18∧A1.dfr=[])
  ⟨(Fr.refl _).new _,zA6 _,aB rfl,zL⟩ ?_
 clear h0 tm hK K;rintro A1 H1 ⟨g1,m1,rx,t1,B0,C0⟩;obtain ⟨N,hN⟩:∃ N,N=H.nx:=⟨_,rfl⟩;rw[←hN] at m1 rx t1;clear hN;have name:Hd (∀ (A:ab) (h123:k=1∨k=2∨k=3),slot A.tm 1=.one ((.o (.ptr N 0 0 2)))∧A.nt=18∧A.dfr=[]→True):=fun _ _ _=>trivial;clear name;by_cases q1:k=1∨k=2∨k=3
 ·have hn:=c123.out q1;replace hn:Hd _:=hn;clear c123 c45 c0;rcases q1 with rfl|rfl|rfl <;>
  ·refine zW tyF ?_;refine R1.cy fun K2 p1 p2 p3 p4=>?_;refine zW tyF ?_;refine zG (qA tyF fM) fun K hK=>?_;refine WE.con (pf (X:=fun _=>False) s _) fun w H2 g2 hq=>?_;subst hq;refine zK tyF ?_;exact p4.out _ _ (fin (nmB s) _ _ qp qe (g1.gr g2) (hn.out))
 by_cases q2:k=4∨k=5
 ·have hn:=c45.out q2;replace hn:Hd _:=hn;clear c123 c45 c0 q1;rcases q2 with rfl|rfl <;>
  ·refine zW tyF ?_;refine R1.cy fun K2 p1 p2 p3 p4=>?_;refine zW tyF ?_;exact p4.out _ _ (fin (lEq s []) _ _ qp qe (g1) (hn.out))
 have hn:=c0.out q1 q2;have e1:(k==1)=false:=zB5 (by omega);have e2:(k==2)=false:=zB5 (by omega);have e3:(k==3)=false:=zB5 (by omega);have e4:(k==4)=false:=zB5 (by omega);have e5:(k==5)=false:=zB5 (by omega);replace hn:Hd _:=hn;clear c123 c45 c0 q1 q2;refine zW tyF ?_;refine R1.cy fun K2 p1 p2 p3 p4=>?_;refine zW tyF ?_;refine p1.out _ _ ?_;refine zW tyF ?_;exact fin (false) _ _ qp qe (g1) (hn.out)
theorem Hf (H:Hp) (s:List UInt8) (k:Int):Con E2 195 [.agg [.o (.str s),.i .i64 k]] H (fun _=>False) fun r _=>r=.one (.b (k==1||k==2)):=by
 refine Con.of rfl fun lg=>?_;generalize (⟨H.t,H.nx,lg⟩:Hp)=H at ⊢;refine C1.body (E:=E2) (nt:=11) (res:=[.tmp 2]) Tryz.func195 rfl rfl rfl rfl rfl fun tm A0=>?_;have h0:=A0 0 _ rfl;clear A0;have fin:∀ (e:Bool) (A:ab) (H3:Hp),slot A.tm 2=.one (.b e)→A.dfr=[]→Gr H H3→e=(k==1||k==2)→∃ w H4,an E2 [.tmp 2] (.ret,A,H3)=.ok [(w,H4)]∧Gr H H4∧∀ _:List Nat,w=.one (.b ((k==1||k==2))):=fun e A H3 h1 h2 h3 h4=>⟨_,H3,ah (.b e) (.inr rfl) h2 h1,h3,fun _=>by rw[h4]⟩;generalize E0:(k==1||k==2)=r0 at fin;cases e1:(k==1) <;>
 ·rw[e1] at E0;simp only[Bool.true_or,Bool.false_or] at E0;replace E0:Hd _:=E0;refine zW tyF ?_;exact fin _ _ _ qp qe (((Fr.refl _).new _)) E0.out
theorem Pw (H:Hp) (s:List UInt8) (k:Int):Con E2 178 [.agg [.o (.str s),.i .i64 k]] H (fun _=>False) fun r _=>r=.one (.b (jc (s,k))):=by
 refine Con.of rfl fun lg=>?_;generalize (⟨H.t,H.nx,lg⟩:Hp)=H at ⊢;refine C1.body (E:=E2) (nt:=26) (res:=[.tmp 2]) Tryz.func178 rfl rfl rfl rfl rfl fun tm A0=>?_;have h0:=A0 0 _ rfl;clear A0;have fin:∀ (e:Bool) (A:ab) (H3:Hp),slot A.tm 2=.one (.b e)→A.dfr=[]→Gr H H3→e=jc (s,k)→∃ w H4,an E2 [.tmp 2] (.ret,A,H3)=.ok [(w,H4)]∧Gr H H4∧∀ _:List Nat,w=.one (.b (jc (s,k))):=fun e A H3 h1 h2 h3 h4=>⟨_,H3,ah (.b e) (.inr rfl) h2 h1,h3,fun _=>by rw[h4]⟩;generalize E0:jc (s,k)=r0 at fin;refine zG tyF fun K hK=>?_;refine hK.out _ _ ?_;refine R1.gen (fun A1 H1=>Gr H H1∧H.nx<H1.nx∧H1.get H.nx=some (.arr [.o (.str s),.i .i64 k] 185 0 0)∧slot A1.tm 1=.one ((.o (.ptr H.nx 0 0 2)))∧A1.nt=26∧A1.dfr=[])
  ⟨(Fr.refl _).new _,zA6 _,aB rfl,zL⟩ ?_
 clear h0 tm hK K;rintro A1 H1 ⟨g1,m1,rx,t1,B0,C0⟩;obtain ⟨N,hN⟩:∃ N,N=H.nx:=⟨_,rfl⟩;rw[←hN] at m1 rx t1;clear hN;replace E0:Hd _:=E0;refine zG (qA tyF IE) fun K hK=>?_;refine WE.con (Hf H1 s k) fun w H2 g2 hq=>?_;subst hq;have rx:=(g2.get _ m1 zB2).trans rx;have m1:=zA0 m1 g2.nx;have g12:=g1.gr g2;clear g1 g2;by_cases q1:k=1∨k=2
 ·have e1:(k==1||k==2)=true:=by rcases q1 with rfl|rfl <;> rfl
  have hn:nmB s=r0:=by rw[←E0.out];exact (zB0 (by show k=1∨k=2∨k=3;omega)).symm
  replace hn:Hd _:=hn;clear E0 q1;refine zK tyF ?_;refine zG (qA tyF iV) fun K hK=>?_;refine WE.con (dT H2 s) fun w H3 g3 hq=>?_;subst hq;refine zK tyF ?_;exact fin (nmB s) _ _ qp qe (g12.gr g3) (hn.out)
 have e1:(k==1||k==2)=false:=by
  rw[Bool.or_eq_false_iff];exact ⟨zB5 (fun h=>q1 (.inl h)),zB5 (fun h=>q1 (.inr h))⟩
 rw[e1];clear e1;by_cases q2:k=3
 ·have hn:nmB s=r0:=by rw[←E0.out];exact (zB0 (by show k=1∨k=2∨k=3;omega)).symm
  subst q2;replace hn:Hd _:=hn;clear E0 q1;refine zK tyF ?_;refine zG (qA tyF iV) fun K hK=>?_;refine WE.con (dT H2 s) fun w H3 g3 hq=>?_;subst hq;refine zK tyF ?_;exact fin (nmB s) _ _ qp qe (g12.gr g3) (hn.out)
 have e3:(k==3)=false:=zB5 q2;by_cases q3:k=4∨k=5
 ·have hn:lEq s []=r0:=by
   rw[←E0.out];unfold jc;rw[zB1 (by show ¬(k=1∨k=2∨k=3);omega),zB0 (by show k=4∨k=5;exact q3)]
  replace hn:Hd _:=hn;clear E0 q1 q2;rcases q3 with rfl|rfl <;>
  ·refine zK tyF ?_;exact fin (lEq s []) _ _ qp qe (g12) (hn.out)
 have hn:false=r0:=by
  rw[←E0.out];unfold jc;rw[zB1 (by show ¬(k=1∨k=2∨k=3);omega),zB1 (by show ¬(k=4∨k=5);exact q3)]
 have e4:(k==4)=false:=zB5 (by omega);have e5:(k==5)=false:=zB5 (by omega);replace hn:Hd _:=hn;clear E0 q1 q2 q3;refine zK tyF ?_;exact fin (false) _ _ qp qe (g12) (hn.out)
theorem wa (H:Hp) (v:AC) (l:List Pr) (hv:SlP H v l) (hL:l.length≤4611686018427387904):Con E2 164 [.one v] H (fun _=>False) fun r _=>r=.one (.i .i64 (ig l)):=by
 refine Con.of rfl fun lg=>?_;have hv:SlP ⟨H.t,H.nx,lg⟩ v l:=hv;generalize (⟨H.t,H.nx,lg⟩:Hp)=H at hv ⊢;refine C1.body (E:=E2) (nt:=37) (res:=[.tmp 2]) Tryz.func164 rfl rfl rfl rfl rfl fun tm A0=>?_;have h0:=A0 0 _ rfl;clear A0;have fin:∀ (e:Int) (A:ab) (H3:Hp),slot A.tm 2=.one (.i .i64 e)→A.dfr=[]→Gr H H3→e=ig l→∃ w H4,an E2 [.tmp 2] (.ret,A,H3)=.ok [(w,H4)]∧Gr H H4∧∀ _:List Nat,w=.one (.i .i64 (ig l)):=fun e A H3 h1 h2 h3 h4=>⟨_,H3,ah (.i .i64 e) (.inr rfl) h2 h1,h3,fun _=>by rw[h4]⟩;generalize E0:ig l=r0 at fin;have l1:=hv.len;have l2:=hv.lt;by_cases q1:(16:Int)<l.length
 ·have hn:42=r0:=by rw[←E0];exact (zB0 q1).symm
  replace hn:Hd _:=hn;clear E0;refine zW tyF ?_;exact fin (42) _ _ qp qe (Fr.refl _) (hn.out)
 have hn:Hd (goW [] l=r0):=by rw[←E0];exact (zB1 q1).symm
 clear E0;refine zW tyF ?_;refine R1.cy fun K k1 k2 k3 k4=>?_;refine R1.loop (fun z A H3=>∃ i:Nat,z=l.length - i∧i≤l.length∧Gr H H3∧Hd (goW (l.take i) (l.drop i)=r0)∧slot A.tm 0=.one (v)∧slot A.tm 8=.one (v)∧slot A.tm 9=.one (.i .i64 (l.length:Int))∧slot A.tm 10=.one (.i .i64 (i:Int))∧A.nt=37∧A.dfr=[]) ?_ l.length
  ⟨0,rfl,Nat.zero_le _,Fr.refl _,hn,zL⟩
 clear h0 hn tm l1 l2 k3;rintro z A H3 ⟨i,rfl,hi,g3,hr,t0,t8,t9,t10,B0,C0⟩;have G5:=hv.gr g3;refine zW tyF ?_;refine zI tyF (fun hc=>?_) (fun hc=>?_)
 ·have D0:i<l.length:=by omega
  have ex:=zB4 D0;have Q0:=zC1 D0;have B1:=zC2 D0;have G0:l[i]∈l:=List.getElem_mem D0;generalize l[i]=x at ex Q0 B1 G0;have V0:=zC0 i (by omega);obtain ⟨id,g,off,cells,rfl,hid,P0,L0⟩:=G5.open (by omega);have K0:=L0 i x ex;obtain ⟨s,k⟩:=x;have y1:(cells.drop (off+i*2)).take 2=[.o (.str s),.i .i64 k]:=K0.all;have y2:=K0.le;have F0:=hr.out;rw[Q0,goW] at F0;clear K0 G0 Q0 hr;rw[B1.symm] at F0;replace F0:Hd _:=F0;refine zW tyF ?_;refine R1.cy fun K2 p1 p2 p3 p4=>?_;refine zG (qA tyF (ixC D0)) fun K3 l5=>?_;refine l5.out _ _ ?_;refine R1.gen (fun A4 H4=>Gr H3 H4∧H3.nx<H4.nx∧H4.get H3.nx=some (.arr [.o (.str s),.i .i64 k] 185 0 0)∧slot A4.tm 0=.one ((.o (.sl id g off l.length 2)))∧slot A4.tm 3=.one (.i .i64 (i:Int))∧slot A4.tm 4=.one ((.o (.ptr H3.nx 0 0 2)))∧slot A4.tm 8=.one ((.o (.sl id g off l.length 2)))∧slot A4.tm 9=.one (.i .i64 (l.length:Int))∧slot A4.tm 10=.one (.i .i64 (i:Int))∧A4.nt=37∧A4.dfr=[])
   ⟨((Fr.refl _).new _).mod _ (.inl (zA1 _)),zA6 _,al rfl,zL⟩ ?_
  clear t0 t8 t9 t10 B0 C0 A y1 y2 l5 K3;rintro A H4 ⟨g4,m1,rx,t0,t3,t4,t8,t9,t10,B0,C0⟩;obtain ⟨N,hN⟩:∃ N,N=H3.nx:=⟨_,rfl⟩;rw[←hN] at m1 rx t4;clear hN;have G6:rowOf (H4.get id) g=some cells:=by rw[g4.get _ hid zB2];exact P0
  have O2:id<H4.nx:=zA0 hid g4.nx;have g14:=g3.gr g4;clear P0 hid G5 g4 g3;refine zG (qA tyF rn) fun K3 l5=>?_;refine WE.con (xJ H4 s k) fun w H5 g5 hq=>?_;subst hq;have rx:=(g5.get _ m1 zB2).trans rx;have m1:=zA0 m1 g5.nx;have C8:rowOf (H5.get id) g=some cells:=by rw[g5.get _ O2 zB2];exact G6
  have M5:id<H5.nx:=zA0 O2 g5.nx;have g15:=g14.gr g5;clear G6 O2 g14 g5;cases e1:jc (s,k) with
  | false=>
   have hn:42=r0:=by rw[←F0.out];exact (zB0 e1).symm
   replace hn:Hd _:=hn;clear F0;refine zK (qA tyF rn) ?_;exact p4.out _ _ (k4.out _ _ (fin (42) _ _ qp qe (g15) (hn.out)))
  | true=>
   have J0:=F0.out;rw[zB1 (by rw[e1];decide)] at J0;replace J0:Hd _:=J0;clear F0;have go:Hd (∀ (A:ab),slot A.tm 0=.one ((.o (.sl id g off l.length 2)))∧slot A.tm 8=.one ((.o (.sl id g off l.length 2)))∧slot A.tm 9=.one (.i .i64 (l.length:Int))∧slot A.tm 10=.one (.i .i64 (i:Int))∧A.nt=37∧A.dfr=[]→goW (l.take (i+1)) (l.drop (i+1))=r0→K2 .normal A H5):=by
    clear t0 t3 t4 t8 t9 t10 B0 C0 l5 J0;rintro A ⟨t0,t8,t9,t10,B0,C0⟩ N2;replace N2:Hd _:=N2;refine p1.out _ _ ?_;refine zW tyF ?_;exact ⟨l.length - (i+1),by omega,i+1,rfl,D0,g15,N2,zL⟩
   by_cases q5:k=5
   ·subst q5;by_cases q0:0<i
    ·have I5:i - 1<l.length:=by omega
     have ey:l[i - 1]?=some l[i - 1]:=zB4 I5;have Y0:=L0 (i - 1) _ ey;have S8:JO (l.take i)=(l[i - 1].2==5):=by
      unfold JO;rw[Bs q0 ey];rfl
     generalize l[i - 1]=y at ey Y0 S8;have z1:(cells.drop (off+(i - 1)*2+1)).headD (.b false)=.i .i64 y.2:=Y0.snd;have z2:=Y0.le2;have R3:IntKind.i64.wrap ((i:Int) - 1)=((i - 1:Nat):Int):=by rw[ao (by omega) (by omega)];omega
     have e0:(0:Int)<(i:Int):=by omega
     clear Y0 L0 ex ey;cases e5:(y.2==5) with
     | true=>
      have hn:42=r0:=by rw[←J0.out];exact (zB0 ⟨rfl,S8.trans e5⟩).symm
      replace hn:Hd _:=hn;replace S8:Hd _:=S8;clear J0 go;refine zK (qA tyF (ixC I5)) ?_;exact p4.out _ _ (k4.out _ _ (fin (42) _ _ qp qe (g15) (hn.out)))
     | false=>
      have hn:goW (l.take (i+1)) (l.drop (i+1))=r0:=by rw[←J0.out];exact (zB1 (fun h=>by rw[S8,e5] at h;exact absurd h.2 (by decide))).symm
      replace hn:Hd _:=hn;replace S8:Hd _:=S8;clear J0;refine zK (qA tyF (ixC I5)) ?_;exact go.out _ zL hn.out
    have V2:i=0:=by omega
    subst V2;have hn:goW (l.take (0+1)) (l.drop (0+1))=r0:=by rw[←J0.out];exact (zB1 (fun h=>by have h2:JO (l.take 0)=true:=h.2;rw[List.take_zero] at h2;exact absurd h2 (by decide))).symm
    replace hn:Hd _:=hn;clear J0 L0 ex;refine zK tyF ?_;exact go.out _ zL hn.out
   have e5:(k==5)=false:=zB5 q5;have hn:goW (l.take (i+1)) (l.drop (i+1))=r0:=by rw[←J0.out];exact (zB1 (fun h=>q5 h.1)).symm
   replace hn:Hd _:=hn;clear J0 q5 L0 ex;refine zK tyF ?_;exact go.out _ zL hn.out
 have he:i=l.length:=by omega
 subst he;have hn:=hr.out;rw[List.drop_length,goW] at hn;replace hn:Hd _:=hn;clear hr;refine zW tyF ?_;refine k2.out _ _ ?_;refine zW tyF ?_;exact fin (0) _ _ qp qe (g3) (hn.out)
theorem tN (H:Hp) (v:AC) (l:List Pr) (hv:SlP H v l) (hL:l.length≤4611686018427387904):Con E2 143 [.one v] H (fun _=>False) fun r _=>r=.one (.i .i64 (ig l)):=by
 refine Con.of rfl fun lg=>?_;have hv:SlP ⟨H.t,H.nx,lg⟩ v l:=hv;generalize (⟨H.t,H.nx,lg⟩:Hp)=H at hv ⊢;refine C1.body (E:=E2) (nt:=40) (res:=[.tmp 2]) Tryz.func143 rfl rfl rfl rfl rfl fun tm A0=>?_;have h0:=A0 0 _ rfl;clear A0;have fin:∀ (e:Int) (A:ab) (H3:Hp),slot A.tm 2=.one (.i .i64 e)→A.dfr=[]→Gr H H3→e=ig l→∃ w H4,an E2 [.tmp 2] (.ret,A,H3)=.ok [(w,H4)]∧Gr H H4∧∀ _:List Nat,w=.one (.i .i64 (ig l)):=fun e A H3 h1 h2 h3 h4=>⟨_,H3,ah (.i .i64 e) (.inr rfl) h2 h1,h3,fun _=>by rw[h4]⟩;generalize E0:ig l=r0 at fin;have l1:=hv.len;have l2:=hv.lt;by_cases q1:(16:Int)<l.length
 ·have hn:42=r0:=by rw[←E0];exact (zB0 q1).symm
  replace hn:Hd _:=hn;clear E0;refine zW tyF ?_;exact fin (42) _ _ qp qe (Fr.refl _) (hn.out)
 have hn:Hd (goW [] l=r0):=by rw[←E0];exact (zB1 q1).symm
 clear E0;refine zW tyF ?_;refine R1.cy fun K k1 k2 k3 k4=>?_;refine R1.loop (fun z A H3=>∃ i:Nat,z=l.length - i∧i≤l.length∧Gr H H3∧Hd (goW (l.take i) (l.drop i)=r0)∧slot A.tm 0=.one (v)∧slot A.tm 3=.one (.i .i64 (i:Int))∧A.nt=40∧A.dfr=[]) ?_ l.length
  ⟨0,rfl,Nat.zero_le _,Fr.refl _,hn,zL⟩
 clear h0 hn tm l1 l2 k3;rintro z A H3 ⟨i,rfl,hi,g3,hr,t0,t3,B0,C0⟩;have G5:=hv.gr g3;have l1:=G5.len;have l2:=G5.lt;refine zW tyF ?_;refine zI tyF (fun hc=>?_) (fun hc=>?_)
 ·have D0:i<l.length:=by omega
  have ex:=zB4 D0;have Q0:=zC1 D0;have B1:=zC2 D0;have G0:l[i]∈l:=List.getElem_mem D0;generalize l[i]=x at ex Q0 B1 G0;have V0:=zC0 i (by omega);obtain ⟨id,g,off,cells,rfl,hid,P0,L0⟩:=G5.open (by omega);have K0:=L0 i x ex;obtain ⟨s,k⟩:=x;have y1:(cells.drop (off+i*2)).take 2=[.o (.str s),.i .i64 k]:=K0.all;have y2:=K0.le;have y3:(cells.drop (off+i*2+1)).headD (.b false)=.i .i64 k:=K0.snd;have y4:=K0.le2;have F0:=hr.out;rw[Q0,goW] at F0;clear K0 G0 Q0 hr;rw[B1.symm] at F0;replace F0:Hd _:=F0;clear B1;refine zW tyF ?_;refine R1.cy fun K2 p1 p2 p3 p4=>?_;refine zG (qA tyF (qA (ixC D0) Qe)) fun K3 l5=>?_;refine WE.con (Pw H3 s k) fun w H5 g5 hq=>?_;subst hq;have C8:rowOf (H5.get id) g=some cells:=by rw[g5.get _ hid zB2];exact P0
  have M5:id<H5.nx:=zA0 hid g5.nx;have g15:=g3.gr g5;clear P0 hid g5 G5 l1 l2 y1 y2;cases e1:jc (s,k) with
  | false=>
   have hn:42=r0:=by rw[←F0.out];exact (zB0 e1).symm
   replace hn:Hd _:=hn;clear F0;refine zK tyF ?_;exact p4.out _ _ (k4.out _ _ (fin (42) _ _ qp qe (g15) (hn.out)))
  | true=>
   have J0:=F0.out;rw[zB1 (by rw[e1];decide)] at J0;replace J0:Hd _:=J0;clear F0;have go:Hd (∀ (A:ab),slot A.tm 0=.one ((.o (.sl id g off l.length 2)))∧slot A.tm 3=.one (.i .i64 (i:Int))∧A.nt=40∧A.dfr=[]→goW (l.take (i+1)) (l.drop (i+1))=r0→K2 .normal A H5):=by
    clear t0 t3 B0 C0 l5 J0;rintro A ⟨t0,t3,B0,C0⟩ N2;replace N2:Hd _:=N2;refine p1.out _ _ ?_;refine zW tyF ?_;exact ⟨l.length - (i+1),by omega,i+1,rfl,D0,g15,N2,zL⟩
   by_cases q0:0<i
   ·have I5:i - 1<l.length:=by omega
    have ey:l[i - 1]?=some l[i - 1]:=zB4 I5;have Y0:=L0 (i - 1) _ ey;have S8:JO (l.take i)=(l[i - 1].2==5):=by
     unfold JO;rw[Bs q0 ey];rfl
    generalize l[i - 1]=y at ey Y0 S8;have z1:(cells.drop (off+(i - 1)*2+1)).headD (.b false)=.i .i64 y.2:=Y0.snd;have z2:=Y0.le2;have R3:IntKind.i64.wrap ((i:Int) - 1)=((i - 1:Nat):Int):=by rw[ao (by omega) (by omega)];omega
    have e0:(0:Int)<(i:Int):=by omega
    clear Y0 L0 ex ey;by_cases q5:k=5
    ·subst q5;cases e5:(y.2==5) with
     | true=>
      have hn:42=r0:=by rw[←J0.out];exact (zB0 ⟨rfl,S8.trans e5⟩).symm
      replace hn:Hd _:=hn;replace S8:Hd _:=S8;clear J0 go;refine zK (qA tyF (qA (ixC D0) (ixC I5))) ?_;exact p4.out _ _ (k4.out _ _ (fin (42) _ _ qp qe (g15) (hn.out)))
     | false=>
      have hn:goW (l.take (i+1)) (l.drop (i+1))=r0:=by rw[←J0.out];exact (zB1 (fun h=>by rw[S8,e5] at h;exact absurd h.2 (by decide))).symm
      replace hn:Hd _:=hn;replace S8:Hd _:=S8;clear J0;refine zK (qA tyF (qA (ixC D0) (ixC I5))) ?_;exact go.out _ zL hn.out
    have e5:(k==5)=false:=zB5 q5;have hn:goW (l.take (i+1)) (l.drop (i+1))=r0:=by rw[←J0.out];exact (zB1 (fun h=>q5 h.1)).symm
    replace hn:Hd _:=hn;clear J0 q5 S8;refine zK (qA tyF (ixC D0)) ?_;exact go.out _ zL hn.out
   have V2:i=0:=by omega
   subst V2;have hn:goW (l.take (0+1)) (l.drop (0+1))=r0:=by rw[←J0.out];exact (zB1 (fun h=>by have h2:JO (l.take 0)=true:=h.2;rw[List.take_zero] at h2;exact absurd h2 (by decide))).symm
   replace hn:Hd _:=hn;clear J0 L0 ex;refine zK tyF ?_;exact go.out _ zL hn.out
 have he:i=l.length:=by omega
 subst he;have hn:=hr.out;rw[List.drop_length,goW] at hn;replace hn:Hd _:=hn;clear hr;refine zW tyF ?_;refine k2.out _ _ ?_;refine zW tyF ?_;exact fin (0) _ _ qp qe (g3) (hn.out)
theorem xI (H:Hp) (f cl ln k:Int) (nm:Nm) (gd:List UInt8) (ws:List Pr) (p q w:AC) (hp:aM H p nm.1) (hq:aM H q nm.2) (hw:SlP H w ws):
  Con E2 163 [.agg [.i .i64 f,.i .i64 cl,.i .i64 ln,.i .i64 k,p,q,.o (.str gd),w]] H (fun _=>False) fun r _=>r=.one (.b (fZ ⟨f,cl,ln,k,nm,gd,ws⟩)):=by
 refine Con.of rfl fun lg=>?_;have hp:aM ⟨H.t,H.nx,lg⟩ p nm.1:=hp;have hq:aM ⟨H.t,H.nx,lg⟩ q nm.2:=hq;have hw:SlP ⟨H.t,H.nx,lg⟩ w ws:=hw;generalize (⟨H.t,H.nx,lg⟩:Hp)=H at hp hq hw ⊢;refine C1.body (E:=E2) (nt:=70) (res:=[.tmp 2]) Tryz.func163 rfl rfl rfl rfl rfl fun tm A0=>?_;have h0:=A0 0 _ rfl;clear A0;have fin:∀ (e:Bool) (A:ab) (H3:Hp),slot A.tm 2=.one (.b e)→A.dfr=[]→Gr H H3→e=fZ ⟨f,cl,ln,k,nm,gd,ws⟩→∃ w H4,an E2 [.tmp 2] (.ret,A,H3)=.ok [(w,H4)]∧Gr H H4∧∀ _:List Nat,w=.one (.b (fZ ⟨f,cl,ln,k,nm,gd,ws⟩)):=fun e A H3 h1 h2 h3 h4=>⟨_,H3,ah (.b e) (.inr rfl) h2 h1,h3,fun _=>by rw[h4]⟩;generalize E0:fZ ⟨f,cl,ln,k,nm,gd,ws⟩=r0 at fin;have lp:=hp.lt;have lq:=hq.lt;have lw:=hw.lt;refine zG tyF fun K hK=>?_;refine hK.out _ _ ?_;refine R1.gen (fun A1 H1=>Gr H H1∧H.nx<H1.nx∧H1.get H.nx=some (.arr [.i .i64 f,.i .i64 cl,.i .i64 ln,.i .i64 k,p,q,.o (.str gd),w] 69 0 0)∧slot A1.tm 1=.one ((.o (.ptr H.nx 0 0 8)))∧A1.nt=70∧A1.dfr=[])
  ⟨(Fr.refl _).new _,zA6 _,aB rfl,zL⟩ ?_
 clear h0 tm hK K lp lq lw;rintro A1 H1 ⟨g1,m1,rx,t1,B0,C0⟩;obtain ⟨N,hN⟩:∃ N,N=H.nx:=⟨_,rfl⟩;rw[←hN] at m1 rx t1;clear hN;have hp:=hp.gr g1;have hq:=hq.gr g1;have hw:=hw.gr g1;replace E0:Hd _:=E0;by_cases h1:f<1
 ·have hn:false=r0:=by
   rw[←E0.out];exact (zB0 (by show f<1∨6<f∨cl<1∨12<cl∨ln<1∨99<ln;omega)).symm
  replace hn:Hd _:=hn;clear E0;refine zW tyF ?_;exact fin (false) _ _ qp qe (g1) (hn.out)
 by_cases h2:6<f
 ·have hn:false=r0:=by
   rw[←E0.out];exact (zB0 (by show f<1∨6<f∨cl<1∨12<cl∨ln<1∨99<ln;omega)).symm
  replace hn:Hd _:=hn;clear E0;refine zW tyF ?_;exact fin (false) _ _ qp qe (g1) (hn.out)
 by_cases h3:cl<1
 ·have hn:false=r0:=by
   rw[←E0.out];exact (zB0 (by show f<1∨6<f∨cl<1∨12<cl∨ln<1∨99<ln;omega)).symm
  replace hn:Hd _:=hn;clear E0;refine zW tyF ?_;exact fin (false) _ _ qp qe (g1) (hn.out)
 by_cases h4:12<cl
 ·have hn:false=r0:=by
   rw[←E0.out];exact (zB0 (by show f<1∨6<f∨cl<1∨12<cl∨ln<1∨99<ln;omega)).symm
  replace hn:Hd _:=hn;clear E0;refine zW tyF ?_;exact fin (false) _ _ qp qe (g1) (hn.out)
 by_cases h5:ln<1
 ·have hn:false=r0:=by
   rw[←E0.out];exact (zB0 (by show f<1∨6<f∨cl<1∨12<cl∨ln<1∨99<ln;omega)).symm
  replace hn:Hd _:=hn;clear E0;refine zW tyF ?_;exact fin (false) _ _ qp qe (g1) (hn.out)
 by_cases h6:99<ln
 ·have hn:false=r0:=by
   rw[←E0.out];exact (zB0 (by show f<1∨6<f∨cl<1∨12<cl∨ln<1∨99<ln;omega)).symm
  replace hn:Hd _:=hn;clear E0;refine zW tyF ?_;exact fin (false) _ _ qp qe (g1) (hn.out)
 have hr:=E0.out;unfold fZ at hr;rw[zB1 (by show ¬(f<1∨6<f∨cl<1∨12<cl∨ln<1∨99<ln);omega)] at hr;clear E0;have lp:=hp.len;have lq:=hq.len;have lp2:=hp.lt;have lq2:=hq.lt;have lw2:=hw.lt;by_cases q4:k=4
 ·rw[zB0 (by exact q4)] at hr;subst q4;cases e1:decide (nm.1.length=0) with
  | false=>
   have hn:false=r0:=by rw[←hr];exact (by rw[show (decide ((⟨f,cl,ln,4,nm,gd,ws⟩:Cs).num.1.length=0))=false from e1];rfl)
   have z1:((nm.1.length:Int)==0)=false:=zB5 (fun h=>by rw[decide_eq_false_iff_not] at e1;omega);replace hn:Hd _:=hn;clear hr e1;refine zW tyF ?_;refine R1.cy fun K2 p1 p2 p3 p4=>?_;refine zW tyF ?_;exact p4.out _ _ (fin (false) _ _ qp qe (g1) (hn.out))
  | true=>
   have z1:((nm.1.length:Int)==0)=true:=by rw[decide_eq_true_eq] at e1;rw[beq_iff_eq];omega
   cases e2:decide (nm.2.length=0) with
   | false=>
    have hn:false=r0:=by rw[←hr];exact (by rw[show (decide ((⟨f,cl,ln,4,nm,gd,ws⟩:Cs).num.1.length=0))=true from e1,show (decide ((⟨f,cl,ln,4,nm,gd,ws⟩:Cs).num.2.length=0))=false from e2];rfl)
    have z2:((nm.2.length:Int)==0)=false:=zB5 (fun h=>by rw[decide_eq_false_iff_not] at e2;omega);replace hn:Hd _:=hn;clear hr e1 e2;refine zW tyF ?_;refine R1.cy fun K2 p1 p2 p3 p4=>?_;refine zW tyF ?_;exact p4.out _ _ (fin (false) _ _ qp qe (g1) (hn.out))
   | true=>
    have z2:((nm.2.length:Int)==0)=true:=by rw[decide_eq_true_eq] at e2;rw[beq_iff_eq];omega
    have hn:lEq gd []=r0:=by rw[←hr];exact (by rw[show (decide ((⟨f,cl,ln,4,nm,gd,ws⟩:Cs).num.1.length=0))=true from e1,show (decide ((⟨f,cl,ln,4,nm,gd,ws⟩:Cs).num.2.length=0))=true from e2];rfl)
    replace hn:Hd _:=hn;clear hr e1 e2;refine zW tyF ?_;refine R1.cy fun K2 p1 p2 p3 p4=>?_;refine zW tyF ?_;exact p4.out _ _ (fin (lEq gd []) _ _ qp qe (g1) (hn.out))
 rw[zB1 (by exact q4)] at hr;by_cases q3:k=1∨k=2∨k=3
 ·rw[zB0 (by exact q3)] at hr;replace hr:Hd ((decide (dt nm=0)&&(lEq gd []||nmB gd))=r0):=hr;clear q4 lp lq;rcases q3 with rfl|rfl|rfl <;>
  ·refine zW tyF ?_;refine R1.cy fun K2 p1 p2 p3 p4=>?_;refine zW tyF ?_;refine zG (qA tyF (qA tk fM)) fun K hK=>?_;refine WE.con (pX H1 p q nm hp hq) fun w2 H2 g2 W1=>?_;subst W1;have rx:=(g2.get _ m1 zB2).trans rx;have m1:=zA0 m1 g2.nx;have g12:=g1.gr g2;clear g1 g2;cases e1:decide (dt nm=0) with
   | false=>
    have z1:(dt nm==0)=false:=zB5 (of_decide_eq_false e1);have hn:false=r0:=by rw[←hr.out,e1];rfl
    replace hn:Hd _:=hn;clear hr e1;refine zK tyF ?_;exact p4.out _ _ (fin (false) _ _ qp qe (g12) (hn.out))
   | true=>
    have z1:(dt nm==0)=true:=beq_iff_eq.2 (of_decide_eq_true e1);cases e2:lEq gd [] with
    | true=>
     have hn:true=r0:=by rw[←hr.out,e1,e2];rfl
     replace hn:Hd _:=hn;clear hr e1;refine zK tyF ?_;exact p4.out _ _ (fin (true) _ _ qp qe (g12) (hn.out))
    | false=>
     have hn:nmB gd=r0:=by rw[←hr.out,e1,e2];rfl
     replace hn:Hd _:=hn;clear hr e1;refine zS (qA tyF fM) ?_;refine WE.con (pf (X:=fun _=>False) gd _) fun w3 H3 g3 S4=>?_;subst S4;refine zK tyF ?_;exact p4.out _ _ (fin (nmB gd) _ _ qp qe (g12.gr g3) (hn.out))
 rw[zB1 (by exact q3)] at hr;have hn:false=r0:=hr;have e1:(k==1)=false:=zB5 (by omega);have e2:(k==2)=false:=zB5 (by omega);have e3:(k==3)=false:=zB5 (by omega);have e4:(k==4)=false:=zB5 q4;replace hn:Hd _:=hn;clear hr q3 q4;refine zW tyF ?_;refine R1.cy fun K2 p1 p2 p3 p4=>?_;refine zW tyF ?_;refine p1.out _ _ ?_;refine zW tyF ?_;exact fin (false) _ _ qp qe (g1) (hn.out)
theorem Od (H:Hp) (f cl ln k:Int) (nm:Nm) (gd:List UInt8) (ws:List Pr) (p q w:AC) (hp:aM H p nm.1) (hq:aM H q nm.2) (hw:SlP H w ws):
  Con E2 142 [.agg [.i .i64 f,.i .i64 cl,.i .i64 ln,.i .i64 k,p,q,.o (.str gd),w]] H (fun _=>False) fun r _=>r=.one (.b (fZ ⟨f,cl,ln,k,nm,gd,ws⟩)):=by
 refine Con.of rfl fun lg=>?_;have hp:aM ⟨H.t,H.nx,lg⟩ p nm.1:=hp;have hq:aM ⟨H.t,H.nx,lg⟩ q nm.2:=hq;have hw:SlP ⟨H.t,H.nx,lg⟩ w ws:=hw;generalize (⟨H.t,H.nx,lg⟩:Hp)=H at hp hq hw ⊢;refine C1.body (E:=E2) (nt:=75) (res:=[.tmp 2]) Tryz.func142 rfl rfl rfl rfl rfl fun tm A0=>?_;have h0:=A0 0 _ rfl;clear A0;have fin:∀ (e:Bool) (A:ab) (H3:Hp),slot A.tm 2=.one (.b e)→A.dfr=[]→Gr H H3→e=fZ ⟨f,cl,ln,k,nm,gd,ws⟩→∃ w H4,an E2 [.tmp 2] (.ret,A,H3)=.ok [(w,H4)]∧Gr H H4∧∀ _:List Nat,w=.one (.b (fZ ⟨f,cl,ln,k,nm,gd,ws⟩)):=fun e A H3 h1 h2 h3 h4=>⟨_,H3,ah (.b e) (.inr rfl) h2 h1,h3,fun _=>by rw[h4]⟩;generalize E0:fZ ⟨f,cl,ln,k,nm,gd,ws⟩=r0 at fin;have lp:=hp.lt;have lq:=hq.lt;have lw:=hw.lt;refine zG tyF fun K hK=>?_;refine hK.out _ _ ?_;refine R1.gen (fun A1 H1=>Gr H H1∧H.nx<H1.nx∧H1.get H.nx=some (.arr [.i .i64 f,.i .i64 cl,.i .i64 ln,.i .i64 k,p,q,.o (.str gd),w] 69 0 0)∧slot A1.tm 1=.one ((.o (.ptr H.nx 0 0 8)))∧A1.nt=75∧A1.dfr=[])
  ⟨(Fr.refl _).new _,zA6 _,aB rfl,zL⟩ ?_
 clear h0 tm hK K lp lq lw;rintro A1 H1 ⟨g1,m1,rx,t1,B0,C0⟩;obtain ⟨N,hN⟩:∃ N,N=H.nx:=⟨_,rfl⟩;rw[←hN] at m1 rx t1;clear hN;have hp:=hp.gr g1;have hq:=hq.gr g1;have hw:=hw.gr g1;replace E0:Hd _:=E0;by_cases h1:f<1
 ·have hn:false=r0:=by
   rw[←E0.out];exact (zB0 (by show f<1∨6<f∨cl<1∨12<cl∨ln<1∨99<ln;omega)).symm
  replace hn:Hd _:=hn;clear E0;refine zW tyF ?_;exact fin (false) _ _ qp qe (g1) (hn.out)
 by_cases h2:6<f
 ·have hn:false=r0:=by
   rw[←E0.out];exact (zB0 (by show f<1∨6<f∨cl<1∨12<cl∨ln<1∨99<ln;omega)).symm
  replace hn:Hd _:=hn;clear E0;refine zW tyF ?_;exact fin (false) _ _ qp qe (g1) (hn.out)
 by_cases h3:cl<1
 ·have hn:false=r0:=by
   rw[←E0.out];exact (zB0 (by show f<1∨6<f∨cl<1∨12<cl∨ln<1∨99<ln;omega)).symm
  replace hn:Hd _:=hn;clear E0;refine zW tyF ?_;exact fin (false) _ _ qp qe (g1) (hn.out)
 by_cases h4:12<cl
 ·have hn:false=r0:=by
   rw[←E0.out];exact (zB0 (by show f<1∨6<f∨cl<1∨12<cl∨ln<1∨99<ln;omega)).symm
  replace hn:Hd _:=hn;clear E0;refine zW tyF ?_;exact fin (false) _ _ qp qe (g1) (hn.out)
 by_cases h5:ln<1
 ·have hn:false=r0:=by
   rw[←E0.out];exact (zB0 (by show f<1∨6<f∨cl<1∨12<cl∨ln<1∨99<ln;omega)).symm
  replace hn:Hd _:=hn;clear E0;refine zW tyF ?_;exact fin (false) _ _ qp qe (g1) (hn.out)
 by_cases h6:99<ln
 ·have hn:false=r0:=by
   rw[←E0.out];exact (zB0 (by show f<1∨6<f∨cl<1∨12<cl∨ln<1∨99<ln;omega)).symm
  replace hn:Hd _:=hn;clear E0;refine zW tyF ?_;exact fin (false) _ _ qp qe (g1) (hn.out)
 by_cases h7:k<1
 ·have hn:false=r0:=by
   rw[←E0.out];unfold fZ;rw[zB1 (by show ¬(f<1∨6<f∨cl<1∨12<cl∨ln<1∨99<ln);omega),zB1 (by show ¬k=4;omega),zB1 (by show ¬(k=1∨k=2∨k=3);omega)]
  replace hn:Hd _:=hn;clear E0;refine zW tyF ?_;exact fin (false) _ _ qp qe (g1) (hn.out)
 by_cases h8:4<k
 ·have hn:false=r0:=by
   rw[←E0.out];unfold fZ;rw[zB1 (by show ¬(f<1∨6<f∨cl<1∨12<cl∨ln<1∨99<ln);omega),zB1 (by show ¬k=4;omega),zB1 (by show ¬(k=1∨k=2∨k=3);omega)]
  replace hn:Hd _:=hn;clear E0;refine zW tyF ?_;exact fin (false) _ _ qp qe (g1) (hn.out)
 have hr:=E0.out;unfold fZ at hr;rw[zB1 (by show ¬(f<1∨6<f∨cl<1∨12<cl∨ln<1∨99<ln);omega)] at hr;clear E0;have lp:=hp.len;have lq:=hq.len;have lp2:=hp.lt;have lq2:=hq.lt;have lw2:=hw.lt;by_cases q4:k=4
 ·rw[zB0 (by exact q4)] at hr;subst q4;cases e1:decide (nm.1.length=0) with
  | false=>
   have hn:false=r0:=by rw[←hr];exact (by rw[show (decide ((⟨f,cl,ln,4,nm,gd,ws⟩:Cs).num.1.length=0))=false from e1];rfl)
   have z1:((nm.1.length:Int)==0)=false:=zB5 (fun h=>by rw[decide_eq_false_iff_not] at e1;omega);replace hn:Hd _:=hn;clear hr e1;refine zW tyF ?_;exact fin (false) _ _ qp qe (g1) (hn.out)
  | true=>
   have z1:((nm.1.length:Int)==0)=true:=by rw[decide_eq_true_eq] at e1;rw[beq_iff_eq];omega
   cases e2:decide (nm.2.length=0) with
   | false=>
    have hn:false=r0:=by rw[←hr];exact (by rw[show (decide ((⟨f,cl,ln,4,nm,gd,ws⟩:Cs).num.1.length=0))=true from e1,show (decide ((⟨f,cl,ln,4,nm,gd,ws⟩:Cs).num.2.length=0))=false from e2];rfl)
    have z2:((nm.2.length:Int)==0)=false:=zB5 (fun h=>by rw[decide_eq_false_iff_not] at e2;omega);replace hn:Hd _:=hn;clear hr e1 e2;refine zW tyF ?_;exact fin (false) _ _ qp qe (g1) (hn.out)
   | true=>
    have z2:((nm.2.length:Int)==0)=true:=by rw[decide_eq_true_eq] at e2;rw[beq_iff_eq];omega
    have hn:lEq gd []=r0:=by rw[←hr];exact (by rw[show (decide ((⟨f,cl,ln,4,nm,gd,ws⟩:Cs).num.1.length=0))=true from e1,show (decide ((⟨f,cl,ln,4,nm,gd,ws⟩:Cs).num.2.length=0))=true from e2];rfl)
    replace hn:Hd _:=hn;clear hr e1 e2;refine zW tyF ?_;exact fin (lEq gd []) _ _ qp qe (g1) (hn.out)
 rw[zB1 (by exact q4)] at hr;by_cases q3:k=1∨k=2∨k=3
 ·rw[zB0 (by exact q3)] at hr;replace hr:Hd ((decide (dt nm=0)&&(lEq gd []||nmB gd))=r0):=hr;clear q4 lp lq;have e4:(k==4)=false:=zB5 (by omega);clear q3;refine zW tyF ?_;refine zG (qA tyF (qA pS iV)) fun K hK=>?_;refine WE.con (oK H1 p q nm hp hq) fun w2 H2 g2 W1=>?_;subst W1;have rx:=(g2.get _ m1 zB2).trans rx;have m1:=zA0 m1 g2.nx;have g12:=g1.gr g2;clear g1 g2;cases e1:decide (dt nm=0) with
  | false=>
   have z1:(dt nm==0)=false:=zB5 (of_decide_eq_false e1);have hn:false=r0:=by rw[←hr.out,e1];rfl
   replace hn:Hd _:=hn;clear hr e1;refine zK tyF ?_;exact fin (false) _ _ qp qe (g12) (hn.out)
  | true=>
   have z1:(dt nm==0)=true:=beq_iff_eq.2 (of_decide_eq_true e1);cases e2:lEq gd [] with
   | true=>
    have hn:true=r0:=by rw[←hr.out,e1,e2];rfl
    replace hn:Hd _:=hn;clear hr e1;refine zK tyF ?_;exact fin (true) _ _ qp qe (g12) (hn.out)
   | false=>
    have hn:nmB gd=r0:=by rw[←hr.out,e1,e2];rfl
    replace hn:Hd _:=hn;clear hr e1;refine zS (qA tyF iV) ?_;refine WE.con (dT _ gd) fun w3 H3 g3 S4=>?_;subst S4;refine zK tyF ?_;exact fin (nmB gd) _ _ qp qe (g12.gr g3) (hn.out)
 rw[zB1 (by exact q3)] at hr;exact absurd (by omega:k=1∨k=2∨k=3) q3
theorem Pn (H:Hp) (c c':Cs) (p q w p' q' w':AC) (hp:ltV (.one p) H.nx) (hq:ltV (.one q) H.nx) (hw:ltV (.one w) H.nx) (D2:ltV (.one p') H.nx) (Z2:ltV (.one q') H.nx) (S1:ltV (.one w') H.nx):
  Con E2 165 [.agg [.i .i64 c.face,.i .i64 c.col,.i .i64 c.line,.i .i64 c.kind,p,q,.o (.str c.good),w],.agg [.i .i64 c'.face,.i .i64 c'.col,.i .i64 c'.line,.i .i64 c'.kind,p',q',.o (.str c'.good),w']] H (fun _=>False) fun r _=>r=.one (.b (lH c' c)):=by
 refine Con.of rfl fun lg=>?_;have hp:ltV (.one p) (⟨H.t,H.nx,lg⟩:Hp).nx:=hp;have hq:ltV (.one q) (⟨H.t,H.nx,lg⟩:Hp).nx:=hq;have hw:ltV (.one w) (⟨H.t,H.nx,lg⟩:Hp).nx:=hw;have D2:ltV (.one p') (⟨H.t,H.nx,lg⟩:Hp).nx:=D2;have Z2:ltV (.one q') (⟨H.t,H.nx,lg⟩:Hp).nx:=Z2;have S1:ltV (.one w') (⟨H.t,H.nx,lg⟩:Hp).nx:=S1;generalize (⟨H.t,H.nx,lg⟩:Hp)=H at hp hq hw D2 Z2 S1 ⊢;refine C1.body (E:=E2) (nt:=30) (res:=[.tmp 4]) Tryz.func165 rfl rfl rfl rfl rfl fun tm A0=>?_;have h0:=A0 0 _ rfl;have h1:=A0 1 _ rfl;clear A0;have fin:∀ (e:Bool) (A:ab) (H3:Hp),slot A.tm 4=.one (.b e)→A.dfr=[]→Gr H H3→e=lH c' c→∃ w H4,an E2 [.tmp 4] (.ret,A,H3)=.ok [(w,H4)]∧Gr H H4∧∀ _:List Nat,w=.one (.b (lH c' c)):=fun e A H3 h1 h2 h3 h4=>⟨_,H3,ah (.b e) (.inr rfl) h2 h1,h3,fun _=>by rw[h4]⟩;generalize E0:lH c' c=r0 at fin;replace E0:Hd _:=E0;refine zG tyF fun K hK=>?_;refine hK.out _ _ ?_;refine R1.gen (fun A1 H1=>Gr H H1∧H.nx+1<H1.nx∧H1.get H.nx=some (.arr [.i .i64 c.face,.i .i64 c.col,.i .i64 c.line,.i .i64 c.kind,p,q,.o (.str c.good),w] 69 0 0)∧H1.get (H.nx+1)=some (.arr [.i .i64 c'.face,.i .i64 c'.col,.i .i64 c'.line,.i .i64 c'.kind,p',q',.o (.str c'.good),w'] 69 0 0)∧slot A1.tm 2=.one ((.o (.ptr H.nx 0 0 8)))∧slot A1.tm 3=.one ((.o (.ptr (H.nx+1) 0 0 8)))∧A1.nt=30∧A1.dfr=[])
  ⟨((Fr.refl _).new _).new _,by show H.nx+1<H.nx+1+1;omega,by rw[aW (by show H.nx<H.nx+1;omega)];exact aB rfl,aB rfl,zL⟩ ?_
 clear h0 h1 tm hK K hp hq hw D2 Z2 S1;rintro A1 H1 ⟨g1,n1,ra,rb,t2,t3,B0,C0⟩;obtain ⟨N,hN⟩:∃ N,N=H.nx:=⟨_,rfl⟩;rw[←hN] at n1 ra rb t2 t3;clear hN;have n0:N<H1.nx:=by omega
 by_cases q1:c.face=c'.face
 ·have e1:(c.face==c'.face)=true:=beq_iff_eq.2 (by omega);by_cases q2:c.col=c'.col
  ·have hn:decide (c'.line<c.line)=r0:=by
    rw[←E0.out];unfold lH;rw[zB0 q1,zB0 q2]
   have e2:(c.col==c'.col)=true:=beq_iff_eq.2 (by omega);replace hn:Hd _:=hn;clear E0 q1 q2;refine zW tyF ?_;exact fin (decide (c'.line<c.line)) _ _ qp qe (g1) (hn.out)
  have hn:decide (c'.col<c.col)=r0:=by
   rw[←E0.out];unfold lH;rw[zB0 q1,zB1 q2]
  have e2:(c.col==c'.col)=false:=zB5 (fun h=>q2 (by omega));replace hn:Hd _:=hn;clear E0 q1 q2;refine zW tyF ?_;exact fin (decide (c'.col<c.col)) _ _ qp qe (g1) (hn.out)
 have hn:decide (c'.face<c.face)=r0:=by
  rw[←E0.out];unfold lH;rw[zB1 q1]
 have e1:(c.face==c'.face)=false:=zB5 (fun h=>q1 (by omega));replace hn:Hd _:=hn;clear E0 q1;refine zW tyF ?_;exact fin (decide (c'.face<c.face)) _ _ qp qe (g1) (hn.out)
theorem Fl (H:Hp) (c c':Cs) (p q w p' q' w':AC) (hp:ltV (.one p) H.nx) (hq:ltV (.one q) H.nx) (hw:ltV (.one w) H.nx) (D2:ltV (.one p') H.nx) (Z2:ltV (.one q') H.nx) (S1:ltV (.one w') H.nx):
  Con E2 144 [.agg [.i .i64 c.face,.i .i64 c.col,.i .i64 c.line,.i .i64 c.kind,p,q,.o (.str c.good),w],.agg [.i .i64 c'.face,.i .i64 c'.col,.i .i64 c'.line,.i .i64 c'.kind,p',q',.o (.str c'.good),w']] H (fun _=>False) fun r _=>r=.one (.b (lH c c')):=by
 refine Con.of rfl fun lg=>?_;have hp:ltV (.one p) (⟨H.t,H.nx,lg⟩:Hp).nx:=hp;have hq:ltV (.one q) (⟨H.t,H.nx,lg⟩:Hp).nx:=hq;have hw:ltV (.one w) (⟨H.t,H.nx,lg⟩:Hp).nx:=hw;have D2:ltV (.one p') (⟨H.t,H.nx,lg⟩:Hp).nx:=D2;have Z2:ltV (.one q') (⟨H.t,H.nx,lg⟩:Hp).nx:=Z2;have S1:ltV (.one w') (⟨H.t,H.nx,lg⟩:Hp).nx:=S1;generalize (⟨H.t,H.nx,lg⟩:Hp)=H at hp hq hw D2 Z2 S1 ⊢;refine C1.body (E:=E2) (nt:=30) (res:=[.tmp 4]) Tryz.func144 rfl rfl rfl rfl rfl fun tm A0=>?_;have h0:=A0 0 _ rfl;have h1:=A0 1 _ rfl;clear A0;have fin:∀ (e:Bool) (A:ab) (H3:Hp),slot A.tm 4=.one (.b e)→A.dfr=[]→Gr H H3→e=lH c c'→∃ w H4,an E2 [.tmp 4] (.ret,A,H3)=.ok [(w,H4)]∧Gr H H4∧∀ _:List Nat,w=.one (.b (lH c c')):=fun e A H3 h1 h2 h3 h4=>⟨_,H3,ah (.b e) (.inr rfl) h2 h1,h3,fun _=>by rw[h4]⟩;generalize E0:lH c c'=r0 at fin;replace E0:Hd _:=E0;refine zG tyF fun K hK=>?_;refine hK.out _ _ ?_;refine R1.gen (fun A1 H1=>Gr H H1∧H.nx+1<H1.nx∧H1.get H.nx=some (.arr [.i .i64 c.face,.i .i64 c.col,.i .i64 c.line,.i .i64 c.kind,p,q,.o (.str c.good),w] 69 0 0)∧H1.get (H.nx+1)=some (.arr [.i .i64 c'.face,.i .i64 c'.col,.i .i64 c'.line,.i .i64 c'.kind,p',q',.o (.str c'.good),w'] 69 0 0)∧slot A1.tm 2=.one ((.o (.ptr H.nx 0 0 8)))∧slot A1.tm 3=.one ((.o (.ptr (H.nx+1) 0 0 8)))∧A1.nt=30∧A1.dfr=[])
  ⟨((Fr.refl _).new _).new _,by show H.nx+1<H.nx+1+1;omega,by rw[aW (by show H.nx<H.nx+1;omega)];exact aB rfl,aB rfl,zL⟩ ?_
 clear h0 h1 tm hK K hp hq hw D2 Z2 S1;rintro A1 H1 ⟨g1,n1,ra,rb,t2,t3,B0,C0⟩;obtain ⟨N,hN⟩:∃ N,N=H.nx:=⟨_,rfl⟩;rw[←hN] at n1 ra rb t2 t3;clear hN;have n0:N<H1.nx:=by omega
 by_cases q1:c'.face=c.face
 ·have e1:(c.face==c'.face)=true:=beq_iff_eq.2 (by omega);by_cases q2:c'.col=c.col
  ·have hn:decide (c.line<c'.line)=r0:=by
    rw[←E0.out];unfold lH;rw[zB0 q1,zB0 q2]
   have e2:(c.col==c'.col)=true:=beq_iff_eq.2 (by omega);replace hn:Hd _:=hn;clear E0 q1 q2;refine zW tyF ?_;exact fin (decide (c.line<c'.line)) _ _ qp qe (g1) (hn.out)
  have hn:decide (c.col<c'.col)=r0:=by
   rw[←E0.out];unfold lH;rw[zB0 q1,zB1 q2]
  have e2:(c.col==c'.col)=false:=zB5 (fun h=>q2 (by omega));replace hn:Hd _:=hn;clear E0 q1 q2;refine zW tyF ?_;exact fin (decide (c.col<c'.col)) _ _ qp qe (g1) (hn.out)
 have hn:decide (c.face<c'.face)=r0:=by
  rw[←E0.out];unfold lH;rw[zB1 q1]
 have e1:(c.face==c'.face)=false:=zB5 (fun h=>q1 (by omega));replace hn:Hd _:=hn;clear E0 q1;refine zW tyF ?_;exact fin (decide (c.face<c'.face)) _ _ qp qe (g1) (hn.out)
theorem CT:ak Tryz.prog 163=true:=by kernel_rfl
theorem xM:ak Tryz.prog 164=true:=by kernel_rfl
theorem Qa:ak Tryz.prog 165=true:=by kernel_rfl
theorem Cf:ak Tryz.prog 102=true:=by kernel_rfl
theorem Rb:ak Tryz.prog 142=true:=by kernel_rfl
theorem wE:ak Tryz.prog 143=true:=by kernel_rfl
theorem JY:ak Tryz.prog 144=true:=by kernel_rfl
theorem Tj:ak Tryz.prog 82=true:=by kernel_rfl
theorem Ju:ak Tryz.prog 52=true:=by kernel_rfl
theorem Ek:ak Tryz.prog 33=true:=by kernel_rfl
theorem xR (H:Hp) (b:AC) (bf:List Cs) (c:Cs) (p q w:AC) (hb:dI H b bf) (hp:aM H p c.num.1) (hq:aM H q c.num.2) (hw:SlP H w c.ws) (hL:c.ws.length≤4611686018427387904) (hBF:bf.length≤4611686018427387904):
  Con E2 102 [.one b,.agg [.i .i64 c.face,.i .i64 c.col,.i .i64 c.line,.i .i64 c.kind,p,q,.o (.str c.good),w]] H (fun _=>False) fun r _=>r=.one (.i .i64 (fI bf c)):=by
 refine Con.of rfl fun lg=>?_;have hb:dI ⟨H.t,H.nx,lg⟩ b bf:=hb;have hp:aM ⟨H.t,H.nx,lg⟩ p c.num.1:=hp;have hq:aM ⟨H.t,H.nx,lg⟩ q c.num.2:=hq;have hw:SlP ⟨H.t,H.nx,lg⟩ w c.ws:=hw;generalize (⟨H.t,H.nx,lg⟩:Hp)=H at hb hp hq hw ⊢;refine C1.body (E:=E2) (nt:=30) (res:=[.tmp 4]) Tryz.func102 rfl rfl rfl rfl rfl fun tm A0=>?_;have h0:=A0 0 _ rfl;have h1:=A0 1 _ rfl;clear A0;have fin:∀ (e:Int) (A:ab) (H3:Hp),slot A.tm 4=.one (.i .i64 e)→A.dfr=[]→Gr H H3→e=fI bf c→∃ w H4,an E2 [.tmp 4] (.ret,A,H3)=.ok [(w,H4)]∧Gr H H4∧∀ _:List Nat,w=.one (.i .i64 (fI bf c)):=fun e A H3 h1 h2 h3 h4=>⟨_,H3,ah (.i .i64 e) (.inr rfl) h2 h1,h3,fun _=>by rw[h4]⟩;generalize E0:fI bf c=r0 at fin;have lb:=hb.lt;have lp:=hp.lt;have lq:=hq.lt;have lw:=hw.lt;refine zG tyF fun K hK=>?_;refine hK.out _ _ ?_;refine R1.gen (fun A1 H1=>Gr H H1∧H.nx<H1.nx∧H1.get H.nx=some (.arr [.i .i64 c.face,.i .i64 c.col,.i .i64 c.line,.i .i64 c.kind,p,q,.o (.str c.good),w] 69 0 0)∧slot A1.tm 0=.one (b)∧slot A1.tm 3=.one ((.o (.ptr H.nx 0 0 8)))∧A1.nt=30∧A1.dfr=[])
  ⟨(Fr.refl _).new _,zA6 _,aB rfl,zL⟩ ?_
 clear h0 h1 tm hK K lp lq lw lb;rintro A1 H1 ⟨g1,m1,rx,t0,t3,B0,C0⟩;obtain ⟨N,hN⟩:∃ N,N=H.nx:=⟨_,rfl⟩;rw[←hN] at m1 rx t3;clear hN;have hb:=hb.gr g1;have hp:=hp.gr g1;have hq:=hq.gr g1;have hw:=hw.gr g1;replace E0:Hd _:=E0;refine zG (qA tyF CT) fun K hK=>?_;refine WE.con (xI H1 c.face c.col c.line c.kind c.num c.good c.ws p q w hp hq hw) fun w2 H2 g2 W1=>?_;subst W1;have ec:fZ ⟨c.face,c.col,c.line,c.kind,c.num,c.good,c.ws⟩=fZ c:=rfl;rw[ec];clear ec;have rx:=(g2.get _ m1 zB2).trans rx;have m1:=zA0 m1 g2.nx;have hb:=hb.gr g2;have hp:=hp.gr g2;have hq:=hq.gr g2;have hw:=hw.gr g2;have g2:=g1.gr g2;clear g1;cases e1:fZ c with
 | false=>
  have hn:41=r0:=by rw[←E0.out];exact (zB0 e1).symm
  replace hn:Hd _:=hn;clear E0;refine zK tyF ?_;exact fin (41) _ _ qp qe (g2) (hn.out)
 | true=>
 have hr:=E0.out;unfold fI at hr;rw[zB1 (by rw[e1];decide)] at hr;replace hr:Hd _:=hr;replace e1:Hd _:=e1;clear E0;have lw:=hw.lt;refine zK tyF ?_;refine zG (qA tyF xM) fun K hK=>?_;refine WE.con (wa H2 w c.ws hw hL) fun w3 H3 g3 S4=>?_;subst S4;have rx:=(g3.get _ m1 zB2).trans rx;have m1:=zA0 m1 g3.nx;have hb:=hb.gr g3;have hp:=hp.gr g3;have hq:=hq.gr g3;have hw:=hw.gr g3;have g3:=g2.gr g3;clear g2 lw;rcases vT c.ws with ew|ew
 case inr=>
  have hn:42=r0:=by rw[←hr.out];exact (zB0 (by rw[ew];decide)).symm
  rw[ew];replace hn:Hd _:=hn;clear hr ew;refine zK tyF ?_;exact fin (42) _ _ qp qe (g3) (hn.out)
 replace hr:=hr.out;rw[zB1 (by rw[ew];decide)] at hr;rw[ew];clear ew;replace hr:Hd _:=hr;have lb:=hb.len;have lb2:=hb.lt;refine zK tyF ?_;by_cases q0:0<bf.length
 ·obtain ⟨id,g,off,cells,rfl,hid,P0,L0⟩:=hb.open q0;have I5:bf.length - 1<bf.length:=by omega
  have ey:bf[bf.length - 1]?=some bf[bf.length - 1]:=zB4 I5;obtain ⟨p',q',w',hy⟩:=L0 (bf.length - 1) _ ey;have hl:bf.getLast?=some bf[bf.length - 1]:=by rw[List.getLast?_eq_getElem?];exact ey
  generalize bf[bf.length - 1]=y at ey hy hl;have J0:=hr.out;rw[hl] at J0;have D2:=hy.of1;have Z2:=hy.of2;have S1:=hy.of3;have y1:=hy.all;have y2:=hy.le;have R3:IntKind.i64.wrap ((bf.length:Int) - 1)=((bf.length - 1:Nat):Int):=by rw[ao (by omega) (by omega)];omega
  have e0:(0:Int)<(bf.length:Int):=by omega
  clear hy L0 ey hl hr;have J0:(if (!lH y c)=true then (43:Int) else 0)=r0:=J0;replace J0:Hd _:=J0;skip
  refine zG (qA tyF (qA (ixC I5) Qa)) fun K hK=>?_;refine WE.con (Pn H3 c y p q w p' q' w' hp.lt hq.lt hw.lt D2.lt Z2.lt S1.lt) fun w4 H4 g4 X6=>?_;subst X6;cases eb:lH y c with
  | false=>
   have hn:43=r0:=by rw[←J0.out,eb];rfl
   replace hn:Hd _:=hn;clear J0;refine zK tyF ?_;exact fin (43) _ _ qp qe (g3.gr g4) (hn.out)
  | true=>
   have hn:0=r0:=by rw[←J0.out,eb];rfl
   replace hn:Hd _:=hn;clear J0;refine zK tyF ?_;exact fin (0) _ _ qp qe (g3.gr g4) (hn.out)
 have hz:bf=[]:=List.eq_nil_of_length_eq_zero (by omega);subst hz;have hn:0=r0:=by rw[←hr.out];rfl
 replace hn:Hd _:=hn;clear hr;skip
 refine zW tyF ?_;exact fin (0) _ _ qp qe (g3) (hn.out)
theorem OV (H:Hp) (b:AC) (bf:List Cs) (c:Cs) (p q w:AC) (hb:dI H b bf) (hp:aM H p c.num.1) (hq:aM H q c.num.2) (hw:SlP H w c.ws) (hL:c.ws.length≤4611686018427387904) (hBF:bf.length≤4611686018427387904):
  Con E2 82 [.one b,.agg [.i .i64 c.face,.i .i64 c.col,.i .i64 c.line,.i .i64 c.kind,p,q,.o (.str c.good),w]] H (fun _=>False) fun r _=>r=.one (.i .i64 (fI bf c)):=by
 refine Con.of rfl fun lg=>?_;have hb:dI ⟨H.t,H.nx,lg⟩ b bf:=hb;have hp:aM ⟨H.t,H.nx,lg⟩ p c.num.1:=hp;have hq:aM ⟨H.t,H.nx,lg⟩ q c.num.2:=hq;have hw:SlP ⟨H.t,H.nx,lg⟩ w c.ws:=hw;generalize (⟨H.t,H.nx,lg⟩:Hp)=H at hb hp hq hw ⊢;refine C1.body (E:=E2) (nt:=26) (res:=[.tmp 4]) Tryz.func82 rfl rfl rfl rfl rfl fun tm A0=>?_;have h0:=A0 0 _ rfl;have h1:=A0 1 _ rfl;clear A0;have fin:∀ (e:Int) (A:ab) (H3:Hp),slot A.tm 4=.one (.i .i64 e)→A.dfr=[]→Gr H H3→e=fI bf c→∃ w H4,an E2 [.tmp 4] (.ret,A,H3)=.ok [(w,H4)]∧Gr H H4∧∀ _:List Nat,w=.one (.i .i64 (fI bf c)):=fun e A H3 h1 h2 h3 h4=>⟨_,H3,ah (.i .i64 e) (.inr rfl) h2 h1,h3,fun _=>by rw[h4]⟩;generalize E0:fI bf c=r0 at fin;have lb:=hb.lt;have lp:=hp.lt;have lq:=hq.lt;have lw:=hw.lt;refine zG tyF fun K hK=>?_;refine hK.out _ _ ?_;refine R1.gen (fun A1 H1=>Gr H H1∧H.nx<H1.nx∧H1.get H.nx=some (.arr [.i .i64 c.face,.i .i64 c.col,.i .i64 c.line,.i .i64 c.kind,p,q,.o (.str c.good),w] 69 0 0)∧slot A1.tm 0=.one (b)∧slot A1.tm 3=.one ((.o (.ptr H.nx 0 0 8)))∧A1.nt=26∧A1.dfr=[])
  ⟨(Fr.refl _).new _,zA6 _,aB rfl,zL⟩ ?_
 clear h0 h1 tm hK K lp lq lw lb;rintro A1 H1 ⟨g1,m1,rx,t0,t3,B0,C0⟩;obtain ⟨N,hN⟩:∃ N,N=H.nx:=⟨_,rfl⟩;rw[←hN] at m1 rx t3;clear hN;have hb:=hb.gr g1;have hp:=hp.gr g1;have hq:=hq.gr g1;have hw:=hw.gr g1;replace E0:Hd _:=E0;refine zG (qA tyF Rb) fun K hK=>?_;refine WE.con (Od H1 c.face c.col c.line c.kind c.num c.good c.ws p q w hp hq hw) fun w2 H2 g2 W1=>?_;subst W1;have ec:fZ ⟨c.face,c.col,c.line,c.kind,c.num,c.good,c.ws⟩=fZ c:=rfl;rw[ec];clear ec;have rx:=(g2.get _ m1 zB2).trans rx;have m1:=zA0 m1 g2.nx;have hb:=hb.gr g2;have hp:=hp.gr g2;have hq:=hq.gr g2;have hw:=hw.gr g2;have g2:=g1.gr g2;clear g1;cases e1:fZ c with
 | false=>
  have hn:41=r0:=by rw[←E0.out];exact (zB0 e1).symm
  replace hn:Hd _:=hn;clear E0;refine zK tyF ?_;exact fin (41) _ _ qp qe (g2) (hn.out)
 | true=>
 have hr:=E0.out;unfold fI at hr;rw[zB1 (by rw[e1];decide)] at hr;replace hr:Hd _:=hr;replace e1:Hd _:=e1;clear E0;have lw:=hw.lt;refine zK tyF ?_;refine zG (qA tyF wE) fun K hK=>?_;refine WE.con (tN H2 w c.ws hw hL) fun w3 H3 g3 S4=>?_;subst S4;have rx:=(g3.get _ m1 zB2).trans rx;have m1:=zA0 m1 g3.nx;have hb:=hb.gr g3;have hp:=hp.gr g3;have hq:=hq.gr g3;have hw:=hw.gr g3;have g3:=g2.gr g3;clear g2 lw;rcases vT c.ws with ew|ew
 case inr=>
  have hn:42=r0:=by rw[←hr.out];exact (zB0 (by rw[ew];decide)).symm
  rw[ew];replace hn:Hd _:=hn;clear hr ew;refine zK tyF ?_;exact fin (42) _ _ qp qe (g3) (hn.out)
 replace hr:=hr.out;rw[zB1 (by rw[ew];decide)] at hr;rw[ew];clear ew;replace hr:Hd _:=hr;have lb:=hb.len;have lb2:=hb.lt;refine zK tyF ?_;by_cases q0:0<bf.length
 ·obtain ⟨id,g,off,cells,rfl,hid,P0,L0⟩:=hb.open q0;have I5:bf.length - 1<bf.length:=by omega
  have ey:bf[bf.length - 1]?=some bf[bf.length - 1]:=zB4 I5;obtain ⟨p',q',w',hy⟩:=L0 (bf.length - 1) _ ey;have hl:bf.getLast?=some bf[bf.length - 1]:=by rw[List.getLast?_eq_getElem?];exact ey
  generalize bf[bf.length - 1]=y at ey hy hl;have J0:=hr.out;rw[hl] at J0;have D2:=hy.of1;have Z2:=hy.of2;have S1:=hy.of3;have y1:=hy.all;have y2:=hy.le;have R3:IntKind.i64.wrap ((bf.length:Int) - 1)=((bf.length - 1:Nat):Int):=by rw[ao (by omega) (by omega)];omega
  have e0:(0:Int)<(bf.length:Int):=by omega
  clear hy L0 ey hl hr;have J0:(if (!lH y c)=true then (43:Int) else 0)=r0:=J0;replace J0:Hd _:=J0;skip
  refine zG (qA tyF (qA (ixC I5) JY)) fun K hK=>?_;refine WE.con (Fl H3 y c p' q' w' p q w D2.lt Z2.lt S1.lt hp.lt hq.lt hw.lt) fun w4 H4 g4 X6=>?_;subst X6;cases eb:lH y c with
  | false=>
   have hn:43=r0:=by rw[←J0.out,eb];rfl
   replace hn:Hd _:=hn;clear J0;refine zK tyF ?_;exact fin (43) _ _ qp qe (g3.gr g4) (hn.out)
  | true=>
   have hn:0=r0:=by rw[←J0.out,eb];rfl
   replace hn:Hd _:=hn;clear J0;refine zK tyF ?_;exact fin (0) _ _ qp qe (g3.gr g4) (hn.out)
 have hz:bf=[]:=List.eq_nil_of_length_eq_zero (by omega);subst hz;have hn:0=r0:=by rw[←hr.out];rfl
 replace hn:Hd _:=hn;clear hr;skip
 refine zW tyF ?_;exact fin (0) _ _ qp qe (g3) (hn.out)
theorem HO (H:Hp) (n:List UInt8) (b:AC) (l:List Cs) (hb:dI H b l) (hB:TbB l):Con E2 52 [.agg [.o (.str n),b]] H (fun _=>False) fun r _=>r=.one (.i .i64 (kC (n,l))):=by
 refine Con.of rfl fun lg=>?_;have hb:dI ⟨H.t,H.nx,lg⟩ b l:=hb;generalize (⟨H.t,H.nx,lg⟩:Hp)=H at hb ⊢;refine C1.body (E:=E2) (nt:=32) (res:=[.tmp 2]) Tryz.func52 rfl rfl rfl rfl rfl fun tm A0=>?_;have h0:=A0 0 _ rfl;clear A0;have fin:∀ (e:Int) (A:ab) (H3:Hp),slot A.tm 2=.one (.i .i64 e)→A.dfr=[]→Gr H H3→e=kC (n,l)→∃ w H4,an E2 [.tmp 2] (.ret,A,H3)=.ok [(w,H4)]∧Gr H H4∧∀ _:List Nat,w=.one (.i .i64 (kC (n,l))):=fun e A H3 h1 h2 h3 h4=>⟨_,H3,ah (.i .i64 e) (.inr rfl) h2 h1,h3,fun _=>by rw[h4]⟩;generalize E0:kC (n,l)=r0 at fin;have hl:l.length*120≤140737488355328:=hB.c;have lb:=hb.lt;refine zG tyF fun K hK=>?_;refine hK.out _ _ ?_;refine R1.gen (fun A1 H1=>Gr H H1∧H.nx<H1.nx∧H1.get H.nx=some (.arr [.o (.str n),b] 26 0 0)∧slot A1.tm 1=.one ((.o (.ptr H.nx 0 0 2)))∧A1.nt=32∧A1.dfr=[])
  ⟨(Fr.refl _).new _,zA6 _,aB rfl,zL⟩ ?_
 clear h0 tm hK K lb;rintro A1 H1 ⟨g1,m1,rx,t1,B0,C0⟩;obtain ⟨N,hN⟩:∃ N,N=H.nx:=⟨_,rfl⟩;rw[←hN] at m1 rx t1;clear hN;have hb:=hb.gr g1;replace E0:Hd _:=E0;refine zG (qA tyF fM) fun K hK=>?_;refine WE.con (pf (X:=fun _=>False) n _) fun w2 H2 g2 W1=>?_;subst W1;have rx:=(g2.get _ m1 zB2).trans rx;have m1:=zA0 m1 g2.nx;have hb:=hb.gr g2;have g2:=g1.gr g2;clear g1;cases e1:nmB n with
 | false=>
  have hn:40=r0:=by rw[←E0.out];exact (zB0 e1).symm
  replace hn:Hd _:=hn;clear E0;refine zK tyF ?_;exact fin (40) _ _ qp qe (g2) (hn.out)
 | true=>
 have hr:=E0.out;unfold kC at hr;rw[zB1 (by show ¬nmB n=false;rw[e1];decide)] at hr;clear E0;have l1:=hb.len;have l2:=hb.lt;by_cases q1:(256:Int)<l.length
 ·have hn:3=r0:=by rw[←hr];exact (zB0 q1).symm
  replace hn:Hd _:=hn;clear hr;refine zK tyF ?_;exact fin (3) _ _ qp qe (g2) (hn.out)
 have hn:Hd (goT [] l=r0):=by rw[←hr];exact (zB1 q1).symm
 clear hr;replace e1:Hd _:=e1;refine zK tyF ?_;refine R1.cy fun K k1 k2 k3 k4=>?_;refine R1.loop (fun z A H3=>∃ i:Nat,z=l.length - i∧i≤l.length∧Gr H2 H3∧Hd (goT (l.take i) (l.drop i)=r0)∧slot A.tm 1=.one ((.o (.ptr N 0 0 2)))∧slot A.tm 15=.one (b)∧slot A.tm 16=.one (.i .i64 (l.length:Int))∧slot A.tm 17=.one (.i .i64 (i:Int))∧A.nt=32∧A.dfr=[]) ?_ l.length
  ⟨0,rfl,Nat.zero_le _,Fr.refl _,hn,zL⟩
 clear t1 hn B0 C0 A1 l1 l2 k3;rintro z A H3 ⟨i,rfl,hi,g3,hr,t1,t15,t16,t17,B0,C0⟩;have F_:=hb.gr g3;have rx:=(g3.get _ m1 zB2).trans rx;have m1:=zA0 m1 g3.nx;have l1:=F_.len;have l2:=F_.lt;refine zW tyF ?_;refine zI tyF (fun hc=>?_) (fun hc=>?_)
 ·have D0:i<l.length:=by omega
  have ex:=zB4 D0;have Q0:=zC1 D0;have B1:=zC2 D0;have G0:l[i]∈l:=List.getElem_mem D0;generalize l[i]=x at ex Q0 B1 G0;have V0:=zC0 i (by omega);obtain ⟨id,g,off,cells,rfl,hid,P0,L0⟩:=F_.open (by omega);obtain ⟨p,q,w,hx⟩:=L0 i x ex;have y1:=hx.all;have y2:=hx.le;have hp:=hx.of1;have hq:=hx.of2;have hw:=hx.of3;have lp:=hp.lt;have lq:=hq.lt;have lw:=hw.lt;have hwl:=hB.w x G0;have F0:=hr.out;rw[Q0,goT,←B1] at F0;replace F0:Hd _:=F0;replace ex:Hd _:=ex;clear hx L0 G0 Q0 hr B1 l1;refine zW tyF ?_;refine R1.cy fun K2 p1 p2 p3 p4=>?_;refine zG (qA tyF (ixC D0)) fun K3 l5=>?_;refine l5.out _ _ ?_;refine R1.gen (fun A4 H4=>Gr H3 H4∧H3.nx<H4.nx∧H4.get H3.nx=some (.arr [.i .i64 x.face,.i .i64 x.col,.i .i64 x.line,.i .i64 x.kind,p,q,.o (.str x.good),w] 69 0 0)∧slot A4.tm 1=.one ((.o (.ptr N 0 0 2)))∧slot A4.tm 3=.one (.i .i64 (i:Int))∧slot A4.tm 4=.one ((.o (.ptr H3.nx 0 0 8)))∧slot A4.tm 15=.one ((.o (.sl id g off l.length 8)))∧slot A4.tm 16=.one (.i .i64 (l.length:Int))∧slot A4.tm 17=.one (.i .i64 (i:Int))∧A4.nt=32∧A4.dfr=[])
   ⟨((Fr.refl _).new _).mod _ (.inl (zA1 _)),zA6 _,al rfl,zL⟩ ?_
  clear t1 t15 t16 t17 B0 C0 A y1 y2 l5 K3;rintro A H4 ⟨g34,mM,rM,t1,t3,t4,t15,t16,t17,B0,C0⟩;obtain ⟨M,hM⟩:∃ M,M=H3.nx:=⟨_,rfl⟩;rw[←hM] at mM rM t4;clear hM;have rx:=(g34.get _ m1 zB2).trans rx;have m1:=zA0 m1 g34.nx;have y1:True:=trivial;have y2:True:=trivial;have lp:=nv lp g34.nx;have lq:=nv lq g34.nx;have lw:=nv lw g34.nx;have l2:=nv l2 g34.nx;have Y1:dI H4 (.o (.sl id g off i 8)) (l.take i):=SlR.take (hb.gr (g3.gr g34)) (by omega);refine zG (qA tyF (qA (ixC D0) (qA (slH (show i≤l.length by omega)) Cf))) fun K3 l5=>?_;refine WE.con (xR H4 _ (l.take i) x p q w Y1 (hp.gr g34) (hq.gr g34) (hw.gr g34) (by omega) (by rw[List.length_take];omega)) fun w5 H5 g5 E5=>?_;subst E5;have g35:=g34.gr g5;clear g34 Y1 hp hq hw lp lq lw y1 y2 P0 hid;by_cases en:fI (l.take i) x=0
  ·have J0:=F0.out;rw[zB1 (fun h=>h en)] at J0;rw[en];replace J0:Hd _:=J0;clear F0 en;refine zK tyF ?_;refine p1.out _ _ ?_;refine zW tyF ?_;exact ⟨l.length - (i+1),by omega,i+1,rfl,D0,g3.gr g35,J0,zL⟩
  have hn:fI (l.take i) x=r0:=by rw[←F0.out];exact (zB0 en).symm
  have e2:(fI (l.take i) x==0)=false:=zB5 en;generalize fI (l.take i) x=e0 at hn e2;replace hn:Hd _:=hn;clear F0 en;refine zK tyF ?_;exact p4.out _ _ (k4.out _ _ (fin (e0) _ _ qp qe (g2.gr (g3.gr g35)) (hn.out)))
 have he:i=l.length:=by omega
 subst he;have hn:=hr.out;rw[List.drop_length,goT] at hn;replace hn:Hd _:=hn;clear hr;refine zW tyF ?_;refine k2.out _ _ ?_;refine zW tyF ?_;exact fin (0) _ _ qp qe (g2.gr g3) (hn.out)
theorem CU (H:Hp) (n:List UInt8) (b:AC) (l:List Cs) (hb:dI H b l) (hB:TbB l):Con E2 33 [.agg [.o (.str n),b]] H (fun _=>False) fun r _=>r=.one (.i .i64 (kC (n,l))):=by
 refine Con.of rfl fun lg=>?_;have hb:dI ⟨H.t,H.nx,lg⟩ b l:=hb;generalize (⟨H.t,H.nx,lg⟩:Hp)=H at hb ⊢;refine C1.body (E:=E2) (nt:=33) (res:=[.tmp 2]) Tryz.func33 rfl rfl rfl rfl rfl fun tm A0=>?_;have h0:=A0 0 _ rfl;clear A0;have fin:∀ (e:Int) (A:ab) (H3:Hp),slot A.tm 2=.one (.i .i64 e)→A.dfr=[]→Gr H H3→e=kC (n,l)→∃ w H4,an E2 [.tmp 2] (.ret,A,H3)=.ok [(w,H4)]∧Gr H H4∧∀ _:List Nat,w=.one (.i .i64 (kC (n,l))):=fun e A H3 h1 h2 h3 h4=>⟨_,H3,ah (.i .i64 e) (.inr rfl) h2 h1,h3,fun _=>by rw[h4]⟩;generalize E0:kC (n,l)=r0 at fin;have hl:l.length*120≤140737488355328:=hB.c;have lb:=hb.lt;refine zG tyF fun K hK=>?_;refine hK.out _ _ ?_;refine R1.gen (fun A1 H1=>Gr H H1∧H.nx<H1.nx∧H1.get H.nx=some (.arr [.o (.str n),b] 26 0 0)∧slot A1.tm 1=.one ((.o (.ptr H.nx 0 0 2)))∧A1.nt=33∧A1.dfr=[])
  ⟨(Fr.refl _).new _,zA6 _,aB rfl,zL⟩ ?_
 clear h0 tm hK K lb;rintro A1 H1 ⟨g1,m1,rx,t1,B0,C0⟩;obtain ⟨N,hN⟩:∃ N,N=H.nx:=⟨_,rfl⟩;rw[←hN] at m1 rx t1;clear hN;have hb:=hb.gr g1;replace E0:Hd _:=E0;refine zG (qA tyF iV) fun K hK=>?_;refine WE.con (dT _ n) fun w2 H2 g2 W1=>?_;subst W1;have rx:=(g2.get _ m1 zB2).trans rx;have m1:=zA0 m1 g2.nx;have hb:=hb.gr g2;have g2:=g1.gr g2;clear g1;cases e1:nmB n with
 | false=>
  have hn:40=r0:=by rw[←E0.out];exact (zB0 e1).symm
  replace hn:Hd _:=hn;clear E0;refine zK tyF ?_;exact fin (40) _ _ qp qe (g2) (hn.out)
 | true=>
 have hr:=E0.out;unfold kC at hr;rw[zB1 (by show ¬nmB n=false;rw[e1];decide)] at hr;clear E0;have l1:=hb.len;have l2:=hb.lt;by_cases q1:(256:Int)<l.length
 ·have hn:3=r0:=by rw[←hr];exact (zB0 q1).symm
  replace hn:Hd _:=hn;clear hr;refine zK tyF ?_;exact fin (3) _ _ qp qe (g2) (hn.out)
 have hn:Hd (goT [] l=r0):=by rw[←hr];exact (zB1 q1).symm
 clear hr;replace e1:Hd _:=e1;refine zK tyF ?_;refine R1.cy fun K k1 k2 k3 k4=>?_;refine R1.loop (fun z A H3=>∃ i:Nat,z=l.length - i∧i≤l.length∧Gr H2 H3∧Hd (goT (l.take i) (l.drop i)=r0)∧slot A.tm 1=.one ((.o (.ptr N 0 0 2)))∧slot A.tm 3=.one (.i .i64 (i:Int))∧A.nt=33∧A.dfr=[]) ?_ l.length
  ⟨0,rfl,Nat.zero_le _,Fr.refl _,hn,zL⟩
 clear t1 hn B0 C0 A1 l1 l2 k3;rintro z A H3 ⟨i,rfl,hi,g3,hr,t1,t3,B0,C0⟩;have F_:=hb.gr g3;have rx:=(g3.get _ m1 zB2).trans rx;have m1:=zA0 m1 g3.nx;have l1:=F_.len;have l2:=F_.lt;refine zW tyF ?_;refine zI tyF (fun hc=>?_) (fun hc=>?_)
 ·have D0:i<l.length:=by omega
  have ex:=zB4 D0;have Q0:=zC1 D0;have B1:=zC2 D0;have G0:l[i]∈l:=List.getElem_mem D0;generalize l[i]=x at ex Q0 B1 G0;have V0:=zC0 i (by omega);obtain ⟨id,g,off,cells,rfl,hid,P0,L0⟩:=F_.open (by omega);obtain ⟨p,q,w,hx⟩:=L0 i x ex;have y1:=hx.all;have y2:=hx.le;have hp:=hx.of1;have hq:=hx.of2;have hw:=hx.of3;have lp:=hp.lt;have lq:=hq.lt;have lw:=hw.lt;have hwl:=hB.w x G0;have F0:=hr.out;rw[Q0,goT,←B1] at F0;replace F0:Hd _:=F0;replace ex:Hd _:=ex;clear hx L0 G0 Q0 hr B1 l1;refine zW tyF ?_;refine R1.cy fun K2 p1 p2 p3 p4=>?_;obtain ⟨H4,hH4⟩:∃ H4,H4=H3:=⟨_,rfl⟩;have g34:Gr H3 H4:=by rw[hH4];exact Fr.refl _
  rw[←hH4];have G6:rowOf (H4.get id) g=some cells:=by rw[hH4];exact P0
  have O2:id<H4.nx:=by rw[hH4];exact hid
  have rx:=(g34.get _ m1 zB2).trans rx;have m1:=zA0 m1 g34.nx;have lp:=nv lp g34.nx;have lq:=nv lq g34.nx;have lw:=nv lw g34.nx;have l2:=nv l2 g34.nx;clear hH4;have Y1:dI H4 (.o (.sl id g off i 8)) (l.take i):=SlR.take (hb.gr (g3.gr g34)) (by omega);refine zG (qA tyF (qA (ixC D0) (qA (slH (show i≤l.length by omega)) Tj))) fun K3 l5=>?_;refine WE.con (OV H4 _ (l.take i) x p q w Y1 (hp.gr g34) (hq.gr g34) (hw.gr g34) (by omega) (by rw[List.length_take];omega)) fun w5 H5 g5 E5=>?_;subst E5;have g35:=g34.gr g5;clear g34 Y1 hp hq hw lp lq lw y1 y2 P0 hid;by_cases en:fI (l.take i) x=0
  ·have J0:=F0.out;rw[zB1 (fun h=>h en)] at J0;rw[en];replace J0:Hd _:=J0;clear F0 en;refine zK tyF ?_;refine p1.out _ _ ?_;refine zW tyF ?_;exact ⟨l.length - (i+1),by omega,i+1,rfl,D0,g3.gr g35,J0,zL⟩
  have hn:fI (l.take i) x=r0:=by rw[←F0.out];exact (zB0 en).symm
  have e2:(fI (l.take i) x==0)=false:=zB5 en;generalize fI (l.take i) x=e0 at hn e2;replace hn:Hd _:=hn;clear F0 en;refine zK tyF ?_;exact p4.out _ _ (k4.out _ _ (fin (e0) _ _ qp qe (g2.gr (g3.gr g35)) (hn.out)))
 have he:i=l.length:=by omega
 subst he;have hn:=hr.out;rw[List.drop_length,goT] at hn;replace hn:Hd _:=hn;clear hr;refine zW tyF ?_;refine k2.out _ _ ?_;refine zW tyF ?_;exact fin (0) _ _ qp qe (g2.gr g3) (hn.out)
theorem vZ:ak Tryz.prog 140=true:=by kernel_rfl
theorem GX:Tryz.prog.underlying 64=some (.slice 181):=by kernel_rfl
theorem Yy:∀ z:List AC,kh z 0=[]:=fun z=>rfl
theorem WL:type_of% (Wv tX GX):=Wv tX GX
theorem Ro {H:Hp} {v:AC} {e:TypeId} {sz n:Nat} {cells:List AC} {r:Option Nat} (h:dm H v e sz n cells r):∀ i∈(AV.one v).ids,r=some i:=by
 rcases h with ⟨rfl,_⟩|⟨id,lo,gen,h1,rfl,_⟩
 ·intro i hi;cases hi
 intro i hi;rw[List.mem_singleton.1 hi];exact h1
theorem tj (H:Hp) (v:AC) (l:List Gp) (hv:aM H v l) (hL:l.length*32≤140737488355328):
  Con E2 140 [.one v] H (fun _=>False) fun r H'=>∃ v',r=.one v'∧aM H' v' l∧∀ i∈(AV.one v').ids,H.nx≤i:=by
 refine Con.of rfl fun lg=>?_;have hv:aM ⟨H.t,H.nx,lg⟩ v l:=hv;have e0:H.nx=(⟨H.t,H.nx,lg⟩:Hp).nx:=rfl;rw[e0];clear e0;generalize (⟨H.t,H.nx,lg⟩:Hp)=H at hv ⊢;refine C1.body (E:=E2) (nt:=8) (res:=[.tmp 2]) Tryz.func140 rfl rfl rfl rfl rfl fun tm A0=>?_;have h0:=A0 0 _ rfl;clear A0;obtain ⟨z,hz,X0⟩:=PL;have X3:SlC H v 3 l.length (l.flatMap gpC):=hv;have D0:=hv.lt;rcases id X3 with ⟨hc,⟨rfl,V'⟩|⟨id,g,off,rfl,hid,hr⟩⟩
 ·have hl:l=[]:=List.eq_nil_of_length_eq_zero V';subst hl;clear hz X0 z X3 hc V' hv;refine zW (qA tyF WL) ?_;exact ⟨_,_,ah (.o .nilS) (.inr rfl) qe qp,Fr.refl _,fun _=>⟨_,rfl,aM.nil,fun i h=>by cases h⟩⟩
 obtain ⟨v',H',U1,ho,hf⟩:=Oo (P:=Tryz.prog) (H:=H.new (.arr [] 181 0 0)) (t:=64) (id:=H.nx) cB Kp hz X0 (by decide) (aB rfl) (zA6 _) (X3.gr ((Fr.refl _).new _)) (by omega);have hg:Gr H H':=((Fr.refl _).new _).then hf fun i h=>.inl (by omega);have hlt2:=ho.lt;clear hz X0 z hc;replace hv:Hd _:=hv;replace X3:Hd _:=X3;replace hr:Hd _:=hr;replace hf:Hd _:=hf;refine zW (qA tyF (qA WL Yy)) ?_;exact ⟨_,_,ah v' (.inr rfl) qe qp,hg,fun _=>⟨v',rfl,ho.slc,fun i h=>by have:=Ro ho i h;cases this;exact zA1 _⟩⟩
theorem vj (H:Hp) (v:AC) (l:List Pr) (hv:SlP H v l) (hL:l.length*24≤140737488355328):
  Con E2 75 [.one v] H (fun _=>False) fun r H'=>∃ v',r=.one v'∧SlP H' v' l∧∀ i∈(AV.one v').ids,H.nx≤i:=by
 refine Con.of rfl fun lg=>?_;have hv:SlP ⟨H.t,H.nx,lg⟩ v l:=hv;have e0:H.nx=(⟨H.t,H.nx,lg⟩:Hp).nx:=rfl;rw[e0];clear e0;generalize (⟨H.t,H.nx,lg⟩:Hp)=H at hv ⊢;refine C1.body (E:=E2) (nt:=7) (res:=[.tmp 2]) Tryz.func75 rfl rfl rfl rfl rfl fun tm A0=>?_;have h0:=A0 0 _ rfl;clear A0;obtain ⟨z,hz,X0⟩:=Uy;have X3:SlC H v 2 l.length (l.flatMap prC):=hv;obtain ⟨v',H',q,U1,hs,hg,hi⟩:=We (P:=Tryz.prog) (t:=67) rj Vj hz X0 (by decide) X3 (by omega);have D0:=hv.lt;clear hz X0 z;replace hv:Hd _:=hv;replace X3:Hd _:=X3;refine zW tyF ?_;exact ⟨_,_,ah v' (.inr rfl) qe qp,hg,fun _=>⟨v',rfl,hs.slc,fun i h=>hi i (Ro hs i h)⟩⟩
theorem De (H:Hp) (p q:AC) (x:Nm) (hp:aM H p x.1) (hq:aM H q x.2) (hL:x.1.length*32≤140737488355328∧x.2.length*32≤140737488355328):
  Con E2 78 [.agg [p,q]] H (fun _=>False) fun r H'=>∃ p' q',r=.agg [p',q']∧aM H' p' x.1∧aM H' q' x.2∧(∀ id∈(AV.one p').ids,H.nx≤id)∧∀ id∈(AV.one q').ids,H.nx≤id:=by
 refine Con.of rfl fun lg=>?_;have hp:aM ⟨H.t,H.nx,lg⟩ p x.1:=hp;have hq:aM ⟨H.t,H.nx,lg⟩ q x.2:=hq;have e0:H.nx=(⟨H.t,H.nx,lg⟩:Hp).nx:=rfl;rw[e0];clear e0;generalize (⟨H.t,H.nx,lg⟩:Hp)=H at hp hq ⊢;refine C1.body (E:=E2) (nt:=10) (res:=[.cell 2 66]) Tryz.func78 rfl rfl rfl rfl rfl fun tm A0=>?_;have h0:=A0 0 _ rfl;clear A0;have lp:=hp.lt;have lq:=hq.lt;refine zG tyF fun K hK=>?_;refine hK.out _ _ ?_;refine R1.gen (fun A1 H1=>Gr H H1∧H.nx+1<H1.nx∧H1.get H.nx=some (.arr [p,q] 66 0 0)∧H1.get (H.nx+1)=some (.arr [.o .nilS,.o .nilS] 66 0 0)∧slot A1.tm 1=.one ((.o (.ptr H.nx 0 0 2)))∧slot A1.tm 2=.one ((.o (.ptr (H.nx+1) 0 0 2)))∧A1.nt=10∧A1.dfr=[])
  ⟨((Fr.refl _).new _).new _,by show H.nx+1<H.nx+1+1;omega,by rw[aW (by show H.nx<H.nx+1;omega)];exact aB rfl,aB rfl,zL⟩ ?_
 clear h0 tm hK K lp lq;rintro A1 H1 ⟨g1,n1,r1,r2,t1,t2,B0,C0⟩;obtain ⟨N,hN⟩:∃ N,N=H.nx:=⟨_,rfl⟩;rw[←hN] at n1 r1 r2 t1 t2;replace hN:Hd _:=hN;have hp:=hp.gr g1;have hq:=hq.gr g1;have l1:N<H1.nx:=by omega
 have lp:=hp.lt;have lq:=hq.lt;repeat refine R1.aE ?_
 repeat refine R1.aE ?_
 (first|refine R1.ED (ms:=[0,1,3,0,8,31,63,127]) (by kernel_rfl) (by kernel_rfl) fun K hK=>?_|refine R1.e_drw (ms:=[0,1,3,0,8,31,63,127]) (by kernel_rfl) (by kernel_rfl) fun K hK=>?_)
 simp (config:={decide:=true}) only [qB,aC,Nat.reduceLT,Nat.reduceLeDiff,Nat.reduceAdd,Nat.reduceSub,qD,cP,bB,ad,t1,B0,r1,l1,bm,cm,bq,vZ]
 refine Mv (fun r H'=>∃ v',r=.one v'∧aM H' v' x.1∧∀ i∈(AV.one v').ids,H1.nx≤i) (fun v h1 h2 hg ⟨v',a,b,c⟩=>⟨v',a,b.gr hg,c⟩) ?_ (fun h hg hn=>by have:=tj h p x.1 (hp.gr hg) hL.1;rw[hn] at this;exact this) ?_
 ·exact unU (by simp (config:={decide:=true}) only [bB,if_true])
 rintro w kx H2 ⟨p',rfl,D2,ip⟩ hkx T4 g2;subst T4;have r1:H2.get N=some (.arr [p,q] 66 0 0):=by rw[g2.get _ l1 zB2];exact r1
 have r2:H2.get (N+1)=some (.arr [.o .nilS,.o .nilS] 66 0 0):=by rw[g2.get _ n1 zB2];exact r2
 have n2:N+1<H2.nx:=zA0 n1 g2.nx;have l2:N<H2.nx:=by omega
 simp (config:={decide:=true}) only [qB,Nat.reduceLT,Nat.reduceAdd,qD,cP,bB,t1,B0,r1,l1,l2]
 refine Mv (fun r H'=>∃ v',r=.one v'∧aM H' v' x.2∧∀ i∈(AV.one v').ids,H2.nx≤i) (fun v h1 h2 hg ⟨v',a,b,c⟩=>⟨v',a,b.gr hg,c⟩) ?_ (fun h hg hn=>by have:=tj h q x.2 ((hq.gr g2).gr hg) hL.2;rw[hn] at this;exact this) ?_
 ·exact unU (by simp (config:={decide:=true}) only [bB,if_true])
 rintro w kx H3 ⟨q',rfl,Z2,iq⟩ hkx hn3 g3;subst hn3;have r2:H3.get (N+1)=some (.arr [.o .nilS,.o .nilS] 66 0 0):=by rw[g3.get _ n2 zB2];exact r2
 have n3:N+1<H3.nx:=zA0 n2 g3.nx;have a9:=D2.gr g3;have g13:=(g1.gr g2).gr g3;have i12:=g1.nx;have i23:=g2.nx;replace i12:Hd _:=i12;replace i23:Hd _:=i23;have keep:∀ {u:AC} {l:List Gp},aM H3 u l→(∀ id∈(AV.one u).ids,H1.nx≤id)→aM (H3.mod (N+1) (.arr [p',q'] 66 0 0)) u l:=fun hu hi=>SlC.fr hu (X:=fun k=>k=N+1) ((Fr.refl _).mod _ (.inr rfl)) fun id h hh=>by have:=hi id h;omega
 have kp:=keep a9 ip;have kq:=keep Z2 (fun i h=>by have:=iq i h;have:=i23.out;omega);clear keep;replace kp:Hd _:=kp;replace kq:Hd _:=kq;simp (config:={decide:=true}) only [qB,Nat.reduceLeDiff,Nat.reduceAdd,qD,cP,ee,bB,t2,B0,MR wO Co,rk,qb,CW,r2,n3]
 refine hK _ _ ?_;clear hK K;refine qV ?_;exact ⟨_,_,eF (id:=N+1) (g:=0) mD (.inr rfl) (by simp only[aj,C0];rfl) (by simp only[aa,Nat.reduceEqDiff,reduceIte,t2]) (by rw[al rfl];exact bF (zA1 _) (zA1 _)) (zA1 _) rfl,g13.mod _ (.inl (by have:=hN.out;omega)),fun _=>⟨p',q',rfl,kp.out,kq.out,fun id h=>by have:=ip id h;have:=i12.out;omega,fun id h=>by have:=iq id h;have:=i12.out;have:=i23.out;omega⟩⟩
theorem uU:ak Tryz.prog 74=true:=by kernel_rfl
theorem xF:ak Tryz.prog 75=true:=by kernel_rfl
def csC (c:Cs) (p q w:AC):List AC:=[.i .i64 c.face,.i .i64 c.col,.i .i64 c.line,.i .i64 c.kind,p,q,.o (.str c.good),w]
theorem Ma (c:Cs) (p q w:AC):csC c p q w=[.i .i64 c.face,.i .i64 c.col,.i .i64 c.line,.i .i64 c.kind,p,q,.o (.str c.good),w]:=rfl
def MK (n:Nat) (c:Cs) (r:AV) (H:Hp):Prop:=∃ c',r=.agg c'∧c'.length=8∧CsR H c' c∧∀ id∈ju c',n≤id
theorem xN (H:Hp) (c:Cs) (p q w:AC) (hp:aM H p c.num.1) (hq:aM H q c.num.2) (hw:SlP H w c.ws) (hL:c.num.1.length*32≤140737488355328∧c.num.2.length*32≤140737488355328) (hW:c.ws.length*24≤140737488355328):
  Con E2 30 [.agg [.i .i64 c.face,.i .i64 c.col,.i .i64 c.line,.i .i64 c.kind,p,q,.o (.str c.good),w]] H (fun _=>False) fun r H'=>MK H.nx c r H':=by
 unfold MK;refine Con.of rfl fun lg=>?_;have hp:aM ⟨H.t,H.nx,lg⟩ p c.num.1:=hp;have hq:aM ⟨H.t,H.nx,lg⟩ q c.num.2:=hq;have hw:SlP ⟨H.t,H.nx,lg⟩ w c.ws:=hw;have e0:H.nx=(⟨H.t,H.nx,lg⟩:Hp).nx:=rfl;rw[e0];clear e0;generalize (⟨H.t,H.nx,lg⟩:Hp)=H at hp hq hw ⊢;refine C1.body (E:=E2) (nt:=12) (res:=[.cell 2 69]) Tryz.func30 rfl rfl rfl rfl rfl fun tm A0=>?_;have h0:=A0 0 _ rfl;clear A0;have lp:=hp.lt;have lq:=hq.lt;have lw:=hw.lt;refine zG tyF fun K hK=>?_;refine hK.out _ _ ?_;refine R1.gen (fun A1 H1=>Gr H H1∧H.nx+1<H1.nx∧H1.get H.nx=some (.arr [.i .i64 c.face,.i .i64 c.col,.i .i64 c.line,.i .i64 c.kind,p,q,.o (.str c.good),w] 69 0 0)∧H1.get (H.nx+1)=some (.arr [.i .i64 0,.i .i64 0,.i .i64 0,.i .i64 0,.o .nilS,.o .nilS,.o (.str []),.o .nilS] 69 0 0)∧slot A1.tm 1=.one ((.o (.ptr H.nx 0 0 8)))∧slot A1.tm 2=.one ((.o (.ptr (H.nx+1) 0 0 8)))∧A1.nt=12∧A1.dfr=[])
  ⟨((Fr.refl _).new _).new _,by show H.nx+1<H.nx+1+1;omega,by rw[aW (by show H.nx<H.nx+1;omega)];exact aB rfl,aB rfl,zL⟩ ?_
 clear h0 tm hK K lp lq lw;rintro A1 H1 ⟨g1,n1,r1,r2,t1,t2,B0,C0⟩;obtain ⟨N,hN⟩:∃ N,N=H.nx:=⟨_,rfl⟩;rw[←hN] at n1 r1 r2 t1 t2;replace hN:Hd _:=hN;have hp:=hp.gr g1;have hq:=hq.gr g1;have hw:=hw.gr g1;have l1:N<H1.nx:=by omega
 have lp:=hp.lt;have lq:=hq.lt;refine zG (qA tyF uU) fun K hK=>?_;refine WE.con (zQ H1 p q c.num hp hq hL) fun w2 H2 g2 ⟨p',q',W1,D2,Z2,ip,iq⟩=>?_;subst W1;have r1:=(g2.get _ l1 zB2).trans r1;have l1:=zA0 l1 g2.nx;have r2:=(g2.get _ n1 zB2).trans r2;have n1:=zA0 n1 g2.nx;have g12:=g1.gr g2;have i1:=g1.nx;have i2:=g2.nx;have kf:Fr (fun k=>k=N) H2 (H2.mod N (.arr [.i .i64 c.face,.i .i64 c.col,.i .i64 c.line,.i .i64 c.kind,p',q',.o (.str c.good),w] 69 0 0)):=(Fr.refl _).mod _ (.inr rfl);have jp:∀ i∈(AV.one p').ids,H.nx≤i∧¬(i=N∨i=N+1):=fun i h=>by have:=ip i h;have:=hN.out;omega
 have jq:∀ i∈(AV.one q').ids,H.nx≤i∧¬(i=N∨i=N+1):=fun i h=>by have:=iq i h;have:=hN.out;omega
 have gm:Gr H (H2.mod N (.arr [.i .i64 c.face,.i .i64 c.col,.i .i64 c.line,.i .i64 c.kind,p',q',.o (.str c.good),w] 69 0 0)):=g12.mod _ (.inl (by have:=hN.out;omega));have kp:=SlC.fr D2 kf fun i h e=>(jp i h).2 (.inl e);have kq:=SlC.fr Z2 kf fun i h e=>(jq i h).2 (.inl e);clear kf ip iq i1 i2 lp lq g1 g2;replace jp:Hd _:=jp;replace jq:Hd _:=jq;replace kp:Hd _:=kp;replace kq:Hd _:=kq;replace gm:Hd _:=gm;refine zS tyF ?_;refine hK.out _ _ ?_;refine R1.gen (fun A4 H4=>Gr H H4∧N+1<H4.nx∧H4.get N=some (.arr [.i .i64 c.face,.i .i64 c.col,.i .i64 c.line,.i .i64 c.kind,p',q',.o (.str c.good),w] 69 0 0)∧H4.get (N+1)=some (.arr [.i .i64 0,.i .i64 0,.i .i64 0,.i .i64 0,.o .nilS,.o .nilS,.o (.str []),.o .nilS] 69 0 0)∧aM H4 p' c.num.1∧aM H4 q' c.num.2∧slot A4.tm 1=.one ((.o (.ptr N 0 0 8)))∧slot A4.tm 2=.one ((.o (.ptr (N+1) 0 0 8)))∧A4.nt=12∧A4.dfr=[])
  ⟨gm.out,n1,al rfl,by rw[aI (by omega)];exact r2,kp.out,kq.out,zL⟩ ?_
 clear t1 t2 B0 C0 A1 r1 r2 g12 gm kp kq D2 Z2 hK K;rintro A H4 ⟨g4,n4,r1,r2,hp4,X6,t1,t2,B0,C0⟩;have l4:N<H4.nx:=by omega
 have hw4:SlP H4 w c.ws:=SlP.gr (by assumption) g4;have lw:=hw4.lt;refine zG (qA tyF xF) fun K hK=>?_;refine WE.con (vj H4 w c.ws hw4 hW) fun w5 H5 g5 ⟨w',E5,S1,iw⟩=>?_;subst E5;have r1:=(g5.get _ l4 zB2).trans r1;have l4:=zA0 l4 g5.nx;have r2:=(g5.get _ n4 zB2).trans r2;have n4:=zA0 n4 g5.nx;have g45:=g4.gr g5;have hp5:=hp4.gr g5;have E5:=X6.gr g5;have i4:=g4.nx;have i5:=g5.nx;have jw:∀ i∈(AV.one w').ids,H.nx≤i∧¬(i=N∨i=N+1):=fun i h=>by have:=iw i h;have:=hN.out;omega
 have keep:Fr (fun k=>k=N∨k=N+1) H5 ((H5.mod N (.arr [.i .i64 c.face,.i .i64 c.col,.i .i64 c.line,.i .i64 c.kind,p',q',.o (.str c.good),w'] 69 0 0)).mod (N+1) (.arr [.i .i64 c.face,.i .i64 c.col,.i .i64 c.line,.i .i64 c.kind,p',q',.o (.str c.good),w'] 69 0 0)):=((Fr.refl _).mod _ (.inr (.inl rfl))).mod _ (.inr (.inr rfl));have kp:=SlC.fr hp5 keep fun i h=>(jp.out i h).2;have kq:=SlC.fr E5 keep fun i h=>(jq.out i h).2;have kw:=SlC.fr S1 keep fun i h=>(jw i h).2;clear keep i4 i5 g5 hw4 hp4 X6 lw S1 hp5 E5;replace kp:Hd _:=kp;replace kq:Hd _:=kq;replace kw:Hd _:=kw;replace jw:Hd _:=jw;refine zK tyF ?_;exact ⟨_,_,eF (id:=N+1) (g:=0) BJ (.inr rfl) (by simp only[aj,C0];rfl) (by simp only[aa,Nat.reduceEqDiff,reduceIte,t2]) (by rw[al rfl];exact bF (zA1 _) (zA1 _)) (zA1 _) rfl,(g45.mod _ (.inl (by have:=hN.out;omega))).mod _ (.inl (by have:=hN.out;omega)),fun _=>⟨_,rfl,rfl,⟨p',q',w',rfl,kp.out,kq.out,kw.out⟩,fun i hi=>by
  have W9:i∈ju [.i .i64 c.face,.i .i64 c.col,.i .i64 c.line,.i .i64 c.kind,p',q',.o (.str c.good),w']:=hi;rw[Dd] at W9;rcases List.mem_append.1 W9 with h|h
  ·exact (jp.out i h).1
  rcases List.mem_append.1 h with h|h
  ·exact (jq.out i h).1
  exact (jw.out i h).1⟩⟩
theorem CI:ak Tryz.prog 30=true:=by kernel_rfl
theorem MK.open {n:Nat} {c:Cs} {r:AV} {H:Hp} (h:MK n c r H):∃ p q w,r=.agg [.i .i64 c.face,.i .i64 c.col,.i .i64 c.line,.i .i64 c.kind,p,q,.o (.str c.good),w]∧CsR H [.i .i64 c.face,.i .i64 c.col,.i .i64 c.line,.i .i64 c.kind,p,q,.o (.str c.good),w] c∧∀ id∈ju [.i .i64 c.face,.i .i64 c.col,.i .i64 c.line,.i .i64 c.kind,p,q,.o (.str c.good),w],n≤id:=by
 obtain ⟨c',h1,h2,h3,h4⟩:=h;obtain ⟨p,q,w,rfl,h5⟩:=h3;exact ⟨p,q,w,h1,⟨p,q,w,rfl,h5⟩,h4⟩
theorem bK.lg {α:Type} {R:Hp→List AC→α→Prop} (hlg:∀ H lg c x,R H c x→R ⟨H.t,H.nx,lg⟩ c x) {sz:Nat} {e:TypeId} {X:Nat→Prop} {H:Hp} {v:AC} {l:List α} {r:Option Nat} (h:bK R sz e X H v l r) (lg:List Nat):bK R sz e X ⟨H.t,H.nx,lg⟩ v l r where
 row:=h.row
 own:=let ⟨css,a,b⟩:=h.own;⟨css,a,b.mono fun c x ⟨h1,h2,h3⟩=>⟨h1,hlg _ _ _ _ h2,h3⟩⟩
theorem Yg:∀ (H:Hp) (lg:List Nat) (c:List AC) (x:Cs),CsR H c x→CsR ⟨H.t,H.nx,lg⟩ c x:=fun _ _ _ _ h=>h
theorem DI (H:Hp) (n:List UInt8) (v:AC) (l:List Cs) (hv:dI H v l) (hB:TbB l):
  Con E2 8 [.agg [.o (.str n),v]] H (fun _=>False) fun r H'=>∃ v' q,r=.agg [.o (.str n),v']∧bK CsR 8 69 (fun i=>i<H.nx) H' v' l q:=by
 refine Con.of rfl fun lg=>?_;have hv:dI ⟨H.t,H.nx,lg⟩ v l:=hv;have e0:H.nx=(⟨H.t,H.nx,lg⟩:Hp).nx:=rfl;rw[e0];clear e0;generalize (⟨H.t,H.nx,lg⟩:Hp)=H at hv ⊢;refine C1.body (E:=E2) (nt:=27) (res:=[.cell 2 26]) Tryz.func8 rfl rfl rfl rfl rfl fun tm A0=>?_;have h0:=A0 0 _ rfl;clear A0;have hl:l.length*120≤140737488355328:=hB.c;obtain ⟨z,hz,X0⟩:=Wm;replace hz:Hd _:=hz;replace X0:Hd _:=X0;have lv:=hv.lt;refine zW tyF ?_;refine R1.gen (fun A1 H1=>Gr H H1∧H.nx+3=H1.nx∧H1.get H.nx=some (.arr [.o (.str n),v] 26 0 0)∧H1.get (H.nx+1)=some (.arr [.o (.str []),.o .nilS] 26 0 0)∧H1.get (H.nx+2)=some (.arr [.o (.str n),.o .nilS] 26 0 0)∧slot A1.tm 1=.one ((.o (.ptr H.nx 0 0 2)))∧slot A1.tm 2=.one ((.o (.ptr (H.nx+1) 0 0 2)))∧slot A1.tm 3=.one ((.o (.ptr (H.nx+2) 0 0 2)))∧slot A1.tm 4=.one (.i .i64 (0:Int))∧A1.nt=27∧A1.dfr=[])
  ⟨((((Fr.refl _).new _).new _).new _).mod _ (.inl (by show H.nx≤H.nx+1+1;omega)),rfl,by rw[aI (by show H.nx≠H.nx+1+1;omega),aW (by show H.nx<H.nx+1+1;omega),aW (by show H.nx<H.nx+1;omega)];exact aB rfl,by rw[aI (by show H.nx+1≠H.nx+1+1;omega),aW (by show H.nx+1<H.nx+1+1;omega)];exact aB rfl,al rfl,zL⟩ ?_
 clear h0 tm lv;rintro A1 H1 ⟨g1,n1,r0,r1,r2,t1,t2,t3,t4,B0,C0⟩;obtain ⟨N,hN⟩:∃ N,N=H.nx:=⟨_,rfl⟩;rw[←hN] at n1 r0 r1 r2 t1 t2 t3;replace hN:Hd _:=hN;have n0:N+3≤H1.nx:=Nat.le_of_eq n1;clear n1;refine R1.cy fun K k1 k2 k3 k4=>?_;refine R1.loop (fun k A H2=>∃ (i:Nat) (v':AC) (r:Option Nat),k=l.length - i∧i≤l.length∧Gr H H2∧N+3≤H2.nx∧H2.get N=some (.arr [.o (.str n),v] 26 0 0)∧H2.get (N+1)=some (.arr [.o (.str []),.o .nilS] 26 0 0)∧H2.get (N+2)=some (.arr [.o (.str n),v'] 26 0 0)∧bK CsR 8 69 (fun i=>i<N+3) H2 v' (l.take i) r ∧
   slot A.tm 1=.one ((.o (.ptr N 0 0 2)))∧slot A.tm 2=.one ((.o (.ptr (N+1) 0 0 2)))∧slot A.tm 3=.one ((.o (.ptr (N+2) 0 0 2)))∧slot A.tm 4=.one (.i .i64 (i:Int))∧A.nt=27∧A.dfr=[]) ?_ l.length
  ⟨0,.o .nilS,none,rfl,Nat.zero_le _,g1,n0,r0,r1,r2,bK.nil,zL⟩
 clear t1 t2 t3 t4 B0 C0 A1 r0 r1 r2 k3 g1 n0 H1;rintro k A H2 ⟨i,v',r,rfl,hi,g2,n2,r0,r1,r2,ho,t1,t2,t3,t4,B0,C0⟩;have X1:=hv.gr g2;have m0:N<H2.nx:=by omega
 have m1:N+1<H2.nx:=by omega
 have m2:N+2<H2.nx:=by omega
 have lv:=X1.lt;have ll:=X1.len;refine zW tyF ?_;refine zI tyF (fun hc=>?_) (fun hc=>?_)
 ·have D0:i<l.length:=by omega
  have ex:=zB4 D0;have Q0:=zC1 D0;have B1:=zC2 D0;have G0:l[i]∈l:=List.getElem_mem D0;generalize l[i]=x at ex Q0 B1 G0;have V0:=zC0 i (by omega);have hlen:(l.take i).length=i:=by rw[List.length_take];omega
  obtain ⟨id,g,off,cells,rfl,hid,P0,L0⟩:=X1.open (by omega);obtain ⟨p,q,w,hx⟩:=L0 i x ex;have y1:=hx.all;have y2:=hx.le;have hp:=hx.of1;have hq:=hx.of2;have hw:=hx.of3;have lp:=hp.lt;have lq:=hq.lt;have lw:=hw.lt;have hBn:=hB.n x G0;have hBw:=hB.w x G0;have lo:=ho.lt;clear hx L0 Q0 ex G0 ll;replace B1:Hd _:=B1;replace hlen:Hd _:=hlen;refine zW tyF ?_;refine R1.cy fun K2 p1 p2 p3 p4=>?_;refine zH (qA tyF (qA (ixC D0) CI)) fun K3 l5=>?_;refine WE.Rc (xN H2 x p q w hp hq hw hBn hBw) fun w5 H5 g5 U3=>?_;obtain ⟨p',q',w',rfl,F4,F6⟩:=U3.open;have r0:=(g5.get _ m0 zB2).trans r0;have m0:=zA0 m0 g5.nx;have r1:=(g5.get _ m1 zB2).trans r1;have m1:=zA0 m1 g5.nx;have r2:=(g5.get _ m2 zB2).trans r2;have m2:=zA0 m2 g5.nx;have k9:=ho.gr CQ CE g5;have g25:=g2.gr g5;have V2:∀ id∈ju [.i .i64 x.face,.i .i64 x.col,.i .i64 x.line,.i .i64 x.kind,p',q',.o (.str x.good),w'],¬id<N+3∧some id≠r:=fun id hid=>by
   have h1:=F6 id hid;refine ⟨by omega,fun e=>?_⟩;have:=(ho.row id e.symm).2;omega
  obtain ⟨N4,v7,H7,r7,U1,j9,W4,hr7⟩:=k9.push CQ CE vA VT hz.out X0.out (by decide) (fun i h=>by omega) rfl F4 V2 (by have:=hlen.out;omega);have r07:=(W4.get _ m0 fun e=>(k9.row _ e).1 (by omega)).trans r0;have r17:=(W4.get _ m1 fun e=>(k9.row _ e).1 (by omega)).trans r1;have r27:=(W4.get _ m2 fun e=>(k9.row _ e).1 (by omega)).trans r2;have m17:=zA0 m1 W4.nx;have m27:=zA0 m2 W4.nx;have g27:Gr H H7:=g25.then W4 fun q hq=>.inl (by have:=(k9.row q hq).1;have:=hN.out;omega);have ho8:=j9.fr CQ CE (Y:=fun i=>i=N+2) (H':=H7.mod (N+2) (.arr [.o (.str n),v7] 26 0 0)) ((Fr.refl _).mod _ (.inr rfl)) fun i h=>.inl (by omega);rw[←B1.out] at ho8;have nx7:N+3≤H7.nx:=by omega
  have gm:=g27.mod (i:=N+2) (.arr [.o (.str n),v7] 26 0 0) (.inl (by have:=hN.out;omega));clear ho k9 j9 V2 F6 F4 U3 hp hq hw g25 g5 W4 hr7 r0 r1 r2 g27 lo y1 y2 P0 hid lp lq lw lv X1;replace ho8:Hd _:=ho8;replace gm:Hd _:=gm;refine zS (qA tyF iz) ?_;refine ⟨N4,?_⟩;refine zK tyF ?_;refine p1.out _ _ ?_;refine zW tyF ?_;exact ⟨l.length - (i+1),by omega,i+1,v7,some r7,rfl,D0,gm.out,nx7,(aI (by omega)).trans r07,(aI (by omega)).trans r17,al rfl,ho8.out,zL⟩
 have C2:i=l.length:=by omega
 subst C2;rw[List.take_length] at ho;have ho9:=(ho.fr CQ CE (Y:=fun i=>i=N+1) (H':=H2.mod (N+1) (.arr [.o (.str n),v'] 26 0 0)) ((Fr.refl _).mod _ (.inr rfl)) fun i h=>.inl (by omega)).less (X':=fun i=>i<H.nx) fun i h=>by have:=hN.out;omega
 have gm:=g2.mod (i:=N+1) (.arr [.o (.str n),v'] 26 0 0) (.inl (by have:=hN.out;omega));have lo:=ho.lt;clear ho X1 lv ll;replace ho9:Hd _:=ho9;replace gm:Hd _:=gm;refine zW tyF ?_;refine k2.out _ _ ?_;refine zW tyF ?_;exact ⟨_,_,eF (id:=N+1) (g:=0) Jj (.inr rfl) (by simp only[aj,C0];rfl) (by simp only[aa,Nat.reduceEqDiff,reduceIte,t2]) (by rw[al rfl];exact bF (zA1 _) (zA1 _)) (zA1 _) rfl,gm.out,fun lg=>⟨v',r,rfl,bK.lg Yg ho9.out lg⟩⟩
def slN (H:Hp) (alt:ae) (x y:AV):ae:=
 match x,y with
 | .one (.o .nilS),.one (.i .i64 (.ofNat 0))=>.val (.one (.o .nilS)) H
 | _,_=>alt
theorem WC {H:Hp} {alt:ae}:slN H alt (.one (.o .nilS)) (.one (.i .i64 0))=.val (.one (.o .nilS)) H:=rfl
theorem tg {H:Hp} {sz:Nat} {lo hi:Option AV} {alt:ae}:dk H sz (.one (.o .nilS)) lo hi alt=alt:=rfl
end Go.Proofs.YtnhbkodnmkojpaaGreat
end
