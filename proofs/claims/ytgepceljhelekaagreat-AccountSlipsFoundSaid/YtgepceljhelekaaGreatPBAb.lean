/- A part of the proof. -/
import Derived.Test.YtgepceljhelekaaGreatPBAa
import Derived.Orders
import Derived.Laws.MakeOwn
import Derived.LoopNIn
set_option maxRecDepth 100000
set_option maxHeartbeats 64000000
set_option linter.all false
namespace Go.Eng
open Go
section
variable{P:Program}{m:Nat}{β:Pl}{H:Hp}{w:World}
def aac(hR:Rel m β H w){sz:Nat}{x:AV}{v:Value}(hx:AR β x v){n:Nat}{c:List AC}(h:mB H sz x=some (n,c)):
  (n=0/\c=[]/\v=.slice none 0 0)\/∃(o':Addr)(cap:Nat)(vs:List Value),v=.slice (some o') n cap/\vs.length=n*sz/\CRs β c vs /\
   ∀w':World,(∀b,b<w.heap.size->w'.heap[b]?=w.heap[b]?)->∀j u,vs[j]?=some u->w'.cell? (o'.add j)=some u:=by
 unfold mB at h;split at h
 ·rename_i id g off len sz'
  split at h
  ·rename_i c' M1 hc'
   cases h
   have hs:sz'=sz:=aN M1;subst hs;obtain⟨p,cap,o',hp,hlen,hcap,rfl,hex⟩:=hx;obtain⟨cells,hD,h3,h4,rfl⟩:=sy hc';have hr:=hD hR hp;obtain⟨vs,U1,T4,G4⟩:=lO hr off (Nat.mul n sz') hlen;refine .inr ⟨o',cap,vs,rfl,U1,T4,λw' Q2 j u hu=>?_⟩;have hb:p.b<w.heap.size:=by obtain⟨cc,_,_,Z2,_⟩:=hr;exact dt Z2
   have D0:=(List.getElem?_eq_some_iff.1 hu).1;have hj:j<n*sz':=by rw[U1]at D0;exact D0
   have I5:0<n:=by
    rcases rP n with h0|h0
    ·rw[h0]at hj;omega
    exact h0
   have Z3:o'=⟨p.b,p.o+off,none⟩:=by
    rcases hex with h|h
    ·omega
    exact h.1
   subst Z3;have:=G4 j u hu;rw[<-this];have e:((⟨p.b,p.o+off,none⟩:Addr).add j).block=p.b:=by unfold Addr.add;split<;>rfl
   exact World.cell?_of_block (by rw[e];exact Q2 p.b hb)
  cases h
 ·cases h
  exact .inl ⟨rfl,rfl,hx⟩
 cases h
def iV{sz n:Nat}{o':Addr}{cap:Nat}{vs:List Value}{w':World}(hl:vs.length=n*sz)(h:∀j u,vs[j]?=some u->w'.cell? (o'.add j)=some u)(len:Nat):
  (Builtin.firstCells sz n (.slice (some o') len cap)).run P w'=.ok vs.toArray w':=run_firstCells_some (P:=P) w' sz n o' len cap vs hl h
def Br{cells:List AC}{e:TypeId}{p:Place}(h:je β w cells e p){c:List AC}{vs:List Value}(hc:CRs β c vs){pre:List AC}(k0:Nat)(C4:k0+pre.length<=p.hi)(D7:pre=(cells.drop k0).take pre.length)
  (D4:p.o+k0+pre.length+c.length<=p.n):
  ∃cur:Array Value,w.heap[p.b]?=some (.cells cur e (0,0))/\p.o+k0+pre.length+vs.length<=cur.size /\
   je β (w.setRow p.b (cur.toList.take (p.o+k0+pre.length)++vs++cur.toList.drop (p.o+k0+pre.length+vs.length)).toArray) (pre++c) e ⟨p.b,p.o+k0,p.n,pre.length+c.length⟩:=by
 obtain⟨cur,h1,h2,h3,h4,h5⟩:=h;have hl:=hc.length;refine⟨cur,h1,aa,?_⟩;have hfit':p.o+k0+pre.length+vs.length<=cur.toList.length:=by simp;omega
 refine⟨_,setRow_heap w p.b cur _ e _ h1,?_,?_,?_,?_⟩
 ·rw[bW,pj,ir _ _ _ hfit'];simpa using h2
 ·show p.o+k0+(pre.length+c.length)<=p.n;omega
 ·show pre.length+c.length<=(pre++c).length;simp
 intro k x hk hx;have J4:k<pre.length+c.length:=hk;show∃v,(List.toArray (cur.toList.take (p.o+k0+pre.length)++vs++cur.toList.drop (p.o+k0+pre.length+vs.length)))[p.o+k0+k]?=some v/\CR β x v
 rw[bW,zk,jq _ _ _ _ hfit'];by_cases a1:k<pre.length
 ·rw[gR a1]at hx;rw[ad aa];have S4:cells[k0+k]?=some x:=by
   have e1:((cells.drop k0).take pre.length)[k]?=some x:=by rw[<-D7];exact hx
   rw[lR,ad a1,gS]at e1;exact e1
  obtain⟨v,hv,hr⟩:=h5 (k0+k) x aa S4;exact⟨v,by rw[lS,kg];exact hv,hr⟩
 rw[mV aa]at hx;rw[ab aa,ad aa];have D0:k-pre.length<vs.length:=aa;refine⟨vs[k-pre.length],?_,hc.get _ x _ hx (aO D0)⟩;rw[show p.o+k0+k-(p.o+k0+pre.length)=k-pre.length from by omega,aO D0]
def Eb{pre c:List AC}{us vs:List Value}(hp:CRs β pre us)(hc:CRs β c vs)(e:TypeId)(tail:Array Value)(w0:World)(hw:w0.heap=w.heap):
  je β { w0 with heap:=w0.heap.push (.cells (us.toArray++vs.toArray++tail) e) } (pre++c) e ⟨w.heap.size,0,us.length+vs.length+tail.size,pre.length+c.length⟩:=by
 have h1:=hp.length;have h2:=hc.length;refine⟨us.toArray++vs.toArray++tail,?_,by simp,?_,?_,?_⟩
 ·show(w0.heap.push _)[w.heap.size]?=_;rw[<-hw,GC]
 ·show 0+(pre.length+c.length)<=us.length+vs.length+tail.size;omega
 ·show pre.length+c.length<=(pre++c).length;simp
 intro k x hk hx;have J4:k<pre.length+c.length:=hk;have Z2:=(hp.append hc);have D0:k<(us++vs).length:=by simp;omega
 refine⟨(us++vs)[k],?_,Z2.get k x _ hx (aO D0)⟩;show(us.toArray++vs.toArray++tail)[0+k]?=_;rw[Nat.zero_add,GD (by simp;simp at D0;omega)];rw[<-lS,Array.toList_append,aO]
def Cc(t ty e:TypeId)(i:TypeInfo)(ht:P.underlying t=some (.slice e))(hi:P.info? e=some i)
  (g o sLen sCap:Nat) (cur:Array Value) (hg:w.heap[g]?=some (.cells cur e (0,0)))
  (v:Value) (m:Nat) (news:List Value) (hv:(Builtin.lenOf v).run P w=.ok m w) (hn:(Builtin.firstCells i.size m v).run P w=.ok news.toArray w) (h1:∀u∈news,u.oneCell'=true)
  (O5:sLen+m<=sCap) (D4:o+sLen*i.size+news.length<=cur.size):
  (Builtin.append_ #[t,t] ty #[.slice (some ⟨g,o,none⟩) sLen sCap,v]).run P w =
   .ok (.slice (some ⟨g,o,none⟩) (sLen+m) sCap) (w.setRow g (cur.toList.take (o+sLen*i.size)++news++cur.toList.drop (o+sLen*i.size+news.length)).toArray):=by
 have X3:=run_storeCells_at P g (o+sLen*i.size) e news 0 cur w hg (by simpa using D4) h1;simp only[Nat.add_zero]at X3;simp[Builtin.append_,run_underlying ht,sizeOf,typeInfo,hi,hv,O5,hn,pN,X3]
def rz(t ty e:TypeId)(i:TypeInfo)(z:Value)(ht:P.underlying t=some (.slice e))(hi:P.info? e=some i)(hz:i.zero=some z)
  (s:Option Addr) (sLen sCap:Nat) (olds:List Value) (ho:(Builtin.firstCells i.size sLen (.slice s sLen sCap)).run P w.drew=.ok olds.toArray w.drew)
  (v:Value) (m:Nat) (news:List Value) (hv:(Builtin.lenOf v).run P w=.ok m w) (hn:(Builtin.firstCells i.size m v).run P w.drew=.ok news.toArray w.drew)
  (hg:sCap<sLen+m) (hb:(sLen+m)*i.bytes<=140737488355328) (h63:sLen+m<=140737488355328):
  (Builtin.append_ #[t,t] ty #[.slice s sLen sCap,v]).run P w =
   .ok (.slice (some ⟨w.heap.size,0,none⟩) (sLen+m) (grownCap w (sLen+m) sCap e))
    (w.drew.alloc (.cells (olds.toArray++news.toArray++Builtin.zeroCells z.cells (grownCap w (sLen+m) sCap e-(sLen+m))) e)):=by
 have hn':¬(sLen+m<=sCap):=aa;have h63':¬(9223372036854775807<((sLen:Int)+(m:Int))):=aa;have h48':¬(281474976710656<Builtin.nextslicecap (sLen+m) sCap*i.bytes):=by have:=growslice_fits hg hb;omega
 simp[Builtin.append_,run_underlying ht,sizeOf,typeInfo,zeroValue,hi,hz,hv,hn',h63',h48',Question.forced,hn,ho,Go.newRow,grownCap];congr 2
 apply wq;simp[bW]
def Ve{cells:List AC}{e:TypeId}{p:Place}(h:je β w cells e p)(c:List AC):je β w (cells++c) e p:=by obtain⟨cc,r1,r2,r3,r4,r5⟩:=h;refine⟨cc,r1,r2,r3,by rw[bA];omega,λj y hj hy=>?_⟩;rw[gR aa]at hy;exact r5 j y hj hy
def QX{cells:List AC}{e:TypeId}{p q:Place}(h:je β w cells e q){cur:Array Value}(hcur:w.heap[p.b]?=some (.cells cur e (0,0)))(vs:List Value)(k:Nat)(hk:k+vs.length<=cur.size)
  (hq:q.b=p.b->q.o+q.hi<=k):je β (w.setRow p.b (cur.toList.take k++vs++cur.toList.drop (k+vs.length)).toArray) cells e q:=by
 obtain⟨cc,r1,r2,r3,r4,r5⟩:=h;by_cases hb:q.b=p.b
 ·rw[hb,hcur]at r1;cases r1;have D4:k+vs.length<=cur.toList.length:=by simpa using hk
  have hq':=hq hb;refine⟨_,by rw[hb];exact setRow_heap w p.b cur _ e _ hcur,?_,r3,r4,λj y hj hy=>?_⟩
  ·rw[bW,pj,ir _ _ _ D4];simpa using r2
  obtain⟨v',q5,T3⟩:=r5 j y hj hy;refine⟨v',?_,T3⟩;rw[bW,zk,jq _ _ _ _ D4,ad aa,lS];exact q5
 exact⟨cc,by rw[setRow_other _ _ _ _ hb];exact r1,r2,r3,r4,r5⟩
def Jt{w':World}{id:Nat}{cells c:List AC}{e:TypeId}{lo gen:Nat}(h:ig β w id (.arr cells e lo gen)){q:Place}(hr:je β w' (cells++c) e q)(hq:q.hi=(cells++c).length)
  (hold:∀k p,lo<=k->k<=gen->β id k=some p->je β w' cells e p/\(p.b=q.b->p.o=q.o)):ig (plus β id (gen+1) q) w' id (.arr (cells++c) e lo (gen+1)):=by
 obtain⟨h1,h2,h3,h4⟩:=h;have hs:Sub β (plus β id (gen+1) q):=iS (h4 _ aa);refine⟨aa,?_,?_,?_⟩
 ·intro k l6 R3;by_cases hk:k=gen+1
  ·subst hk;exact⟨_,bj _ _ _ _,je.mono hs hr rfl,λ_=>hq⟩
  obtain⟨p,hp,_,_⟩:=h2 k l6 aa;exact⟨p,hs _ _ _ hp,je.mono hs (Ve (hold k p l6 aa hp).1 c) rfl,λh=>absurd h hk⟩
 ·intro k k' p p' l6 R3 hk3 hp hp';by_cases J4:k'=gen+1
  ·subst J4;rw[bj]at hp';cases hp';by_cases hk:k=gen+1
   ·subst hk;rw[bj]at hp;cases hp;exact⟨ai _,λ_=>rfl⟩
   rw[bY _ _ _ _ aa]at hp;obtain⟨r,C0⟩:=(hold k p l6 aa hp);obtain⟨cc,_,_,_,r4,_⟩:=r;exact⟨by rw[hq,bA];omega,C0⟩
  rw[bY _ _ _ _ aa]at hp hp';exact h3 k k' p p' l6 R3 aa hp hp'
 intro k hk;rw[bY _ _ _ _ aa];exact h4 k aa
def su{w':World}{id:Nat}{cells cells':List AC}{e:TypeId}{lo gen:Nat}(h:ig β w id (.arr cells e lo gen)){q:Place}(hr:je β w' cells' e q)(hq:q.hi=cells'.length):
  ig (plus β id (gen+1) q) w' id (.arr cells' e (gen+1) (gen+1)):=by
 obtain⟨h1,h2,h3,h4⟩:=h;have hs:Sub β (plus β id (gen+1) q):=iS (h4 _ aa);refine⟨aa,?_,?_,?_⟩
 ·intro k l6 R3;have hk:k=gen+1:=aa;subst hk;exact⟨_,bj _ _ _ _,je.mono hs hr rfl,λ_=>hq⟩
 ·intro k k' p p' l6 R3 hk3 hp hp';have hk:k=gen+1:=aa;have J4:k'=gen+1:=aa;subst hk;subst J4;rw[hp]at hp';cases hp';exact⟨ai _,λ_=>rfl⟩
 intro k hk;rw[bY _ _ _ _ aa];exact h4 k aa
def tE(z:Value)(n:Nat):(Builtin.zeroCells z.cells n).size=n*z.cells.size:=by simp[Builtin.zeroCells]
def Pq(hR:Rel m β H w)(hm:m<=m){t:TypeId}(ty:TypeId){x y:AV}{v u:Value}(hx:AR β x v)(hy:AR β y u):
  ak P m β H w (bN P H t x y) ((do let r <-Builtin.append_ #[t,t] ty #[v,u];pure (Next.value r):Sem Next).run P w):=by
 unfold bN;refine ak.nd λes hes=>ak.nd λby_ hby=>ak.nd λz hz=>ak.guard λk8=>ak.nd λnc hnc=>?_;obtain⟨e,sz⟩:=es;obtain⟨n,c⟩:=nc;obtain⟨hu,hs⟩:=nG hes;obtain⟨ho,A0,it,O4,hiz⟩:=lT hz;obtain⟨it2,hit2,M1⟩:=kE hs;obtain⟨it3,hit3,hbs⟩:=tf hby;simp only at O4 hit2 hit3
 rw[O4]at hit2 hit3;cases hit2;cases hit3
 have hzc:CRs β (ofValue z).cells z.cells.toList:=(eC ho).cells (pG A0);have I6:bU (ofValue z).cells=sz:=aN (al k8).2;have hz2:sz≠0:=by
  have:=(al k8).1;intro h0;simp only at this
  rw[h0]at this;cases this
 have hzs:z.cells.size=it.size:=by rw[M1,<-I6,bP];simpa using hzc.length
 have hsrc:=aac hR hy hnc;show ak P m β H w (eP H e sz by_ n c x) _;have c8:(Builtin.lenOf u).run P w=.ok n w:=by rcases hsrc with⟨rfl,_,rfl⟩|⟨o',cap,vs,rfl,_⟩<;>rfl
 obtain⟨vs,U1,W3,G6⟩:∃vs:List Value,vs.length=n*sz/\CRs β c vs/\∀w':World,(∀b,b<w.heap.size->w'.heap[b]?=w.heap[b]?)->(Builtin.firstCells it.size n u).run P w'=.ok vs.toArray w':=by
  rcases hsrc with⟨rfl,rfl,rfl⟩|⟨o',cap,vs,rfl,h1,h2,h3⟩
  ·exact⟨[],by simp,trivial,λw' _=>by simp[Builtin.firstCells]⟩
  exact⟨vs,h1,h2,λw' Q2=>iV (by rw[M1];exact h1) (h3 w' Q2) _⟩
 have W0:c.length=n*sz:=by rw[<-U1];exact W3.length.symm
 unfold eP;split
 ·
  have S4:v=.slice none 0 0:=hx;subst S4;rw[cG];split
  ·rename_i h0
   have D3:n=0:=aN h0;subst D3;have hz0:(Builtin.firstCells it.size 0 u).run P w=.ok #[] w:=by have:=G6 w (λ_ _=>rfl);have hv0:vs=[]:=List.eq_nil_of_length_eq_zero (by simpa using U1);rw[hv0]at this;exact this
   refine ak.same hR (v:=.slice none 0 0) ?_ rfl;simp[Builtin.append_,run_underlying hu,sizeOf,typeInfo,O4,c8,hz0]
  rename_i h0
  have D3:n≠0:=λh=>h0 (by rw[h];rfl);refine ak.guard λhb=>?_;have Y3:n<=140737488355328:=aY (al hb).1;have hb2:n*by_<=140737488355328:=aY (al hb).2;intro V1;have hnx':H.nx+1<=m:=V1;have D2:=rz (P:=P) (w:=w) t ty e it z hu O4 hiz none 0 0 [] (by simp[Builtin.firstCells]) u n vs c8 (G6 w.drew (λ_ _=>rfl)) aa (by rw[hbs];simpa using hb2) aa;simp only[Nat.zero_add,Array.empty_append]at D2;have D5:=yK hR hm aa c vs.toArray e (by simpa using W3) w.drew rfl rfl rfl rfl (Builtin.zeroCells z.cells (grownCap w n 0 e-n));refine⟨_,_,.inl (by simp only[Sem.run_bind,D2,Result.andThen_ok];rfl),Out.one ?_ D5⟩;refine⟨_,grownCap w n 0 e,_,bj _ _ _ _,?_,grownCap_ge w n 0 e,rfl,.inr ⟨rfl,?_⟩⟩
  ·show 0+n*sz<=c.length;omega
  show 0+0+grownCap w n 0 e*sz<=vs.toArray.size+(Builtin.zeroCells z.cells _).size;have hge:=grownCap_ge w n 0 e;rw[tE,hzs,M1,pj,U1,<-jZ];have:n+(grownCap w n 0 e-n)=grownCap w n 0 e:=aa;rw[this];omega
 ·
  rename_i id g off len sz'
  obtain⟨p,cap,o',hp,hlen,hcap,rfl,hex⟩:=hx;unfold pQ;cases L6:H.get id with
  |none=>exact trivial
  |some ob=>
   cases ob with
   |oth q=>exact trivial
   |ro q=>exact trivial
   |arr cells e' lo gen=>
    refine ak.guard λhc=>?_;have c1:sz'=sz:=aN (al hc).1;have c2:e'=e:=aN (al (al hc).2).1;have c3:lo<=g:=aY (al (al (al hc).2).2).1;have c4:g<=gen:=aY (al (al (al (al hc).2).2).2).1;have c5:off+len*sz<=bU cells:=aY (al (al (al (al (al hc).2).2).2).2).1;have c6:len+n<=140737488355328:=aY (al (al (al (al (al (al hc).2).2).2).2).2).1;have c7:(len+n)*by_<=140737488355328:=aY (al (al (al (al (al (al hc).2).2).2).2).2).2;subst c1 c2;rw[bP]at c5;rw[cG];split
    ·
     rename_i h0
     have D3:n=0:=aN h0;subst D3;have hz0:(Builtin.firstCells it.size 0 u).run P w=.ok #[] w:=by have:=G6 w (λ_ _=>rfl);have hv0:vs=[]:=List.eq_nil_of_length_eq_zero (by simpa using U1);rw[hv0]at this;exact this
     refine ak.same hR (v:=.slice (some o') len cap) ?_ ⟨p,cap,o',hp,hlen,hcap,rfl,hex⟩;simp[Builtin.append_,run_underlying hu,sizeOf,typeInfo,O4,c8,hcap,hz0,storeCells]
    rename_i h0
    have D3:n≠0:=λh=>h0 (by rw[h];rfl);obtain⟨V0,hhi⟩:=mq hR L6 c3 c4 hp;have hgenp:∃pg,β id gen=some pg/\je β w cells e' pg/\pg.hi=cells.length:=by obtain⟨hle,hrows,_,_⟩:=hR.obj id _ L6;obtain⟨q,hq,hr,hh⟩:=hrows gen aa (ai _);exact⟨q,hq,hr,hh rfl⟩
    obtain⟨us,Z5,hus,hucell⟩:=lO V0.d off (len*sz') hlen;have D7:(cut cells off (Nat.mul len sz')).length=len*sz':=by rw[<-Z5,mG];exact hus.length.symm
    have D5:β id (gen+1)=none:=(hR.obj id _ L6).2.2.2 (gen+1) aa;have J1:∀q,Sub β (plus β id (gen+1) q):=λq=>iS D5;have hways:(∃cur:Array Value,len+n<=cap/\o'=⟨p.b,p.o+off,none⟩/\p.o+off+len*sz'+c.length<=p.n/\w.heap[p.b]?=some (.cells cur e' (0,0))/\p.o+off+len*sz'+vs.length<=cur.size /\
      (Builtin.append_ #[t,t] ty #[.slice (some o') len cap,u]).run P w=.ok (.slice (some ⟨p.b,p.o+off,none⟩) (len+n) cap) (w.setRow p.b (cur.toList.take (p.o+off+len*sz')++vs++cur.toList.drop (p.o+off+len*sz'+vs.length)).toArray)/\p.o+off+cap*sz'<=p.n) \/
      (cap<len+n/\∃(tail:Array Value)(ncap:Nat),len+n<=ncap/\us.length+vs.length+tail.size=ncap*sz' /\
       (Builtin.append_ #[t,t] ty #[.slice (some o') len cap,u]).run P w=.ok (.slice (some ⟨w.heap.size,0,none⟩) (len+n) ncap) (w.drew.alloc (.cells (us.toArray++vs.toArray++tail) e'))):=by
     by_cases O5:len+n<=cap
     ·left;have hex':o'=⟨p.b,p.o+off,none⟩/\p.o+off+cap*sz'<=p.n:=by
       rcases hex with h|h
       ·omega
       exact h
      have hmul:(len+n)*sz'<=cap*sz':=lQ _ O5;rw[jZ]at hmul;obtain⟨cur,h1,h2,h3,h4,h5⟩:=V0;have D4:p.o+off+len*sz'+vs.length<=cur.size:=aa;have D2:=Cc (P:=P) (w:=w) t ty e' it hu O4 p.b (p.o+off) len cap cur h1 u n vs c8 (G6 w (λ_ _=>rfl)) W3.jy O5 (by rw[M1];exact D4);rw[M1]at D2;rw[hex'.1];exact⟨cur,O5,rfl,aa,h1,D4,D2,hex'.2⟩
     right;refine⟨aa,Builtin.zeroCells z.cells (grownCap w (len+n) cap e'-(len+n)),grownCap w (len+n) cap e',grownCap_ge w (len+n) cap e',?_,?_⟩
     ·have hge:=grownCap_ge w (len+n) cap e';rw[tE,hzs,M1,Z5,U1,<-jZ,<-jZ];congr 1
      omega
     have hold:(Builtin.firstCells it.size len (.slice (some o') len cap)).run P w.drew=.ok us.toArray w.drew:=by
      refine iV (by rw[M1];exact Z5) (λj q hj=>?_) len;have D0:=(List.getElem?_eq_some_iff.1 hj).1;have Z3:o'=⟨p.b,p.o+off,none⟩:=by
       rcases hex with h|h
       ·have h0':len=0:=aa;rw[Z5,h0']at D0;omega
       exact h.1
      rw[Z3];exact hucell j q hj
     exact rz (P:=P) (w:=w) t ty e' it z hu O4 hiz (some o') len cap us hold u n vs c8 (G6 w.drew (λ_ _=>rfl)) aa (by rw[hbs];exact c7) aa
    have hcell':cut cells off (Nat.mul len sz')=(cells.drop off).take (cut cells off (Nat.mul len sz')).length:=by rw[D7,mG];rfl
    rw[cG];split
    ·
     rename_i hend
     have d1:g=gen:=aN (al hend).1;have d2:off=0:=aN (al (al hend).2).1;have d3:len*sz'=bU cells:=aN (al (al hend).2).2;rw[bP]at d3;subst d1 d2;intro V1;have hcut:cut cells 0 (Nat.mul len sz')=cells:=by rw[mG,List.drop_zero];exact iX (by show cells.length<=len*sz';omega)
     rw[hcut]at D7 hcell';have hus':CRs β cells us:=by have:=hus;rw[List.drop_zero,iX aa]at this;exact this
     rw[jt];have hhi':=hhi rfl;rcases hways with⟨cur,w1,w2,w3,w4,w5,w6,w7⟩|⟨w1,tail,ncap,w2,w3,w4⟩
     ·
      obtain⟨cur',hcur',_,M3⟩:=Br V0 W3 (pre:=cells) 0 aa (by rw[List.drop_zero,pn]) aa;rw[w4]at hcur';cases hcur';simp only[Nat.add_zero]at M3 w6 w2 w3 w7;rw[show len*sz'=cells.length from d3]at w6;have Q3:=kJ hR hm V1 L6 (.arr (cells++c) e' lo (g+1)) (β':=plus β id (g+1) ⟨p.b,p.o,p.n,cells.length+c.length⟩) (w':=w.setRow p.b (cur.toList.take (p.o+cells.length)++vs++cur.toList.drop (p.o+cells.length+vs.length)).toArray)
       (J1 _) (λi hi k=>bY _ _ _ _ (λh=>hi h.1)) (by simp) (by simp) (by simp) (by simp)
       (λb _ hb=>setRow_other w p.b b _ (λhh=>hb g p ⟨c3,ai _⟩ hp hh.symm))
       (Jt (hR.obj id _ L6) M3 (by simp) λk q l6 R3 hq=>by have hmono:=(hR.obj id _ L6).2.2.1 k g q p l6 R3 (ai _) hq hp;obtain⟨hr,_⟩:=mq hR L6 l6 R3 hq;exact⟨QX hr w4 vs _ aa (λhb=>by rw[hmono.2 hb];omega),hmono.2⟩)
       (λk q hk hq=>.inr (by
        by_cases J4:k=g+1
        ·subst J4;rw[bj]at hq;cases hq;exact⟨g,p,⟨c3,ai _⟩,hp,rfl⟩
        rw[bY _ _ _ _ aa]at hq;exact⟨k,q,⟨hk.1,by have:=hk.2;omega⟩,hq,rfl⟩))
      refine⟨_,_,.inl (by simp only[Sem.run_bind,w6,Result.andThen_ok];rfl),Out.one ?_ Q3⟩;refine⟨_,cap,_,bj _ _ _ _,?_,w1,rfl,.inr ⟨rfl,?_⟩⟩
      ·show 0+(len+n)*sz'<=cells.length+c.length;rw[jZ];omega
      show p.o+0+cap*sz'<=p.n;omega
     
     have M3:=Eb (w:=w) hus' W3 e' tail w.drew rfl;have Q3:=kJ hR hm V1 L6 (.arr (cells++c) e' lo (g+1)) (β':=plus β id (g+1) ⟨w.heap.size,0,us.length+vs.length+tail.size,cells.length+c.length⟩) (w':=w.drew.alloc (.cells (us.toArray++vs.toArray++tail) e'))
      (J1 _) (λi hi k=>bY _ _ _ _ (λh=>hi h.1)) (by simp) rfl rfl rfl
      (λb hb _=>RowKit.Below.heap_alloc w.drew _ b hb)
      (Jt (hR.obj id _ L6) M3 (by simp) λk q l6 R3 hq=>by
       obtain⟨hr,_⟩:=mq hR L6 l6 R3 hq;have D0:q.b<w.heap.size:=by obtain⟨cc,Z2,_⟩:=hr;exact dt Z2
       exact⟨je.mono (λ_ _ _ h=>h) hr (RowKit.Below.heap_alloc w.drew _ _ D0),λhb=>by have hb':q.b=w.heap.size:=hb;omega⟩)
      (λk q hk hq=>by
       by_cases J4:k=g+1
       ·subst J4;rw[bj]at hq;cases hq;exact .inl (ai _)
       rw[bY _ _ _ _ aa]at hq;exact .inr ⟨k,q,⟨hk.1,by have:=hk.2;omega⟩,hq,rfl⟩)
     refine⟨_,_,.inl (by simp only[Sem.run_bind,w4,Result.andThen_ok];rfl),Out.one ?_ Q3⟩;refine⟨_,ncap,_,bj _ _ _ _,?_,w2,rfl,.inr ⟨rfl,?_⟩⟩
     ·show 0+(len+n)*sz'<=cells.length+c.length;rw[jZ];omega
     show 0+0+ncap*sz'<=us.length+vs.length+tail.size;omega
    
    intro V1;obtain⟨pg,hpg,hrowg,hhig⟩:=hgenp;have hus':CRs β (cut cells off (Nat.mul len sz')) us:=by rw[mG];exact hus
    rw[jt];rcases hways with⟨cur,w1,w2,w3,w4,w5,w6,w7⟩|⟨w1,tail,ncap,w2,w3,w4⟩
    ·obtain⟨cur',hcur',_,M3⟩:=Br V0 W3 (pre:=cut cells off (Nat.mul len sz')) off aa hcell' aa;rw[w4]at hcur';cases hcur';rw[D7]at M3;have Q3:=kJ hR hm V1 L6 (.arr (cut cells off (Nat.mul len sz')++c) e' (gen+1) (gen+1)) (β':=plus β id (gen+1) ⟨p.b,p.o+off,p.n,len*sz'+c.length⟩)
      (w':=w.setRow p.b (cur.toList.take (p.o+off+len*sz')++vs++cur.toList.drop (p.o+off+len*sz'+vs.length)).toArray)
      (J1 _) (λi hi k=>bY _ _ _ _ (λh=>hi h.1)) (by simp) (by simp) (by simp) (by simp)
      (λb _ hb=>setRow_other w p.b b _ (λhh=>hb g p ⟨c3,c4⟩ hp hh.symm))
      (su (hR.obj id _ L6) M3 (by rw[bA,D7]))
      (λk q hk hq=>.inr (by
       have J4:k=gen+1:=by have:=hk.1;have:=hk.2;omega
       subst J4;rw[bj]at hq;cases hq;exact⟨g,p,⟨c3,c4⟩,hp,rfl⟩))
     refine⟨_,_,.inl (by simp only[Sem.run_bind,w6,Result.andThen_ok];rfl),Out.one ?_ Q3⟩;refine⟨_,cap,_,bj _ _ _ _,?_,w1,rfl,.inr ⟨rfl,?_⟩⟩
     ·show 0+(len+n)*sz'<=len*sz'+c.length;rw[jZ];omega
     show p.o+off+0+cap*sz'<=p.n;omega
    have M3:=Eb (w:=w) hus' W3 e' tail w.drew rfl;have Q3:=kJ hR hm V1 L6 (.arr (cut cells off (Nat.mul len sz')++c) e' (gen+1) (gen+1)) (β':=plus β id (gen+1) ⟨w.heap.size,0,us.length+vs.length+tail.size,(cut cells off (Nat.mul len sz')).length+c.length⟩)
     (w':=w.drew.alloc (.cells (us.toArray++vs.toArray++tail) e'))
     (J1 _) (λi hi k=>bY _ _ _ _ (λh=>hi h.1)) (by simp) rfl rfl rfl
     (λb hb _=>RowKit.Below.heap_alloc w.drew _ b hb)
     (su (hR.obj id _ L6) M3 (by rw[bA]))
     (λk q hk hq=>.inl (by
      have J4:k=gen+1:=by have:=hk.1;have:=hk.2;omega
      subst J4;rw[bj]at hq;cases hq;exact ai _))
    refine⟨_,_,.inl (by simp only[Sem.run_bind,w4,Result.andThen_ok];rfl),Out.one ?_ Q3⟩;refine⟨_,ncap,_,bj _ _ _ _,?_,w2,rfl,.inr ⟨rfl,?_⟩⟩
    ·show 0+(len+n)*sz'<=(cut cells off (Nat.mul len sz')).length+c.length;rw[jZ];omega
    show 0+0+ncap*sz'<=us.length+vs.length+tail.size;omega
 exact trivial
end
section
variable{P:Program}{m:Nat}{β:Pl}{H:Hp}{w:World}
def JG(hR:Rel m β H w){tm:PT AV}{a:Act}(Z0:∀t,AR β (aB (tm.get t) aP λv=>v) (a.tmps.getD t undef))(o:Oper)(hs:∀cs b,o.op≠.select cs b):
  ak P m β H w (aA P tm H o) ((execOp a.eval o).run P w):=by
 unfold aA;refine ak.guard λhg=>?_;have he:execOp (λx=>bQ (ev tm x)) o=execOp a.eval o:=by
  refine execOp_congr o hs λx hx=>?_;have h1:=List.all_eq_true.1 hg x (by simpa using hx);have h2:=ct Z0 x;cases hv:(ev tm x).val? with
  |none=>rw[hv]at h1;cases h1
  |some v=>show bQ (ev tm x)=_;unfold bQ;rw[hv];exact(AV.kN hv h2).symm
 rw[he];split
 ·rename_i v hv
  refine ak.guard λhk=>?_;exact ak.same hR (tR hv w) (eC hk)
 exact trivial
def AI(a b:Int):iLe a b=decide (a<=b):=by
 cases a with
 |ofNat m=>
  cases b with
  |ofNat n=>show Nat.ble m n=_;rw[fZ];simp
  |negSucc n=>
   show false=_;symm
   rw[fm,zn];omega
 |negSucc m=>
  cases b with
  |ofNat n=>
   show true=_;symm
   rw[bB,zn];omega
  |negSucc n=>
   show Nat.ble n m=_;rw[fZ];simp
   omega
def oE(a b:Int):iEq a b=(a==b):=by
 cases a with
 |ofNat m=>
  cases b with
  |ofNat n=>show Nat.beq m n=_;rw[fZ,xi,gP];exact⟨λh=>by rw[h],λh=>Int.ofNat.inj h⟩
  |negSucc n=>
   show false=_;symm
   rw[BH,zn];omega
 |negSucc m=>
  cases b with
  |ofNat n=>
   show false=_;symm
   rw[BH,zn];omega
  |negSucc n=>show Nat.beq m n=_;rw[fZ,xi,gP];exact⟨λh=>by rw[h],λh=>Int.negSucc.inj h⟩
def jN{a b:IntKind}(h:sameKind a b=true):a=b:=by cases a<;>cases b<;>first|rfl|cases h
def vV(k:IntKind)(n:Int):vU k n=k.wrap n:=by
 unfold vU;rw[cG];split
 ·rename_i hk
  have J4:k=.i64:=by cases k<;>first|rfl|cases hk
  subst J4;cases n with
  |ofNat m=>
   show ifE (Nat.ble 9223372036854775808 m) _ _=_;rw[cG];split
   ·rfl
   rename_i h
   have h':m<9223372036854775808:=by
    rcases cO m 9223372036854775808 with h1|h1
    ·exact h1
    exact absurd (bG h1) h
   rw[IntKind.wrap_i64];have e:Int.ofNat m=(m:Int):=rfl;rw[e];omega
  |negSucc m=>
   show ifE (Nat.ble 9223372036854775808 m) _ _=_;rw[cG];split
   ·rfl
   rename_i h
   have h':m<9223372036854775808:=by
    rcases cO m 9223372036854775808 with h1|h1
    ·exact h1
    exact absurd (bG h1) h
   rw[IntKind.wrap_i64];omega
 rfl
def Sd(a b:UInt8):bEq a b=(a==b):=by rw[fZ,gP];unfold bEq;rw[xi];exact⟨λh=>UInt8.toNat_inj.1 h,λh=>by rw[h]⟩
def iN:∀(x y:List UInt8),lEq x y=(x==y)
 |[],[]=>rfl
 |[],_::_=>rfl
 |_::_,[]=>rfl
 |a::x,b::y=>by show both (bEq a b) (lEq x y)=_;rw[dv,Sd,iN x y];rfl
def IP:∀(x y:List UInt8),Ds x y=Op.bytesLess x y
 |[],[]=>rfl
 |[],_::_=>rfl
 |_::_,[]=>rfl
 |a::x,b::y=>by
  show ifE (Nat.blt a.toNat b.toNat) true (both (bEq a b) (Ds x y))=(decide (a<b)||(a==b&&Op.bytesLess x y));rw[cG,dv,Sd,IP x y];have:Nat.blt a.toNat b.toNat=decide (a<b):=by rw[fZ,bB,UInt8.lt_iff_toNat_lt];exact⟨λh=>aY h,λh=>bG h⟩
  rw[this];cases decide (a<b)<;>rfl
def rA(op:BinOp)(t:TypeId)(x y:Operand)(a b:Value)(h1:a≠.nilIface)(h2:∀cs,a≠.agg cs):(eqGuard op t x y a b).run P w=.ok () w:=by unfold eqGuard;cases a<;>first|exact absurd rfl h1|exact absurd rfl (h2 _)|(cases op<;>rfl)
def LK(a b:Int):decide (a<b)=!decide (b<=a):=by rw[fZ];simp
def Qi(hR:Rel m β H w){op:BinOp}{t:TypeId}{x y:Operand}{k k':IntKind}{a b:Int}{alt:aj}
  (halt:ak P m β H w alt ((do let z <-(do eqGuard op t x y (.int k a) (.int k' b);binOp op t (.int k a) (.int k' b));pure (Next.value z):Sem Next).run P w)):
  ak P m β H w (nB H (fL op) k a k' b alt) ((do let z <-(do eqGuard op t x y (.int k a) (.int k' b);binOp op t (.int k a) (.int k' b));pure (Next.value z):Sem Next).run P w):=by
 unfold nB;rw[cG];split
 ·rename_i hk
  have hk:=jN hk;subst hk;have hg:=rA (P:=P) (w:=w) op t x y (.int k a) (.int k b) (by simp) (by simp);cases op<;>first
   |exact halt
   |(refine ak.same hR (v:=.int k (vU k _)) ?_ rfl
     rw[vV];simp only[Sem.run_bind,hg,Result.andThen_ok];simp[binOp,Op.intArith];try rfl)
   |(refine ak.same hR (v:=.bool _) ?_ rfl
     simp only[Sem.run_bind,hg,Result.andThen_ok];simp[binOp,Op.intCmp,AI,oE];try first|rfl|exact LK _ _)
 exact halt
def Rp(hR:Rel m β H w){op:BinOp}{t:TypeId}{x y:Operand}{a b:List UInt8}{alt:aj}
  (halt:ak P m β H w alt ((do let z <-(do eqGuard op t x y (.string ⟨a.toArray⟩) (.string ⟨b.toArray⟩);binOp op t (.string ⟨a.toArray⟩) (.string ⟨b.toArray⟩));pure (Next.value z):Sem Next).run P w)):
  ak P m β H w (aB (abd op) alt λf=>.val (.one (.b (f a b))) H)
   ((do let z <-(do eqGuard op t x y (.string ⟨a.toArray⟩) (.string ⟨b.toArray⟩);binOp op t (.string ⟨a.toArray⟩) (.string ⟨b.toArray⟩));pure (Next.value z):Sem Next).run P w):=by
 have hg:=rA (P:=P) (w:=w) op t x y (.string ⟨a.toArray⟩) (.string ⟨b.toArray⟩) (by simp) (by simp);cases op<;>first
  |exact halt
  |(refine ak.same hR (v:=.bool _) ?_ rfl
    simp only[Sem.run_bind,hg,Result.andThen_ok];simp[binOp,Op.stringOp,iN,IP];try rfl)
def Aof(k:Nat)(v:Value):Prop:=
 match k with
 |0=>∃a,v=.pointer (some a)
 |1=>∃a n c,v=.slice (some a) n c
 |2=>∃b,v=.map (some b)
 |3=>∃f c,v=.func f #[] c
 |_=>True
def Nof(k:Nat)(v:Value):Prop:=
 match k with
 |0=>v=.pointer none
 |1=>v=.slice none 0 0
 |2=>v=.map none
 |3=>v=.nilFunc
 |_=>True
def Dk{x:AO}{v:Value}(hx:CRO β x v):Aof (AJ x) v:=by
 cases x<;>first
  |exact trivial
  |(obtain⟨p,_,_,h⟩:=hx;exact⟨_,h⟩)
  |(obtain⟨p,_,_,_,_,_,h,_⟩:=hx;exact⟨_,_,_,h⟩)
  |(obtain⟨p,_,h⟩:=hx;exact⟨_,h⟩)
  |(obtain⟨cs,h,_⟩:=hx;exact⟨_,_,h⟩)
def Dm{x:AO}{v:Value}(hx:CRO β x v):Nof (AK x) v:=by cases x<;>first|exact trivial|exact hx
def RX{t:TypeId}:
  match dp P t with
  |0=>∃e,P.underlying t=some (.pointer e)
  |1=>∃e,P.underlying t=some (.slice e)
  |2=>∃k e,P.underlying t=some (.map k e)
  |3=>∃a b c,P.underlying t=some (.func a b c)
  |_=>True:=by
 unfold dp;cases P.underlying t with
 |none=>exact trivial
 |some d=>cases d<;>first|exact trivial|exact⟨_,rfl⟩|exact⟨_,_,rfl⟩|exact⟨_,_,_,rfl⟩
def yd(d:Nat){t:TypeId}{k:Nat}(hk:dp P t=k)(h4:k<4){v u:Value}(h:(Aof k v/\Nof k u)\/(Nof k v/\Aof k u)):(Op.equalIn (d+1) t v u).run P w=.ok false w:=by
 have ht:=RX (P:=P) (t:=t);rw[hk]at ht;match k,h4 with
 |0,_=>obtain⟨e,ht⟩:=ht;rcases h with⟨⟨a,rfl⟩,h⟩|⟨h,⟨a,rfl⟩⟩<;>cases h<;>simp[Op.equalIn,run_underlying ht]
 |1,_=>obtain⟨e,ht⟩:=ht;rcases h with⟨⟨a,n,c,rfl⟩,h⟩|⟨h,⟨a,n,c,rfl⟩⟩<;>cases h<;>simp[Op.equalIn,run_underlying ht]
 |2,_=>obtain⟨e,e',ht⟩:=ht;rcases h with⟨⟨a,rfl⟩,h⟩|⟨h,⟨a,rfl⟩⟩<;>cases h<;>simp[Op.equalIn,run_underlying ht]
 |3,_=>obtain⟨e,e',e'',ht⟩:=ht;rcases h with⟨⟨a,c,rfl⟩,h⟩|⟨h,⟨a,c,rfl⟩⟩<;>cases h<;>simp[Op.equalIn,run_underlying ht]
def KP{t:TypeId}{k:Nat}(h4:k<4){v u:Value}(h:(Aof k v/\Nof k u)\/(Nof k v/\Aof k u)):
  v≠.nilIface/\(∀cs,v≠.agg cs)/\binOp .eql t v u=(do let z <-Op.equal t v u;pure (.bool z))/\binOp .neq t v u=(do let z <-Op.equal t v u;pure (.bool (!z))):=by
 match k,h4 with
 |0,_=>rcases h with⟨⟨a,rfl⟩,h⟩|⟨h,⟨a,rfl⟩⟩<;>cases h<;>exact⟨by simp,by simp,rfl,rfl⟩
 |1,_=>rcases h with⟨⟨a,n,c,rfl⟩,h⟩|⟨h,⟨a,n,c,rfl⟩⟩<;>cases h<;>exact⟨by simp,by simp,rfl,rfl⟩
 |2,_=>rcases h with⟨⟨a,rfl⟩,h⟩|⟨h,⟨a,rfl⟩⟩<;>cases h<;>exact⟨by simp,by simp,rfl,rfl⟩
 |3,_=>rcases h with⟨⟨a,c,rfl⟩,h⟩|⟨h,⟨a,c,rfl⟩⟩<;>cases h<;>exact⟨by simp,by simp,rfl,rfl⟩
def Uu{t:TypeId}{x y:AV}{v u:Value}(hx:AR β x v)(hy:AR β y u){b:Bool}(h:Oq (dp P t) x y=some b):
  b=false/\dp P t<4/\((Aof (dp P t) v/\Nof (dp P t) u)\/(Nof (dp P t) v/\Aof (dp P t) u)):=by
 unfold Oq at h;split at h
 ·rename_i a b'
  cases hc:(Nat.blt (dp P t) 4&&((Nat.beq (AJ a) (dp P t)&&Nat.beq (AK b') (dp P t))||(Nat.beq (AK a) (dp P t)&&Nat.beq (AJ b') (dp P t))))with
  |false=>rw[hc]at h;cases h
  |true=>
   rw[hc]at h;cases h
   simp only[aT,eW]at hc;refine⟨rfl,aY hc.1,?_⟩;rcases hc.2 with⟨h1,h2⟩|⟨h1,h2⟩
   ·have a1:=aN h1;have a2:=aN h2;exact .inl ⟨by rw[<-a1];exact Dk hx,by rw[<-a2];exact Dm hy⟩
   have a1:=aN h1;have a2:=aN h2;exact .inr ⟨by rw[<-a1];exact Dm hx,by rw[<-a2];exact Dk hy⟩
 cases h
def Zi(hR:Rel m β H w){op:BinOp}{t:TypeId}{x y:Operand}{a b:AV}{v u:Value}(hx:AR β a v)(hy:AR β b u){alt:aj}
  (halt:ak P m β H w alt ((do let z <-(do eqGuard op t x y v u;binOp op t v u);pure (Next.value z):Sem Next).run P w)):
  ak P m β H w (cr H (dp P t) op (fL op) a b alt) ((do let z <-(do eqGuard op t x y v u;binOp op t v u);pure (Next.value z):Sem Next).run P w):=by
 cases a with
 |agg _=>exact halt
 |tup _=>exact halt
 |any=>exact halt
 |one c=>
  cases c with
  |b _=>exact halt
  |i k n=>show ak P m β H w (fi b alt λk' b'=>nB H (fL op) k n k' b' alt) _;refine se hy halt λk' n' hu=>?_;have hv:v=.int k n:=hx;subst hu hv;exact Qi hR halt
  |o q=>
   show ak P m β H w (nC H (dp P t) op (.one (.o q)) b alt) _;unfold nC;refine yN hx ?_ λs hs=>?_
   ·unfold rY;split
    ·rename_i b' hn
     obtain⟨rfl,h4,hh⟩:=Uu hx hy hn;have h1:(Op.equal t v u).run P w=.ok false w:=yd 9999 rfl h4 hh;obtain⟨h2,h3,h5,h6⟩:=KP (t:=t) h4 hh;have hg:=rA (P:=P) (w:=w) op t x y v u h2 h3;split
     ·refine ak.same hR (v:=.bool false) ?_ rfl;simp[Sem.run_bind,hg,h5,h1]
     ·refine ak.same hR (v:=.bool true) ?_ rfl;simp[Sem.run_bind,hg,h6,h1]
     exact trivial
    exact halt
   refine yN hy halt λs' hs'=>?_;subst hs hs';exact Rp hR halt
def abf(hR:Rel m β H w){op:UnOp}{x:AV}{v:Value}(hx:AR β x v){alt:aj}(halt:ak P m β H w alt ((do let z <-Op.unary op v;pure (Next.value z):Sem Next).run P w)):
  ak P m β H w (Lj H op x alt) ((do let z <-Op.unary op v;pure (Next.value z):Sem Next).run P w):=by
 cases op<;>first
  |exact halt
  |(refine HB hx halt λb hb=>?_
    subst hb;exact ak.same hR (v:=.bool (!b)) rfl rfl)
def TG(hR:Rel m β H w){t:TypeId}{x i:AV}{v u:Value}(hx:AR β x v)(hi:AR β i u){alt:aj}(halt:ak P m β H w alt ((do let z <-Instr.index t v u;pure (Next.value z):Sem Next).run P w)):
  ak P m β H w (iK H (mJ P t) x i alt) ((do let z <-Instr.index t v u;pure (Next.value z):Sem Next).run P w):=by
 unfold iK;rw[cG];split
 ·rename_i ht
  have hu:P.underlying t=some .string:=by
   unfold mJ at ht;split at ht
   ·assumption
   cases ht
  refine yN hx halt λs hs=>se hi halt λk n hn=>ak.nd λj hj=>ak.nd λb hb=>?_;have hj:=nS hj;subst hs hn hj;rw[Ow]at hb;refine ak.same hR (v:=.int .u8 b.toNat) ?_ rfl;have D0:j<s.length:=(List.getElem?_eq_some_iff.1 hb).1;have hg:(ByteArray.mk s.toArray)[j]?=some b:=by
   have h1:j<(ByteArray.mk s.toArray).size:=by show j<s.toArray.size;simpa using D0
   rw[getElem?_pos (ByteArray.mk s.toArray) j h1];have:(ByteArray.mk s.toArray)[j]=s.toArray[j]'(by simpa using D0):=rfl;rw[this];rw[aO D0]at hb;simpa using hb
  simp[Instr.index,asIntOf,run_underlying hu,hg]
 exact halt
def Xh{t:TypeId}:
  match kI P t with
  |none=>True
  |some 0=>P.underlying t=some .string
  |some 1=>∃e,P.underlying t=some (.slice e)
  |some (_+2)=>∃k e,P.underlying t=some (.map k e):=by
 unfold kI;cases h:P.underlying t with
 |none=>exact trivial
 |some d=>cases d<;>first|exact trivial|exact⟨_,rfl⟩|exact⟨_,_,rfl⟩|rfl
def Qk{x:AV}{v:Value}(hx:AR β x v)(h:TK x=true):v=.slice none 0 0:=by
 cases x with
 |one c=>
  cases c with
  |o q=>cases q<;>first|exact hx|cases h
  |b _=>cases h
  |i _ _=>cases h
 |agg _=>cases h
 |tup _=>cases h
 |any=>cases h
def ERs.length{l:List bX}{ms:List MapEntry}(h:ERs β l ms):ms.length=l.length:=(ERs.get h).symm
def sk(hR:Rel m β H w){id:Nat}{es:List bX}{clock:Nat}(h:H.get id=some (.oth (.map es clock))){p:Place}(hp:β id 0=some p):
  ∃ms:List MapEntry,w.heap[p.b]?=some (.map ms.toArray clock)/\ERs β es ms:=by
 obtain⟨q,hq,ms,h1,h2⟩:=hR.obj id _ h;rw[hp]at hq;cases hq;exact⟨ms,h1,h2⟩
def dn{b:Nat}{es:Array MapEntry}{c:Nat}(h:w.heap[b]?=some (.map es c)):(getObj b).run P w=.ok (.map es c) w:=by simp[getObj,Sem.run,h]
def jV{b:Nat}{m:Option Nat}{s t:Nat}{a:Array Nat}(h:w.heap[b]?=some (.mapIter m s a t)):(getObj b).run P w=.ok (.mapIter m s a t) w:=by simp[getObj,Sem.run,h]
def ZP(hR:Rel m β H w){t ty:TypeId}{k:Nat}(ht:kI P t=some k){x:AV}{v:Value}(hx:AR β x v):
  ak P m β H w (eo H k x) ((do let z <-Builtin.len_ #[t] ty #[v];pure (Next.value z):Sem Next).run P w):=by
 have hu:=Xh (P:=P) (t:=t);rw[ht]at hu;match k with
 |0=>
  refine yN hx ⟨⟩ λs hs=>?_;subst hs;rw[FD];refine ak.same hR (v:=.int .i64 s.length) ?_ rfl;have:(ByteArray.mk s.toArray).size=s.length:=by show s.toArray.size=_;simp
  simp[Builtin.len_,run_underlying hu,goInt,this]
 |1=>
  obtain⟨e,hu⟩:=hu;refine Md hx (ak.guard λhn=>?_) λid g off len sz p cap o' _ _ _ _ hv _=>?_
  ·have:=Qk hx hn;subst this;refine ak.same hR (v:=.int .i64 0) ?_ rfl;simp[Builtin.len_,run_underlying hu,goInt]
  subst hv;refine ak.same hR (v:=.int .i64 len) ?_ rfl;simp[Builtin.len_,run_underlying hu,goInt]
 |k+2=>
  obtain⟨a,e,hu⟩:=hu;show ak P m β H w (fz H x) _;unfold fz;split
  ·have hv:v=.map none:=hx;subst hv;refine ak.same hR (v:=.int .i64 0) ?_ rfl;simp[Builtin.len_,run_underlying hu,goInt]
  ·rename_i id
   obtain⟨p,hp,rfl⟩:=hx;split
   ·rename_i es clock hg
    obtain⟨ms,h1,h2⟩:=sk hR hg hp;refine ak.same hR (v:=.int .i64 es.length) ?_ rfl;simp[Builtin.len_,run_underlying hu,goInt,dn h1,h2.length]
   exact trivial
  exact trivial
def Om(hR:Rel m β H w){tm:PT AV}{a:Act}(Z0:∀t,AR β (aB (tm.get t) aP λv=>v) (a.tmps.getD t undef))(x:Operand):ak P m β H w ((Up (opF x)).run tm H) ((pure (Next.value (a.eval x)):Sem Next).run P w):=by have h:=ct Z0 x;cases x<;>exact ak.same hR rfl h
def XO(hR:Rel m β H w){tm:PT AV}{a:Act}(Z0:∀t,AR β (aB (tm.get t) aP λv=>v) (a.tmps.getD t undef))(c x y:Operand):
  ak P m β H w ((YM (opF c) (opF x) (opF y)).run tm H) ((do pure (Next.value (if <-asBool (a.eval c)then a.eval x else a.eval y)):Sem Next).run P w):=by
 refine HB (ct Z0 c) trivial λb hb=>?_;refine ak.same hR (v:=if b=true then a.eval x else a.eval y) ?_ ?_
 ·simp[hb,asBool]
 rw[cG];cases b
 ·exact ct Z0 y
 exact ct Z0 x
def Jo(hR:Rel m β H w){ρ:Operand->Value}{y:Operand}{x:AV}(hx:AR β x (ρ y))(o:Oper)(ho:o.op=.nilCheck y):ak P m β H w (jm H x) ((execOp ρ o).run P w):=by
 obtain⟨dst,op,type,pos,after,guard⟩:=o;cases ho
 generalize hv:ρ y=v at hx;cases x with
 |one c=>
  cases c with
  |o q=>
   cases q<;>first
    |exact trivial
    |(obtain⟨p,h1,h2,h3⟩:=hx
      subst h3;exact ak.same hR (v:=.pointer (some _)) (by simp only[execOp,hv];rfl) ⟨p,h1,h2,rfl⟩)
    |(obtain⟨cs,h1,h2⟩:=hx
      subst h1;exact ak.same hR (v:=.func _ #[] _) (by simp only[execOp,hv];rfl) ⟨cs,rfl,h2⟩)
  |b _=>exact trivial
  |i _ _=>exact trivial
 |agg _=>exact trivial
 |tup _=>exact trivial
 |any=>exact trivial
end
section
variable{P:Program}{m:Nat}{β:Pl}{H:Hp}{w:World}
def Af(a b:Nat):ifE (Nat.ble a b) a b=Nat.min a b:=by
 rw[cG];show _=min a b;by_cases h:a<=b
 ·rw[ad (bG h)];omega
 rw[ab (λhh=>h (aY hh))];omega
def WD(hR:Rel m β H w)(hm:m<=m){t ty:TypeId}{x y:AV}{v u:Value}(hx:AR β x v)(hy:AR β y u):
  ak P m β H w (Fc P H t x y) ((do let z <-Builtin.copy_ #[t,t] ty #[v,u];pure (Next.value z):Sem Next).run P w):=by
 unfold Fc;refine ak.nd λes hes=>?_;obtain⟨e,sz⟩:=es;obtain⟨hu,hs⟩:=nG hes;obtain⟨it,O4,M1⟩:=kE hs;split
 ·rename_i id g off len sz1 id2 g2 off2 len2 sz2
  refine ak.guard λhc=>ak.nd λc Z2=>?_;have c1:sz1=sz:=aN (al hc).1;have c2:sz2=sz:=aN (al hc).2;subst c1 c2;rw[Af]at Z2;obtain⟨p,cap,o1,hp,hlen,hcap,rfl,hex⟩:=hx;obtain⟨p2,cap2,o2,j6,hlen2,hcap2,rfl,hex2⟩:=hy;obtain⟨cells2,hD2,a3,a4,rfl⟩:=sy Z2;have O0:=hD2 hR j6;have hmin1:Nat.min len2 len<=len2:=Nat.min_le_left _ _;have hmin2:Nat.min len2 len<=len:=Nat.min_le_right _ _;have hmul2:Nat.min len2 len*sz2<=len2*sz2:=lQ _ hmin1;have hmul1:Nat.min len2 len*sz2<=len*sz2:=lQ _ hmin2;obtain⟨vs,U1,T4,G4⟩:=lO O0 off2 (Nat.mul (Nat.min len2 len) sz2) (by show off2+Nat.min len2 len*sz2<=_;omega);have hvl':vs.length=Nat.min len2 len*sz2:=U1;have W0:((cells2.drop off2).take (Nat.mul (Nat.min len2 len) sz2)).length=Nat.min len2 len*sz2:=by rw[<-hvl'];exact T4.length.symm
  unfold pQ;cases L6:H.get id with
  |none=>exact trivial
  |some ob=>
   cases ob with
   |oth q=>exact trivial
   |ro q=>exact trivial
   |arr cells e' lo gen=>
    refine ak.guard λhd=>?_;have d1:g=gen:=aN (al hd).1;have d2:=aY (al (al hd).2).1;rw[Af,bP]at d2;have d2':off+Nat.min len2 len*sz2<=cells.length:=d2;have d3:lo<=gen:=aY (al (al hd).2).2;subst d1;rw[Af];intro V1;obtain⟨V0,hhi⟩:=mq hR L6 d3 (ai _) hp;obtain⟨cur,hg,D4,M3⟩:=Bt V0 (hhi rfl) T4 (by rw[W0];exact d2');have G6:(Builtin.firstCells it.size (Nat.min len2 len) (.slice (some o2) len2 cap2)).run P w=.ok vs.toArray w:=by
     refine iV (by rw[M1];exact hvl') (λj q hj=>?_) len2;have D0:=(List.getElem?_eq_some_iff.1 hj).1;have Z3:o2=⟨p2.b,p2.o+off2,none⟩:=by
      rcases hex2 with h|h
      ·have h0':len2=0:=aa;rw[hvl',h0']at D0;have:Nat.min 0 len=0:=Nat.zero_min _;rw[this]at D0;omega
      exact h.1
     rw[Z3];exact G4 j q hj
    have X3:(storeCells o1 vs).run P w=.ok () (w.setRow p.b (cur.toList.take (p.o+off+0)++vs++cur.toList.drop (p.o+off+0+vs.length)).toArray):=by
     by_cases h0:vs=[]
     ·subst h0;simp only[List.append_nil,List.length_nil,Nat.add_zero,ud,GH];rw[setRow_self w p.b cur e' (0,0) hg];rfl
     have Z3:o1=⟨p.b,p.o+off,none⟩:=by
      rcases hex with h|h
      ·exfalso;apply h0;apply List.eq_nil_of_length_eq_zero;rw[hvl'];have h0':len=0:=aa;rw[h0'];have:Nat.min len2 0=0:=Nat.min_zero _;rw[this,Nat.zero_mul]
      exact h.1
     rw[Z3];exact run_storeCells_at P p.b (p.o+off) e' vs 0 cur w hg D4 T4.jy
    have Q3:=kJ hR hm V1 L6 (.arr (gO cells off ((cells2.drop off2).take (Nat.mul (Nat.min len2 len) sz2))) e' g g) (β':=β)
     (w':=w.setRow p.b (cur.toList.take (p.o+off+0)++vs++cur.toList.drop (p.o+off+0+vs.length)).toArray)
     (λ_ _ _ h=>h) (λ_ _ _=>rfl) (by simp) (by simp) (by simp) (by simp)
     (λb _ hb=>setRow_other w p.b b _ (λhh=>hb g p ⟨d3,ai _⟩ hp hh.symm))
     (by rw[kT];exact Oy (hR.obj id _ L6) hp M3 (by rw[ir _ _ _ (by rw[W0];exact d2')];exact hhi rfl))
     (λg0 p0 k8 hp0=>.inr ⟨g,p,⟨d3,ai _⟩,hp,by
      have:g0=g:=by have:=k8.1;have:=k8.2;omega
      subst this;rw[hp]at hp0;cases hp0;rfl⟩)
    refine⟨.int .i64 (Nat.min len2 len),_,.inl ?_,Out.one rfl Q3⟩;simp[Builtin.copy_,run_underlying hu,Builtin.lenOf,sizeOf,typeInfo,O4,G6,X3,goInt]
 ·rename_i id g off len sz1
  obtain⟨p,cap,o1,hp,hlen,hcap,rfl,hex⟩:=hx;have hv:u=.slice none 0 0:=hy;subst hv;refine ak.same hR (v:=.int .i64 0) ?_ rfl;simp[Builtin.copy_,run_underlying hu,Builtin.lenOf,Builtin.firstCells,sizeOf,typeInfo,O4,storeCells,goInt]
 ·rename_i id2 g2 off2 len2 sz2
  obtain⟨p2,cap2,o2,j6,hlen2,hcap2,rfl,hex2⟩:=hy;have hv:v=.slice none 0 0:=hx;subst hv;refine ak.same hR (v:=.int .i64 0) ?_ rfl;have h0:Nat.min len2 0=0:=Nat.min_zero _;simp[Builtin.copy_,run_underlying hu,Builtin.lenOf,Builtin.firstCells,sizeOf,typeInfo,O4,goInt,loadCells,loadCellsFrom]
 ·have hv:v=.slice none 0 0:=hx;have q5:u=.slice none 0 0:=hy;subst hv q5;refine ak.same hR (v:=.int .i64 0) ?_ rfl;simp[Builtin.copy_,run_underlying hu,Builtin.lenOf,Builtin.firstCells,sizeOf,typeInfo,O4,goInt]
 exact trivial
def FJ(hR:Rel m β H w)(hm:m<=m){t:TypeId}{l c:AV}{v u:Value}(hl:AR β l v)(hc:AR β c u):
  ak P m β H w (dN P H t l c) ((do let z <-Instr.makeSlice t v u;pure (Next.value z):Sem Next).run P w):=by
 unfold dN;refine ak.nd λes hes=>ak.nd λby_ hby=>ak.nd λz hz=>se hl trivial λkl n hn=>se hc trivial λkc j hj=>ak.nd λn' hn'=>ak.nd λj' z6=>ak.guard λhg=>?_;obtain⟨e,sz⟩:=es;obtain⟨hu,hs⟩:=nG hes;obtain⟨ho,A0,it,O4,hiz⟩:=lT hz;obtain⟨it2,hit2,M1⟩:=kE hs;obtain⟨it3,hit3,hbs⟩:=tf hby;simp only at O4 hit2 hit3
 rw[O4]at hit2 hit3;cases hit2;cases hit3
 have hn':=nS hn';have z6:=nS z6;subst hn hj hn' z6;have g1:n'<=j':=aY (al hg).1;have g2:j'<=1073741824:=aY (al (al hg).2).1;have g3:j'*by_<=140737488355328:=aY (al (al (al hg).2).2).1;have g4:bU (ofValue z).cells=sz:=aN (al (al (al hg).2).2).2;intro V1;have hnx':H.nx+1<=m:=V1;have hzc:CRs β (ofValue z).cells z.cells.toList:=(eC ho).cells (pG A0);have hzs:z.cells.size=sz:=by rw[<-g4,bP];simpa using hzc.length
 have D2:=run_make (P:=P) w t e it z hu O4 hiz kl kc n' j' aa aa (by rw[hbs,<-Int.natCast_mul,yW];omega) aa;have W3:CRs β (mL (ofValue z).cells j') (madeCells z.cells (j'*it.size)).toList:=by have:=OJ hzc j';rw[hzs]at this;unfold madeCells;rw[M1,hzs];exact this
 have D5:=yK hR hm aa (mL (ofValue z).cells j') (madeCells z.cells (j'*it.size)) e W3 w rfl rfl rfl rfl #[];refine⟨.slice (some ⟨w.heap.size,0,none⟩) n' j',_,.inl ?_,Out.one ?_ (by simpa using D5)⟩
 ·simp only[Sem.run_bind,D2,Result.andThen_ok,rR];rfl
 refine⟨_,j',_,bj _ _ _ _,?_,g1,rfl,.inr ⟨rfl,?_⟩⟩
 ·show 0+n'*sz<=(mL (ofValue z).cells j').length;have:n'*sz<=j'*sz:=lQ _ g1;rw[Bp,<-bP,g4];omega
 show 0+0+j'*sz<=(madeCells z.cells (j'*it.size)).size+0;rw[size_madeCells,M1];omega
def Cy:∀{l:List AV}{vs:List Value}{cs:List (Nat×Nat×Nat×Nat)},jQ l=some cs->ARs β l vs ->
  vs.length=cs.length/\∀(k:Nat)(c:Nat×Nat×Nat×Nat)(v:Value),cs[k]?=some c->vs[k]?=some v->∃p,β c.1 c.2.1=some p/\c.2.2.1+c.2.2.2<=p.hi/\v=.pointer (some ⟨p.b,p.o+c.2.2.1,none⟩)
 |[],vs,cs,h,hr=>by
  cases h
  cases vs with
  |nil=>exact⟨rfl,λk c v hc _=>by simp at hc⟩
  |cons=>exact hr.elim
 |x::l,vs,cs,h,hr=>by
  cases vs with
  |nil=>exact hr.elim
  |cons v vs=>
   unfold jQ at h;split at h
   ·rename_i heq
    cases heq
   ·rename_i id g off lim l' heq
    cases heq
    split at h
    ·rename_i r T3
     cases h
     obtain⟨h1,h2⟩:=Cy T3 hr.2;refine⟨by simp[h1],λk c u hc hu=>?_⟩;cases k with
     |zero=>
      simp at hc hu
      subst hc hu;exact hr.1
     |succ k=>exact h2 k c u (by simpa using hc) (by simpa using hu)
    cases h
   cases h
def Ls{tm:PT AV}{a:Act}(Z0:∀t,AR β (aB (tm.get t) aP λv=>v) (a.tmps.getD t undef)):∀(l:List Operand),ARs β (evs l tm) (l.map a.eval)
 |[]=>trivial
 |x::l=>⟨ct Z0 x,Ls Z0 l⟩
def tD:∀{cs:List (Nat×Nat×Nat×Nat)}{vs:List Value},vs.length=cs.length ->
  (∀(k:Nat)(c:Nat×Nat×Nat×Nat)(v:Value),cs[k]?=some c->vs[k]?=some v->∃p,β c.1 c.2.1=some p/\c.2.2.1+c.2.2.2<=p.hi/\v=.pointer (some ⟨p.b,p.o+c.2.2.1,none⟩))->ARs β (gi cs) vs
 |[],[],_,_=>trivial
 |(id,g,off,lim)::cs,v::vs,hl,h=>⟨h 0 _ _ rfl rfl,tD (by simpa using hl) λk c u hc hu=>h (k+1) c u (by simpa using hc) (by simpa using hu)⟩
 |[],_::_,hl,_=>by simp at hl
 |_::_,[],hl,_=>by simp at hl
def Jd(hR:Rel m β H w){tm:PT AV}{a:Act}(Z0:∀t,AR β (aB (tm.get t) aP λv=>v) (a.tmps.getD t undef))(f:FuncId)(caps:Array Operand):
  ak P m β H w (nd (jQ (evs caps.toList tm)) "makeFunc - captured" λcs=>.val (.one (.o (.clo f cs))) H) ((do let z <-Instr.makeFunc (.func f) (#[].map a.eval) (caps.map a.eval);pure (Next.value z):Sem Next).run P w):=by
 refine ak.nd λcs W3=>?_;obtain⟨h1,h2⟩:=Cy W3 (Ls Z0 caps.toList);refine ak.same hR (v:=.func (.func f) #[] (caps.map a.eval)) (by simp[Instr.makeFunc]) ⟨caps.toList.map a.eval,by rw[<-Array.toList_map,GH],h1,h2⟩
def LF(hR:Rel m β H w)(hm:m<=m)(t:TypeId):
  ak P m β H w (.val (.one (.o (.mp H.nx))) (H.new (.oth (.map [] 0)))) ((do let z <-Instr.makeMap t none;pure (Next.value z):Sem Next).run P w):=by
 intro V1;have hnx':H.nx+1<=m:=V1;have D5:=oS hR hm aa (.oth (.map [] 0)) ⟨w.heap.size,0,0,0⟩ (w':=w.alloc (.map #[] 0)) (ai _) (by simp) rfl rfl rfl
  (λb hb=>RowKit.Below.heap_alloc w _ b hb) (λg hg=>hg) ⟨_,bj _ _ _ _,[],heap_alloc_new w _,trivial⟩
 exact⟨.map (some w.heap.size),_,.inl rfl,Out.one ⟨_,bj _ _ _ _,rfl⟩ D5⟩
def Wz{f:AV}{args:List AV}{v:Value}{vs:List Value}(hf:AR β f v)(V6:ARs β args vs):
  ak P m β H w (tG P f args) ((do let d <-Deferred.ofValue v vs.toArray;invoke d.target d.args:Sem Next).run P w):=by
 cases f with
 |one c=>
  cases c with
  |o q=>
   cases q<;>first
    |exact trivial
    |skip
   ·rename_i g caps
    obtain⟨cs,rfl,hl,hc⟩:=hf;refine ak.guard λhb=>?_;refine⟨vs++cs,?_,V6.append (tD hl hc),hb⟩;simp[Deferred.ofValue,invoke]
   rename_i id
   obtain⟨p,hp,rfl⟩:=hf;exact⟨p,vs,hp,V6,by simp[Deferred.ofValue,invoke]⟩
  |b _=>exact trivial
  |i _ _=>exact trivial
 |agg _=>exact trivial
 |tup _=>exact trivial
 |any=>exact trivial
end
def Em{α:Type}{x:AV}{f:List UInt8->Option α}{r:α}(h:jW x none f=some r):∃s,x=.one (.o (.str s))/\f s=some r:=by
 cases x with
 |one c=>
  cases c with
  |o q=>cases q<;>first|exact⟨_,rfl,h⟩|cases h
  |b _=>cases h
  |i _ _=>cases h
 |agg _=>cases h
 |tup _=>cases h
 |any=>cases h
def En{x:AV}{f:List UInt8->Bool}(h:jW x false f=true):∃s,x=.one (.o (.str s))/\f s=true:=by
 cases x with
 |one c=>
  cases c with
  |o q=>cases q<;>first|exact⟨_,rfl,h⟩|cases h
  |b _=>cases h
  |i _ _=>cases h
 |agg _=>cases h
 |tup _=>cases h
 |any=>cases h
def Di{α:Type}{x:AV}{f:IntKind->Int->Option α}{r:α}(h:fi x none f=some r):∃k n,x=.one (.i k n)/\f k n=some r:=by
 cases x with
 |one c=>
  cases c with
  |o q=>cases h
  |b _=>cases h
  |i _ _=>exact⟨_,_,rfl,h⟩
 |agg _=>cases h
 |tup _=>cases h
 |any=>cases h
def Dj{x:AV}{f:IntKind->Int->Bool}(h:fi x false f=true):∃k n,x=.one (.i k n)/\f k n=true:=by
 cases x with
 |one c=>
  cases c with
  |o q=>cases h
  |b _=>cases h
  |i _ _=>exact⟨_,_,rfl,h⟩
 |agg _=>cases h
 |tup _=>cases h
 |any=>cases h
def eD{α γ:Type}{x:Option α}{f:α->Option γ}{r:γ}(h:aB x none f=some r):∃a,x=some a/\f a=some r:=by
 cases x with
 |none=>cases h
 |some a=>exact⟨a,rfl,h⟩
def DI{α:Type}{x:Option α}{f:α->Bool}(h:aB x false f=true):∃a,x=some a/\f a=true:=by
 cases x with
 |none=>cases h
 |some a=>exact⟨a,rfl,h⟩
section
variable{P:Program}{m:Nat}{β:Pl}{H:Hp}{w:World}
def tJ(kt:TypeId):
  match bO P kt with
  |0=>P.underlying kt=some .string
  |1=>∃k,P.underlying kt=some (.int k)
  |2=>∃d,P.underlying kt=some d/\∀a b,Instr.sameNow d a b=none
  |_=>True:=by
 unfold bO;cases h:P.underlying kt with
 |none=>exact trivial
 |some d=>cases d<;>first|exact trivial|rfl|exact⟨_,rfl⟩|exact⟨_,rfl,λa b=>by cases a<;>cases b<;>rfl⟩
def pT(empty:Bool)(d:Nat){t:TypeId}(v:Value)(h:P.underlying t=some .string\/∃k,P.underlying t=some (.int k)):(Instr.checkKey empty (d+1) t v).run P w=.ok () w:=by rcases h with h|⟨k,h⟩<;>simp[Instr.checkKey,run_underlying h]
def vC{empty:Bool}{kt:TypeId}{k:AV}{v:Value}(hk:AR β k v)(h:iH P empty kt k=some ()):(Instr.checkKey empty 10000 kt v).run P w=.ok () w:=by
 have S5:=tJ (P:=P) kt;unfold iH at h;match hn:bO P kt with
 |0=>rw[hn]at S5;exact pT empty 9999 v (.inl S5)
 |1=>rw[hn]at S5;exact pT empty 9999 v (.inr S5)
 |2=>rw[hn]at h;obtain⟨u,hu,hr⟩:=eD h;rw[AV.kN hu hk];exact tR hr w
 |n+3=>rw[hn]at h;cases h
def EqR(P:Program)(kt:TypeId)(v u:Value)(b:Bool):Prop:=
 match bO P kt with
 |0=>∃x y,v=.string x/\u=.string y/\b=(x==y)
 |1=>∃k x y,v=.int k x/\u=.int k y/\b=(x==y)
 |2=>aG P (Op.equal kt v u)=some b
 |_=>False
def bytes_beq(x y:List UInt8):(ByteArray.mk x.toArray==ByteArray.mk y.toArray)=(x==y):=by show(x.toArray==y.toArray)=_;simp
def IJ{kt:TypeId}{a b:AV}{v u:Value}(ha:AR β a v)(hb:AR β b u){r:Bool}(h:ky P kt a b=some r):EqR P kt v u r:=by
 unfold ky at h;unfold EqR;match hn:bO P kt with
 |0=>
  rw[hn]at h;obtain⟨x,hx,h1⟩:=Em h;obtain⟨y,hy,h2⟩:=Em h1;subst hx hy;cases h2
  exact⟨_,_,ha,hb,by rw[iN,bytes_beq]⟩
 |1=>
  rw[hn]at h;obtain⟨k,x,hx,h1⟩:=Di h;obtain⟨k',y,hy,h2⟩:=Di h1;subst hx hy;rw[cG]at h2;split at h2
  ·rename_i hk
   have:=jN hk;subst this;cases h2
   exact⟨k,x,y,ha,hb,oE _ _⟩
  cases h2
 |2=>rw[hn]at h;obtain⟨x,hx,h1⟩:=eD h;obtain⟨y,hy,h2⟩:=eD h1;rw[AV.kN hx ha,AV.kN hy hb];exact h2
 |n+3=>rw[hn]at h;cases h
inductive Scan(P:Program)(kt:TypeId)(v:Value):List MapEntry->Option Nat->Prop
 |nil:Scan P kt v [] none
 |O4 {e:MapEntry} {es:List MapEntry}:EqR P kt v e.key true->Scan P kt v (e::es) (some 0)
 |miss {e:MapEntry} {es:List MapEntry} {r:Option Nat}:EqR P kt v e.key false->Scan P kt v es r->Scan P kt v (e::es) (r.map (·+1))
def Scan.now{kt:TypeId}{v:Value}{d:TypeDesc}(hd:P.underlying kt=some d)(hk:bO P kt<2){ms:List MapEntry}{r:Option Nat}(h:Scan P kt v ms r):∀j,
  match r with
  |none=>Instr.findNow d v ms j=some none
  |some i=>∃e,ms[i]?=some e/\Instr.findNow d v ms j=some (some (j+i,e.val)):=by
 have key:∀u b,EqR P kt v u b->Instr.sameNow d v u=some b:=by
  intro u b hb;have S5:=tJ (P:=P) kt;unfold EqR at hb;match hn:bO P kt with
  |0=>rw[hn]at hb S5;rw[hd]at S5;cases S5;obtain⟨x,y,rfl,rfl,rfl⟩:=hb;rfl
  |1=>rw[hn]at hb S5;obtain⟨k,S5⟩:=S5;rw[hd]at S5;cases S5;obtain⟨k,x,y,rfl,rfl,rfl⟩:=hb;simp[Instr.sameNow]
  |n+2=>omega
 induction h with
 |nil=>intro j;rfl
 |O4 he=>intro j;exact⟨_,rfl,by simp[Instr.findNow,key _ _ he]⟩
 |miss he _ ih=>
  rename_i e es r _
  intro j;have:=ih (j+1);cases r with
  |none=>simpa [Instr.findNow,key _ _ he]using this
  |some i=>
   obtain⟨e',h1,h2⟩:=this;refine⟨e',by simpa using h1,?_⟩;simp only[Instr.findNow,key _ _ he,h2];congr 3
   omega
def Scan.Zb{kt:TypeId}{v:Value}(hk:bO P kt=2){ms:List MapEntry}{r:Option Nat}(h:Scan P kt v ms r):∀j,
  match r with
  |none=>(Instr.findAsking kt v ms j).run P w=.ok none w
  |some i=>∃e,ms[i]?=some e/\(Instr.findAsking kt v ms j).run P w=.ok (some (j+i,e.val)) w:=by
 have key:∀u b,EqR P kt v u b->(Op.equal kt v u).run P w=.ok b w:=by intro u b hb;unfold EqR at hb;rw[hk]at hb;exact tR hb w
 induction h with
 |nil=>intro j;rfl
 |O4 he=>intro j;exact⟨_,rfl,by simp[Instr.findAsking,key _ _ he]⟩
 |miss he _ ih=>
  rename_i e es r _
  intro j;have:=ih (j+1);cases r with
  |none=>simpa [Instr.findAsking,key _ _ he]using this
  |some i=>
   obtain⟨e',h1,h2⟩:=this;refine⟨e',by simpa using h1,?_⟩;simp only[Instr.findAsking,Sem.run_bind,key _ _ he,Result.andThen_ok,h2,Bool.false_eq_true,if_false];congr 3
   omega
def Scan.run{kt:TypeId}{v:Value}{ms:List MapEntry}{r:Option Nat}(h:Scan P kt v ms r)(hk:bO P kt<=2):
  match r with
  |none=>(Instr.findKey kt v ms).run P w=.ok none w
  |some i=>∃e,ms[i]?=some e/\(Instr.findKey kt v ms).run P w=.ok (some (i,e.val)) w:=by
 have S5:=tJ (P:=P) kt;obtain⟨d,hd⟩:∃d,P.underlying kt=some d:=by
  match hn:bO P kt with
  |0=>rw[hn]at S5;exact⟨_,S5⟩
  |1=>rw[hn]at S5;obtain⟨k,S5⟩:=S5;exact⟨_,S5⟩
  |2=>rw[hn]at S5;obtain⟨d,S5,_⟩:=S5;exact⟨_,S5⟩
  |n+3=>omega
 rcases cO (bO P kt) 2 with h2|h2
 ·have:=Scan.now hd h2 h 0;cases r with
  |none=>simp only at this |-;simp[Instr.findKey,run_underlying hd,this]
  |some i=>obtain⟨e,h1,h3⟩:=this;exact⟨e,h1,by simp[Instr.findKey,run_underlying hd,h3]⟩
 have R3:bO P kt=2:=aa;rw[R3]at S5;obtain⟨d',hd',hnone⟩:=S5;rw[hd]at hd';cases hd';cases ms with
 |nil=>
  cases h
  simp[Instr.findKey,run_underlying hd,Instr.findNow]
 |cons e es=>
  have hn:Instr.findNow d v (e::es) 0=none:=by simp[Instr.findNow,hnone]
  have:=Scan.Zb (w:=w) R3 h 0;cases r with
  |none=>simp only at this |-;simp[Instr.findKey,run_underlying hd,hn,this]
  |some i=>obtain⟨e,h1,h3⟩:=this;exact⟨e,h1,by simp[Instr.findKey,run_underlying hd,hn,h3]⟩
def im{kt:TypeId}{empty:Bool}{k:AV}(h:iH P empty kt k=some ()):bO P kt<=2:=by
 unfold iH at h;match hn:bO P kt with
 |0=>omega
 |1=>omega
 |2=>omega
 |n+3=>rw[hn]at h;cases h
def qk{kt:TypeId}{k:AV}{v:Value}(hk:AR β k v):∀{l:List bX}{ms:List MapEntry},ERs β l ms->∀{r:Option bX},ln P kt k l=some r ->
  ∃i,Scan P kt v ms i/\match r with|none=>i=none|some e=>∃j,i=some j/\l[j]?=some e
 |[],[],_,r,h=>by cases h;exact⟨none,.nil,rfl⟩
 |a::l,b::ms,hE,r,h=>by
  have h':aB (ky P kt k a.key) none (λb=>ifE b (some (some a)) (ln P kt k l))=some r:=h;obtain⟨q,hq,h'⟩:=eD h';have he:=IJ hk hE.1.1 hq;rw[cG]at h';cases q with
  |true=>
   cases h'
   exact⟨some 0,.O4 he,0,rfl,rfl⟩
  |false=>
   obtain⟨i,hs,hi⟩:=qk hk hE.2 h';refine⟨_,.miss he hs,?_⟩;cases r with
   |none=>simp only at hi |-;rw[hi];rfl
   |some e=>obtain⟨j,rfl,hj⟩:=hi;exact⟨j+1,rfl,by simpa using hj⟩
 |[],_::_,hE,_,_=>hE.elim
 |_::_,[],hE,_,_=>hE.elim
def ERs.at{l:List bX}{ms:List MapEntry}(h:ERs β l ms){i:Nat}{e:bX}{me:MapEntry}(h1:l[i]?=some e)(h2:ms[i]?=some me):
  AR β e.key me.key/\e.key.cd=true/\AR β e.val me.val/\e.val.cd=true/\me.born=e.born:=by
 induction l generalizing ms i with
 |nil=>simp at h1
 |cons a l ih=>
  cases ms with
  |nil=>exact h.elim
  |cons b ms=>
   cases i with
   |zero=>simp at h1 h2;subst h1 h2;exact h.1
   |succ i=>exact ih h.2 (by simpa using h1) (by simpa using h2)
def uw{v:AV}{u:Value}(h:AR β v u)(hn:v.cd=true):TR β (PG v) u:=by
 cases v with
 |one c=>exact h
 |agg l=>exact h
 |tup l=>cases hn
 |any=>cases hn
def lF(hR:Rel m β H w){ok:Bool}{v:AV}{u:Value}{b:Bool}(hv:AR β v u){r:Result Next}(hr:r=.ok (.value (if ok then .tuple #[u,.bool b]else u)) w):ak P m β H w (bF H ok v b) r:=by
 cases ok with
 |false=>exact ak.same hR hr hv
 |true=>refine ak.guard λhn=>ak.same hR hr ⟨[u,.bool b],⟨uw hv hn,rfl,trivial⟩,rfl⟩
def qj{kt:TypeId}(hkt:bO P kt=1)(n:Int):∀{es:List bX}{k:List (Int×AV)},pB es=some k->∃e,ln P kt (.one (.i .i64 n)) es=some e/\e.map bX.val=eI n k
 |[],k,h=>by cases h;exact⟨none,rfl,rfl⟩
 |e::l,k,h=>by
  unfold pB at h;split at h
  ·rename_i n' r hk hr
   cases h
   obtain⟨q,h1,h2⟩:=qj hkt n hr;have e0:ln P kt (.one (.i .i64 n)) (e::l)=aB (ky P kt (.one (.i .i64 n)) e.key) none λb=>ifE b (some (some e)) (ln P kt (.one (.i .i64 n)) l):=rfl;have e1:ky P kt (.one (.i .i64 n)) e.key=some (iEq n n'):=by unfold ky;rw[hkt,hk];rfl
   rw[e0,e1];show∃q,ifE (iEq n n') (some (some e)) (ln P kt (.one (.i .i64 n)) l)=some q/\q.map bX.val=if n=n' then some e.val else eI n r
   rw[oE];by_cases hn:n=n'
   ·rw[beq_iff_eq.2 hn,ad hn];exact⟨_,rfl,rfl⟩
   rw[aW hn,ab hn];exact⟨q,h1,h2⟩
  cases h
def Qv(hR:Rel m β H w){t kt et:TypeId}(ht:jl P t=some (kt,et)){z:Value}(hz:ba P et=some z){mp k:AV}{v u:Value}(hm:AR β mp v)(hk:AR β k u)(ok:Bool):
  ak P m β H w (bI P H kt (ofValue z) mp k ok) ((do let y <-Instr.lookup t v u ok;pure (Next.value y):Sem Next).run P w):=by
 have hu:=FL ht;obtain⟨ho,A0,it,O4,hiz⟩:=lT hz;unfold bI;split
 ·refine ak.nd λ_ S6=>?_;have hc:=vC (P:=P) (w:=w) hk S6;have hv:v=.map none:=hm;subst hv;have hf:(Instr.findKey kt u []).run P w=.ok none w:=Scan.run .nil (im S6);refine lF hR (u:=z) (eC ho) ?_;simp[Instr.lookup,run_underlying hu,hc,hf,eU hz]
 ·rename_i id
  obtain⟨p,hp,rfl⟩:=hm;split
  ·rename_i es clock hg
   obtain⟨ms,h1,h2⟩:=sk hR hg hp;refine ak.nd λ_ S6=>?_;have hem:es.isEmpty=ms.isEmpty:=by have:=h2.length;cases es<;>cases ms<;>first|rfl|simp at this
   have hc:=vC (P:=P) (w:=w) hk S6;rw[hem]at hc;split
   ·rename_i e hf
    obtain⟨i,hs,j,rfl,hj⟩:=qk hk h2 hf;obtain⟨me,hme,D2⟩:=Scan.run (w:=w) hs (im S6);refine lF hR (u:=me.val) (h2.at hj hme).2.2.1 ?_;simp[Instr.lookup,run_underlying hu,dn h1,hc,D2]
   ·rename_i hf
    obtain⟨i,hs,rfl⟩:=qk hk h2 hf;have D2:=Scan.run (w:=w) hs (im S6);simp only at D2
    refine lF hR (u:=z) (eC ho) ?_;simp[Instr.lookup,run_underlying hu,dn h1,hc,D2,eU hz]
   exact trivial
  ·rename_i l hg
   obtain⟨q,hq,es,clock,ms,h1,h2,kl,hkl,B4⟩:=hR.obj _ _ hg;rw[hp]at hq;cases hq;refine ak.guard λS5=>?_;have hkt:=aN S5;cases k with
   |one c=>
    cases c with
    |i kd n=>
     refine ak.guard λhsk=>?_;have hkd:=jN hsk;subst hkd;obtain⟨e,l7,he2⟩:=qj (P:=P) hkt n hkl;have S6:iH P ms.isEmpty kt (.one (.i .i64 n))=some ():=by unfold iH;rw[hkt];rfl
     have hc:=vC (P:=P) (w:=w) hk S6;rw[B4]at he2;show ak P m β H w (aB (eI n l) _ _) _;rw[<-he2];cases e with
     |some e=>obtain⟨i,hs,j,rfl,hj⟩:=qk hk h2 l7;obtain⟨me,hme,D2⟩:=Scan.run (w:=w) hs (im S6);refine lF hR (u:=me.val) (h2.at hj hme).2.2.1 ?_;simp[Instr.lookup,run_underlying hu,dn h1,hc,D2]
     |none=>
      obtain⟨i,hs,rfl⟩:=qk hk h2 l7;have D2:=Scan.run (w:=w) hs (im S6);simp only at D2
      refine lF hR (u:=z) (eC ho) ?_;simp[Instr.lookup,run_underlying hu,dn h1,hc,D2,eU hz]
    |b _=>exact trivial
    |o _=>exact trivial
   |agg _=>exact trivial
   |tup _=>exact trivial
   |any=>exact trivial
  exact trivial
 exact trivial
end
section
variable{P:Program}{m:Nat}{β:Pl}{H:Hp}{w:World}
def oT(hR:Rel m β H w)(hm:m<=m)(V1:H.nx<=m){id:Nat}{x:BL}(ho:H.get id=some (.oth x))(x':BL){p:Place}(hp:β id 0=some p)(w0:World)(h0:w0.heap=w.heap)(hos:w0.os=w.os)(htape:w0.tape=w.tape)(E3:w0.output=w.output)
  (o:Obj) (hx:∀w':World,w'.heap[p.b]?=some o->zr β w' p x'):
  Rel m β (H.mod id (.oth x')) { w0 with heap:=w0.heap.setIfInBounds p.b o }/\Ext β H w β (H.mod id (.oth x')) { w0 with heap:=w0.heap.setIfInBounds p.b o }:=by
 have D0:p.b<w.heap.size:=by obtain⟨q,hq,hqx⟩:=hR.obj id _ ho;rw[hp]at hq;cases hq;exact hqx.lt
 refine kJ hR hm V1 ho (.oth x') (λ_ _ _ h=>h) (λ_ _ _=>rfl) (by simp[h0]) hos htape E3 ?_ ?_ ?_
 ·intro b hb hn;have:p.b≠b:=hn 0 p rfl hp;show(w0.heap.setIfInBounds p.b o)[b]?=_;rw[Array.getElem?_setIfInBounds_ne this,h0]
 ·refine⟨p,hp,hx _ ?_⟩;show(w0.heap.setIfInBounds p.b o)[p.b]?=_;rw[Array.getElem?_setIfInBounds_self,h0,ad D0]
 intro g q hg hq;have R2:g=0:=hg;subst R2;exact .inr ⟨0,p,rfl,hp,by rw[hp]at hq;cases hq;rfl⟩
def FZ(n:Nat)(x y:ByteArray):Instr.sameBits n (.string x) (.string y)=(x==y):=by cases n<;>rfl
def FY(n:Nat)(k k':IntKind)(x y:Int):Instr.sameBits n (.int k x) (.int k' y)=(k==k'&&x==y):=by cases n<;>rfl
def Ma{kt:TypeId}{a b:AV}{v u:Value}(ha:AR β a v)(hb:AR β b u)(h:sameKey P kt a b=true):Instr.sameBits 10000 v u=true:=by
 unfold sameKey at h;match hn:bO P kt with
 |0=>rw[hn]at h;obtain⟨x,hx,h1⟩:=En h;obtain⟨y,hy,h2⟩:=En h1;subst hx hy;have ha':v=.string ⟨x.toArray⟩:=ha;have hb':u=.string ⟨y.toArray⟩:=hb;subst ha' hb';rw[FZ,bytes_beq,<-iN];exact h2
 |1=>rw[hn]at h;obtain⟨k,x,hx,h1⟩:=Dj h;obtain⟨k',y,hy,h2⟩:=Dj h1;subst hx hy;have ha':v=.int k x:=ha;have hb':u=.int k' y:=hb;subst ha' hb';obtain⟨h3,h4⟩:=al h2;have:=jN h3;subst this;rw[oE]at h4;rw[FY];simpa using h4
 |n+2=>rw[hn]at h;obtain⟨x,hx,h1⟩:=DI h;obtain⟨y,hy,h2⟩:=DI h1;rw[AV.kN hx ha,AV.kN hy hb];exact h2
def OH{kt:TypeId}{k x:AV}{v u:Value}(hk:AR β k v)(hkn:k.cd=true)(hx:AR β x u)(j7:x.cd=true):∀{l:List bX}{ms:List MapEntry},ERs β l ms->∀{r:Bool×List bX},rm P kt k x l=some r ->
  match r.1 with
  |false=>Scan P kt v ms none
  |true=>∃i me,Scan P kt v ms (some i)/\ms[i]?=some me/\Instr.sameBits 10000 me.key v=true/\ERs β r.2 (ms.modify i λe=>{ e with key:=v,val:=u })
 |[],[],_,r,h=>by cases h;exact .nil
 |a::l,b::ms,hE,r,h=>by
  have h':aB (ky P kt k a.key) none (λb=>ifE b (ifE (sameKey P kt a.key k) (some (true,⟨k,x,a.born⟩::l)) none) (aB (rm P kt k x l) none λr=>some (r.1,a::r.2)))=some r:=h;obtain⟨q,hq,h1⟩:=eD h';have he:=IJ hk hE.1.1 hq;rw[cG]at h1;cases q with
  |true=>
   rw[ad rfl,cG]at h1;split at h1
   ·rename_i hs
    cases h1
    refine⟨0,b,.O4 he,rfl,Ma hE.1.1 hk hs,?_⟩;exact⟨⟨hk,hkn,hx,j7,hE.1.2.2.2.2⟩,hE.2⟩
   cases h1
  |false=>
   obtain⟨r',T3,h2⟩:=eD h1;cases h2
   have:=OH hk hkn hx j7 hE.2 T3;obtain⟨b1,l1⟩:=r';cases b1 with
   |false=>exact .miss he this
   |true=>obtain⟨i,me,h3,h4,h5,h6⟩:=this;refine⟨i+1,me,.miss he h3,by simpa using h4,h5,?_⟩;simp only[List.modify_succ_cons];exact⟨hE.1,h6⟩
 |[],_::_,hE,_,_=>hE.elim
 |_::_,[],hE,_,_=>hE.elim
def ERs.append{l l':List bX}{ms ms':List MapEntry}(h:ERs β l ms)(h':ERs β l' ms'):ERs β (l++l') (ms++ms'):=by
 induction l generalizing ms with
 |nil=>cases ms with|nil=>exact h'|cons=>exact h.elim
 |cons c l ih=>cases ms with|nil=>exact h.elim|cons v ms=>exact⟨h.1,ih h.2⟩
def vq(hR:Rel m β H w)(hm:m<=m){t kt et:TypeId}(ht:jl P t=some (kt,et)){mp k x:AV}{v u y:Value}(hmp:AR β mp v)(hk:AR β k u)(hx:AR β x y):
  ak P m β H w (bD P H kt mp k x) ((do Instr.mapUpdate t v u y;pure Next.skip:Sem Next).run P w):=by
 have hu:=FL ht;unfold bD;split
 ·rename_i id
  obtain⟨p,hp,rfl⟩:=hmp;split
  ·rename_i es clock hg
   obtain⟨ms,h1,h2⟩:=sk hR hg hp;refine ak.nd λ_ S6=>ak.guard λA0=>ak.nd λr hr=>?_;have hc:=vC (P:=P) (w:=w) hk S6;have R6:=OH hk (al A0).1 hx (al A0).2 h2 hr;obtain⟨b,l⟩:=r;cases b with
   |false=>
    have D2:=Scan.run (w:=w) R6 (im S6);simp only at D2
    intro V1;have B7:∀o,(setObj p.b o).run P w=_:=λo=>MapKept.run_setObj_map o h1;refine⟨undef,_,.inr ⟨?_,rfl⟩,Out.one ⟨[],trivial,rfl⟩ (oT hR hm V1 hg _ hp w rfl rfl rfl rfl (.map (ms.toArray.push { key:=u,val:=y,born:=clock }) (clock+1)) ?_)⟩
    ·simp[Instr.mapUpdate,run_underlying hu,dn h1,hc,D2,B7]
    intro w' Q2;refine⟨ms++[{ key:=u,val:=y,born:=clock }],by rw[Q2];simp,?_⟩;exact h2.append ⟨⟨hk,(al A0).1,hx,(al A0).2,rfl⟩,trivial⟩
   |true=>
    obtain⟨i,me,h3,h4,h5,h6⟩:=R6;obtain⟨me',hme',D2⟩:=Scan.run (w:=w) h3 (im S6);intro V1;have B7:∀o,(setObj p.b o).run P w=_:=λo=>MapKept.run_setObj_map o h1;refine⟨undef,_,.inr ⟨?_,rfl⟩,Out.one ⟨[],trivial,rfl⟩ (oT hR hm V1 hg _ hp w rfl rfl rfl rfl (.map (ms.toArray.modify i λe=>{ e with key:=u,val:=y }) clock) ?_)⟩
    ·simp[Instr.mapUpdate,run_underlying hu,dn h1,hc,D2,h4,Instr.keyThatStays,h5,B7]
    intro w' Q2;exact⟨ms.modify i λe=>{ e with key:=u,val:=y },by rw[Q2];simp,h6⟩
  exact trivial
 exact trivial
def UX(hR:Rel m β H w)(hm:m<=m){t kt et:TypeId}(ht:jl P t=some (kt,et)){x:AV}{v:Value}(hx:AR β x v):
  ak P m β H w (jv H x) ((do let y <-Instr.range t v;pure (Next.value y):Sem Next).run P w):=by
 have hu:=FL ht;unfold jv;split
 ·have hv:v=.map none:=hx;subst hv;intro V1;have hnx':H.nx+1<=m:=V1;have D5:=oS hR hm aa (.oth (.iter none 0 [] 0)) ⟨w.heap.size,0,0,0⟩ (w':=w.alloc (.mapIter none 0 #[] 0)) (ai _) (by simp) rfl rfl rfl
   (λb hb=>RowKit.Below.heap_alloc w _ b hb) (λg hg=>hg) ⟨_,bj _ _ _ _,heap_alloc_new w _⟩
  refine⟨.pointer (some ⟨w.heap.size,0,none⟩),_,.inl ?_,Out.one ⟨_,bj _ _ _ _,rfl⟩ D5⟩;simp only[Sem.run_bind,run_range_nilMap w t kt et hu,Result.andThen_ok];rfl
 ·rename_i id
  obtain⟨p,hp,rfl⟩:=hx;split
  ·rename_i es clock hg
   obtain⟨ms,h1,h2⟩:=sk hR hg hp;intro V1;have hnx':H.nx+1<=m:=V1;have I1:¬(id=H.nx/\(0:Nat)=0):=by have:=hR.Tv hg;omega
   have D5:=oS hR hm aa (.oth (.iter (some id) clock [] clock)) ⟨w.heap.size,0,0,0⟩ (w':=w.alloc (.mapIter (some p.b) clock #[] clock)) (ai _) (by simp) rfl rfl rfl
    (λb hb=>RowKit.Below.heap_alloc w _ b hb) (λg hg=>hg) ⟨_,bj _ _ _ _,p,by rw[bY _ _ _ _ I1];exact hp,heap_alloc_new w _⟩
   refine⟨.pointer (some ⟨w.heap.size,0,none⟩),_,.inl ?_,Out.one ⟨_,bj _ _ _ _,rfl⟩ D5⟩;simp only[Sem.run_bind,run_range_map w t kt et p.b ms.toArray clock hu h1,Result.andThen_ok];rfl
  exact trivial
 exact trivial
def ERs.filter{f:bX->Bool}{g:MapEntry->Bool}(hfg:∀e me,me.born=e.born->f e=g me):∀{l:List bX}{ms:List MapEntry},ERs β l ms->ERs β (l.filter f) (ms.filter g)
 |[],[],_=>trivial
 |a::l,b::ms,h=>by
  have h1:=hfg a b h.1.2.2.2.2;have ih:=ERs.filter hfg h.2;rw[List.filter_cons,List.filter_cons,h1];cases g b with
  |true=>exact⟨h.1,ih⟩
  |false=>exact ih
 |[],_::_,h=>h.elim
 |_::_,[],h=>h.elim
def ERs.all{f:bX->Bool}{g:MapEntry->Bool}(hfg:∀e me,me.born=e.born->f e=g me):∀{l:List bX}{ms:List MapEntry},ERs β l ms->l.all f=ms.all g
 |[],[],_=>rfl
 |a::l,b::ms,h=>by rw[List.all_cons,List.all_cons,hfg a b h.1.2.2.2.2,ERs.all hfg h.2]
 |[],_::_,h=>h.elim
 |_::_,[],h=>h.elim
def ERs.isEmpty{l:List bX}{ms:List MapEntry}(h:ERs β l ms):l.isEmpty=ms.isEmpty:=by have:=h.length;cases l<;>cases ms<;>first|rfl|simp at this
def AL(hR:Rel m β H w){id:Nat}{mm:Option Nat}{since last:Nat}{seen:List Nat}(h:H.get id=some (.oth (.iter mm since seen last))){p:Place}(hp:β id 0=some p):
  match mm with
  |none=>w.heap[p.b]?=some (.mapIter none since seen.toArray last)
  |some i=>∃q,β i 0=some q/\w.heap[p.b]?=some (.mapIter (some q.b) since seen.toArray last):=by
 obtain⟨q,hq,h1⟩:=hR.obj id _ h;rw[hp]at hq;cases hq;cases mm with
 |none=>exact h1
 |some i=>exact h1
def th{r b since last clock:Nat}{seen:List Nat}{ms:List MapEntry}(ty:TypeId)(h1:w.heap[r]?=some (.mapIter (some b) since seen.toArray last))(h2:w.heap[b]?=some (.map ms.toArray clock))
  (hc:(!seen.isEmpty&&!ms.isEmpty&&ms.all (λe=>decide (e.born>=last)))=false) (hold:∀e∈ms.filter (λe=>!seen.contains e.born),e.born<since):
  (ms.filter (λe=>!seen.contains e.born)=[]->(Instr.next (.pointer (some ⟨r,0,none⟩)) false ty).run P w=.ok (.tuple #[.bool false]) w) /\
  (ms.filter (λe=>!seen.contains e.born)≠[]->∃(j:Nat)(e:MapEntry)(w1:World),(ms.filter (λe=>!seen.contains e.born))[j]?=some e/\w1.heap=w.heap/\w1.os=w.os/\w1.tape=w.tape/\w1.output=w.output /\
   (Instr.next (.pointer (some ⟨r,0,none⟩)) false ty).run P w=.ok (.tuple #[.bool true,e.key,e.val]) { w1 with heap:=w1.heap.setIfInBounds r (.mapIter (some b) since (seen.toArray.push e.born) clock) }):=by
 have hc':(!seen.toArray.isEmpty&&!ms.toArray.isEmpty&&ms.toArray.all (λe=>decide (e.born>=last)))=false:=by simpa using hc
 have hf:ms.toArray.filter (λe=>!seen.toArray.contains e.born)=(ms.filter (λe=>!seen.contains e.born)).toArray:=by simp
 simp only[Instr.next,Sem.run_bind,jV h1,dn h2,Result.andThen_ok,hc',Bool.false_eq_true,if_false,hf];generalize ms.filter (λe=>!seen.contains e.born)=L at hold;have e1:L.toArray.filter (λx=>decide (x.born<since))=L.toArray:=Array.filter_eq_self.2 (λx hx=>by simpa using hold x (by simpa using hx));have e2:L.toArray.filter (λx=>decide (x.born>=since))=#[]:=by
  rw[Array.filter_eq_empty_iff];intro x hx;have:=hold x (by simpa using hx);simp
  omega
 simp only[e1,e2,Array.append_empty];refine⟨λh0=>?_,λh0=>?_⟩
 ·subst h0;simp[choose,Sem.run,Question.forced]
 have I1:L.toArray.isEmpty=false:=by cases L with|nil=>exact absurd rfl h0|cons a l=>rfl
 have I5:0<L.length:=by cases L with|nil=>exact absurd rfl h0|cons a l=>simp
 simp only[I1,Bool.false_eq_true,if_false,Array.empty_append,Array.size_map];have hch:∃(j:Nat)(w1:World),j<L.length/\w1.heap=w.heap/\w1.os=w.os/\w1.tape=w.tape/\w1.output=w.output/\(choose (Question.mapNext L.toArray.size)).run P w=.ok j w1:=by
  by_cases hf:L.length<=1
  ·exact⟨0,w,I5,rfl,rfl,rfl,rfl,by simp[choose,Sem.run,Question.forced,hf]⟩
  exact⟨_,w.drew,Nat.mod_lt _ I5,rfl,rfl,rfl,rfl,by simp only[choose,Sem.run,Question.forced,pj,bB,hf,if_false,Question.cut];rfl⟩
 obtain⟨j,w1,hj,a1,a2,a3,a4,D2⟩:=hch;refine⟨j,L[j],w1,aO hj,a1,a2,a3,a4,?_⟩;have B7:∀o',(setObj r o').run P w1=.ok () { w1 with heap:=w1.heap.setIfInBounds r o' }:=λo'=>by simp only[setObj,Sem.run,a1,h1]
 simp only[D2,Result.andThen_ok];have L3:(L.toArray.map some)[j]?=some (some L[j]):=by simp[hj]
 simp only[L3,Sem.run_bind,B7,Result.andThen_ok];rfl
def Xu(hR:Rel m β H w)(hm:m<=m){x:AV}{v:Value}(hx:AR β x v)(ty:TypeId):
  ak P m β H w (fT H x) ((do let y <-Instr.next v false ty;pure (Next.value y):Sem Next).run P w):=by
 unfold fT;split
 ·rename_i r
  obtain⟨p,hp,rfl⟩:=hx;split
  ·rename_i a b c hg
   have h1:=AL hR hg hp;simp only at h1
   refine ak.same hR (v:=.tuple #[.bool false]) ?_ ⟨[.bool false],⟨rfl,trivial⟩,rfl⟩;simp[Instr.next,jV h1]
  ·rename_i mi since seen last hg
   obtain⟨q,hq,h1⟩:=AL hR hg hp;split
   ·rename_i es clock hgm
    obtain⟨ms,h2,hE⟩:=sk hR hgm hq;refine ak.guard λhcond=>?_;have hc:(!seen.isEmpty&&!ms.isEmpty&&ms.all (λe=>decide (e.born>=last)))=false:=by
     rw[<-hE.isEmpty,<-ERs.all (f:=λe=>Nat.ble last e.born) (g:=λe=>decide (e.born>=last)) (λe me hb=>by rw[hb,fZ];simp) hE];cases hq:(!seen.isEmpty&&!es.isEmpty&&es.all (λe=>Nat.ble last e.born))with
     |false=>rfl
     |true=>rw[hq]at hcond;cases hcond
    have hfE:ERs β (es.filter λe=>!seen.contains e.born) (ms.filter λe=>!seen.contains e.born):=hE.filter λe me hb=>by rw[hb]
    split
    ·rename_i M5
     rw[M5]at hfE;have hnil':ms.filter (λe=>!seen.contains e.born)=[]:=by
      cases hms:ms.filter (λe=>!seen.contains e.born)with
      |nil=>rfl
      |cons=>rw[hms]at hfE;exact hfE.elim
     refine ak.same hR (v:=.tuple #[.bool false]) ?_ ⟨[.bool false],⟨rfl,trivial⟩,rfl⟩;have:=(th (P:=P) ty h1 h2 hc (by rw[hnil'];intro e he;cases he)).1 hnil';simp only[Sem.run_bind,this,Result.andThen_ok];rfl
    rename_i e l hcons
    refine ak.guard λhborn=>?_;rw[<-hcons]at hborn |-;intro V1;have hold:∀e∈ms.filter (λe=>!seen.contains e.born),e.born<since:=by have:=ERs.all (f:=λe=>Nat.blt e.born since) (g:=λe=>decide (e.born<since)) (λe me hb=>by rw[hb,fZ,bB];exact⟨λh=>aY h,λh=>bG h⟩) hfE;rw[hborn]at this;intro e he;simpa using List.all_eq_true.1 this.symm e he
    have I1:ms.filter (λe=>!seen.contains e.born)≠[]:=by intro h;rw[h,hcons]at hfE;exact hfE
    obtain⟨j,me,w1,hj,a1,a2,a3,a4,D2⟩:=(th (P:=P) ty h1 h2 hc hold).2 I1;have hjl:j<(es.filter λe=>!seen.contains e.born).length:=by rw[<-hfE.length];exact(List.getElem?_eq_some_iff.1 hj).1
    have hje:=aO hjl;obtain⟨b1,b2,b3,b4,b5⟩:=hfE.at hje hj;have I0:(rI ((es.filter λe=>!seen.contains e.born)[j]).key ((es.filter λe=>!seen.contains e.born)[j]).val,H.mod r (.oth (.iter (some mi) since (seen++[((es.filter λe=>!seen.contains e.born)[j]).born]) clock))) ∈
      (es.filter λe=>!seen.contains e.born).map (λe=>(rI e.key e.val,H.mod r (.oth (.iter (some mi) since (seen++[e.born]) clock)))):=List.mem_map.2 ⟨_,cU hjl,rfl⟩
    have hnx':H.nx<=m:=V1 _ I0;refine⟨.tuple #[.bool true,me.key,me.val],_,by simp only[Sem.run_bind,D2,Result.andThen_ok];rfl,_,I0,β,⟨[.bool true,me.key,me.val],⟨rfl,uw b1 b2,uw b3 b4,trivial⟩,rfl⟩,?_⟩;refine oT hR hm hnx' hg _ hp w1 a1 a2 a3 a4 _ λw' Q2=>⟨q,hq,?_⟩;rw[Q2,b5];simp
   exact trivial
  exact trivial
 exact trivial
def ERs.find{st:Nat}:∀{l:List bX}{ms:List MapEntry},ERs β l ms->∀{e:bX},l.find? (λe=>Nat.beq e.born st)=some e ->
  ∃me,ms.find? (λe=>e.born==st)=some me/\AR β e.key me.key/\e.key.cd=true/\AR β e.val me.val/\e.val.cd=true
 |[],[],_,e,h=>by cases h
 |a::l,b::ms,hE,e,h=>by
  rw[List.find?_cons]at h |-;have hb:(b.born==st)=Nat.beq a.born st:=by rw[hE.1.2.2.2.2,fZ,gP,xi]
  rw[hb];cases hq:Nat.beq a.born st with
  |true=>
   rw[hq]at h;cases h
   exact⟨b,rfl,hE.1.1,hE.1.2.1,hE.1.2.2.1,hE.1.2.2.2.1⟩
  |false=>rw[hq]at h;exact ERs.find hE.2 h
 |[],_::_,hE,_,_=>hE.elim
 |_::_,[],hE,_,_=>hE.elim
def Td(hR:Rel m β H w){x:AV}{v:Value}(hx:AR β x v):
  ak P m β H w (ju H x) ((do let y <-Instr.entry v;pure (Next.value y):Sem Next).run P w):=by
 unfold ju;split
 ·rename_i r
  obtain⟨p,hp,rfl⟩:=hx;split
  ·rename_i mi since seen stepped hg
   obtain⟨q,hq,h1⟩:=AL hR hg hp;split
   ·rename_i es clock hgm
    obtain⟨ms,h2,hE⟩:=sk hR hgm hq;split
    ·rename_i st X3
     refine ak.guard λW0=>?_;have W0:clock=stepped:=aN W0;subst W0;split
     ·rename_i e hfe
      obtain⟨me,hme,b1,b2,b3,b4⟩:=hE.find hfe;refine ak.same hR (v:=.tuple #[me.key,me.val]) ?_ ⟨[me.key,me.val],⟨uw b1 b2,uw b3 b4,trivial⟩,rfl⟩;simp[Instr.entry,jV h1,dn h2,X3,hme]
     exact trivial
    exact trivial
   exact trivial
  exact trivial
 exact trivial
end
section
variable{P:Program}{m:Nat}{β:Pl}{H:Hp}{w:World}{tm:PT AV}{r:Result Next}
def SF.nd{α:Type}{o:Option α}{s:String}{f:α->SF}(h:∀a,o=some a->ak P m β H w ((f a).run tm H) r):ak P m β H w ((ndF o s f).run tm H) r:=by
 cases o with
 |none=>exact trivial
 |some a=>exact h a rfl
def SF.ifE{b:Bool}{s:String}{f:SF}(h:b=true->ak P m β H w (f.run tm H) r):ak P m β H w ((ifE b f (gW s)).run tm H) r:=by
 cases b with
 |false=>exact trivial
 |true=>exact h rfl
def oX{α:Type}{a:Array α}{x y:α}(h:a.toList=[x,y]):a=#[x,y]:=by apply wq;simpa using h
def Oj{α γ:Type}(f:α->γ)(x y:α):(#[x,y]:Array α).map f=#[f x,f y]:=by simp
def Xl{α γ:Type}(f:α->γ)(x:α):(#[x]:Array α).map f=#[f x]:=by simp
def BB{α:Type}{a:Array α}{x:α}(h:a.toList=[x]):a=#[x]:=by apply wq;simpa using h
def Ld(hR:Rel m β H w)(hm:m<=m){a:Act}(Z0:∀t,AR β (aB (tm.get t) aP λv=>v) (a.tmps.getD t undef))(o:Oper)(c:Call)(b:Builtin)(ho:o.op=.call c)(hc:c.callee=.builtin b):
  ak P m β H w ((kX P o b c.args.toList c.argTypes.toList).run tm H) ((execOp a.eval o).run P w):=by
 obtain⟨cs,he⟩:∃cs,execOp a.eval o=builtin b c.argTypes o.type cs (c.args.map a.eval):=by
  refine⟨c.args.map λ|.const _=>true|_=>false,?_⟩;obtain⟨dst,op,type,pos,after,guard⟩:=o;cases ho
  cases c
  cases hc
  rfl
 have hp:=JG (P:=P) hR Z0 o (by intro cs bb h;rw[ho]at h;cases h);unfold kX;split
 ·rename_i s x t t2 h1 h2
  refine SF.ifE λhq=>?_;have:=aN hq;subst this;rw[he,oX h1,oX h2,Oj];exact Pq (P:=P) (t:=t) hR hm o.type (ct Z0 s) (ct Z0 x)
 ·rename_i d s t t2 h1 h2
  refine SF.ifE λhq=>?_;have:=aN hq;subst this;rw[he,oX h1,oX h2,Oj];exact WD (P:=P) (t:=t) (ty:=o.type) hR hm (ct Z0 d) (ct Z0 s)
 ·rename_i x t h1 h2
  refine SF.nd λk hk=>?_;rw[he,BB h1,BB h2,Xl];exact ZP (P:=P) (t:=t) (ty:=o.type) hR hk (ct Z0 x)
 ·exact hp
 ·exact hp
 exact trivial
def SB(hR:Rel m β H w)(hm:m<=m){a:Act}(Z0:∀t,AR β (aB (tm.get t) aP λv=>v) (a.tmps.getD t undef))(o:Oper)(c:Call)(ho:o.op=.call c):
  ak P m β H w ((xu P o c).run tm H) ((execOp a.eval o).run P w):=by
 unfold xu;split
 ·rename_i f hc
  have he:execOp a.eval o=(do let d <-Deferred.ofValue (a.eval f) (c.args.toList.map a.eval).toArray;invoke d.target d.args):=by
   obtain⟨dst,op,type,pos,after,guard⟩:=o;cases ho
   cases c
   cases hc
   rw[<-Array.toList_map,GH];rfl
  rw[he];exact Wz (ct Z0 f) (Ls Z0 c.args.toList)
 ·rename_i b hc
  exact Ld hR hm Z0 o c b ho hc
 exact trivial
def Yi(hR:Rel m β H w)(hm:m<=m){a:Act}(Z0:∀t,AR β (aB (tm.get t) aP λv=>v) (a.tmps.getD t undef))(o:Oper):
  ak P m β H w (UA P tm H o) ((execOp a.eval o).run P w):=by
 have hp:=λhs=>JG (P:=P) hR Z0 o hs;have W0:=λc hc=>SB (P:=P) hR hm Z0 o c hc;obtain⟨dst,op,type,pos,after,guard⟩:=o;unfold UA;cases op with
 |move x=>exact Om hR Z0 x
 |assign x=>exact Om hR Z0 x
 |pick c x y=>exact XO hR Z0 c x y
 |alloc e=>exact SF.nd λz hz=>Sa hR hm hz
 |box e x=>exact Zm hR hm e (ct Z0 x)
 |build t parts=>exact SF.nd λz hz=>SF.nd λpl hpl=>SF.nd λps hps=>SA hR Z0 hz hpl hps
 |buildSlice t len parts=>exact SF.nd λes hes=>SF.nd λz hz=>SF.ifE λhg=>SF.nd λps hps=>BP hR hm Z0 hes hz (aY (al hg).1) (by rw[<-bP];exact aN (al hg).2) hps
 |load t x=>exact SF.nd λp hl=>Xk hR (a:=p.1) (n:=p.2) hl (ct Z0 x)
 |store t x y=>exact SF.nd λn hn=>Vv hR hm hn (ct Z0 y) (ct Z0 x)
 |nilCheck x=>exact Jo hR (ct Z0 x) _ rfl
 |binOp op t x y c=>exact Zi hR (ct Z0 x) (ct Z0 y) (hp (by simp))
 |unOp op t x=>exact abf hR (ct Z0 x) (hp (by simp))
 |convert s d x=>exact hp (by simp)
 |fieldAddr s x f=>exact SF.nd λp hf=>Fg hR (ft:=p.2.1) hf (ct Z0 x)
 |field t x f=>exact SF.nd λp hf=>SF.nd λb hb=>To hR (ft:=p.2.1) hf hb (ct Z0 x)
 |indexAddr t x i=>
  cases he:bV P t with
  |none=>simp only[aQ,he];exact SF.nd λp hf=>IB hR hf (ct Z0 x) (ct Z0 i)
  |some p=>simp only[aQ,he];exact Fp hR (e:=p.1) he (ct Z0 x) (ct Z0 i)
 |index t x i=>exact TG hR (ct Z0 x) (ct Z0 i) (hp (by simp))
 |slice t x lo hi mx=>
  cases mx with
  |some _=>exact trivial
  |none=>
   cases he:bV P t with
   |none=>
    have:aQ P ⟨dst,.slice t x lo hi none,type,pos,after,guard⟩=.mk λtm h=>aA P tm h ⟨dst,.slice t x lo hi none,type,pos,after,guard⟩:=by simp[aQ,he]
    rw[this];exact hp (by simp)
   |some p=>
    have:aQ P ⟨dst,.slice t x lo hi none,type,pos,after,guard⟩=.mk λtm h=>ep h p.2 ((opF x).ev tm) (lo.map (ev tm)) (hi.map (ev tm)) (aA P tm h ⟨dst,.slice t x lo hi none,type,pos,after,guard⟩):=by simp[aQ,he]
    rw[this];exact Vn hR Z0 (e:=p.1) he (hp (by simp))
 |extract x i=>exact Lu hR (ct Z0 x) i
 |makeFunc fn first caps=>
  cases fn with
  |func f=>
   refine SF.ifE λhg=>?_;have:first=#[]:=by simpa using hg
   subst this;exact Jd hR Z0 f caps
  |_=>exact trivial
 |makeMap t r=>
  cases r with
  |some _=>exact trivial
  |none=>exact LF hR hm t
 |makeSlice t l c=>exact FJ hR hm (ct Z0 l) (ct Z0 c)
 |lookup t x k ok=>exact SF.nd λp ht=>SF.nd λz hz=>Qv hR (kt:=p.1) (et:=p.2) ht hz (ct Z0 x) (ct Z0 k) ok
 |mapUpdate t x k y=>exact SF.nd λp ht=>vq hR hm (kt:=p.1) (et:=p.2) ht (ct Z0 x) (ct Z0 k) (ct Z0 y)
 |insert t x k y=>exact SF.nd λp ht=>vq hR hm (kt:=p.1) (et:=p.2) ht (ct Z0 x) (ct Z0 k) (ct Z0 y)
 |range t x=>exact SF.nd λp ht=>UX hR hm (kt:=p.1) (et:=p.2) ht (ct Z0 x)
 |next x b=>
  cases b with
  |true=>exact trivial
  |false=>exact Xu hR hm (ct Z0 x) type
 |entry x=>exact Td hR (ct Z0 x)
 |call c=>exact W0 c rfl
 |_=>exact trivial
end
def pJ(β:Pl):List Nat->List Deferred->Prop
 |[],[]=>True
 |i::l,d::ds=>(∃p,β i 0=some p/\d={ target:=.collected p.b,args:=#[] })/\pJ β l ds
 |_,_=>False
structure jz(β:Pl)(A:ag)(a:Act):Prop where
 tm:TmR β A.tm A.nt a.tmps
 df:pJ β A.dfr a.defers
def oo(β:Pl)(r:Option Nat)(rB:Option Nat):Prop:=
 match r with
 |none=>rB=none
 |some l=>∃p,β l 0=some p/\rB=some p.b
def fen(rB:Option Nat):Fence:={ fn:=λ_=>True,depth:=none,alive:=false,round:=rB }
def XR:ax->Exit->Prop
 |.normal,.normal=>True
 |.exit i,.exit j=>i=j
 |.ret,.ret=>True
 |_,_=>False
def fN(m:Nat)(β:Pl)(H:Hp)(w:World)(outs:List (ax×ag×Hp))(e:Exit)(a':Act)(w':World):Prop:=
 ∃x,x∈outs/\XR x.1 e/\∃β',jz β' x.2.1 a'/\Rel m β' x.2.2 w'/\Ext β H w β' x.2.2 w'
def MK(m:Nat)(β:Pl)(H:Hp)(w:World)(outs:List (ag×Hp))(a':Act)(w':World):Prop:=
 ∃x,x∈outs/\∃β',jz β' x.1 a'/\Rel m β' x.2 w'/\Ext β H w β' x.2 w'
def mZ(m:Nat)(β:Pl)(H:Hp)(w:World)(outs:List (AV×Hp))(e:Ending)(w':World):Prop:=∃v,e=.returned v/\Out m β H w outs v w'
structure Ey(P:Program)(N:Nat)(rec:Rec):Prop where
 code:∀{m:Nat}{β:Pl}{H:Hp}{w:World}{r rB:Option Nat}{A:ag}{a:Act}{c:Code}{outs:List (ax×ag×Hp)},m<=m->Rel m β H w->jz β A a->oo β r rB ->
  rec.code r c A H=.ok outs->(∀x∈outs,nE x<=m)->c.wpIn (fen rB) 0 P (fN m β H w outs) a w/\∀x,c=.loop x->Code.roundsIn (fen rB) 0 P x (fN m β H w outs) N a w
 call:∀{m:Nat}{β:Pl}{H:Hp}{w:World}{f:FuncId}{args:List AV}{vs:List Value}{outs:List (AV×Hp)},m<=m->Rel m β H w->ARs β args vs ->
  rec.call f args H=.ok outs->(∀x∈outs,nV x<=m)->CallsIn Fence.wide 0 P f vs.toArray w (mZ m β H w outs)
structure uh(E:Env):Prop where
 name:∀(f:FuncId)(fn:Func),E.P.funcs[f]?=some fn->fn.body.isSome=true->(fn.name == "runtime.NumGoroutine")=false
 mixed:E.P.follows .mixedOrders=true
 eu:∀(f:FuncId)(args:List AV)(v:AV),E.eu f args=some v->∀(β:Pl)(vs:List Value)(w:World),ARs β args vs ->
  CallsIn Fence.wide 0 E.P f vs.toArray w λe w'=>∃u,e=.returned u/\AR β v u/\w'.os=w.os/\w'.tape=w.tape/\w'.output=w.output/\w.heap.size<=w'.heap.size/\∀b,b<w.heap.size->w'.heap[b]?=w.heap[b]?
 dW:∀{m:Nat}{β:Pl}{H:Hp}{w:World}(f:FuncId)(args:List AV)(x:AV×Nat×aX),E.dW f args H=some x->Rel m β H w->∀(vs:List Value),ARs β args vs->H.nx<=m ->
  CallsIn Fence.wide 0 E.P f vs.toArray w (mZ m β H w [(x.1,H.mod x.2.1 x.2.2)])
def uh.of3{E:Env} (h1:∀(f:FuncId)(fn:Func),E.P.funcs[f]?=some fn->fn.body.isSome=true->(fn.name == "runtime.NumGoroutine")=false) (h2:E.P.follows .mixedOrders=true)
  (h3:∀(f:FuncId)(args:List AV)(v:AV),E.eu f args=some v->∀(β:Pl)(vs:List Value)(w:World),ARs β args vs ->
   CallsIn Fence.wide 0 E.P f vs.toArray w λe w'=>∃u,e=.returned u/\AR β v u/\w'.os=w.os/\w'.tape=w.tape/\w'.output=w.output/\w.heap.size<=w'.heap.size/\∀b,b<w.heap.size->w'.heap[b]?=w.heap[b]?)
  (hH:∀f args H,E.dW f args H=none:=by intros;rfl):uh E:=
 ⟨h1,h2,h3,λf args x h=>by rw[hH]at h;cases h⟩
def pJ.mono{β β':Pl}(hs:Sub β β'):∀{l:List Nat}{ds:List Deferred},pJ β l ds->pJ β' l ds
 |[],[],_=>trivial
 |_::_,_::_,h=>⟨by obtain⟨p,hp,hd⟩:=h.1;exact⟨p,hs _ _ _ hp,hd⟩,pJ.mono hs h.2⟩
 |[],_::_,h=>h.elim
 |_::_,[],h=>h.elim
def jz.mono{β β':Pl}(hs:Sub β β'){A:ag}{a:Act}(h:jz β A a):jz β' A a:=⟨h.tm.mono hs,h.df.mono hs⟩
def oo.mono{β β':Pl}(hs:Sub β β'){r rB:Option Nat}(h:oo β r rB):oo β' r rB:=by
 cases r with
 |none=>exact h
 |some l=>obtain⟨p,hp,h⟩:=h;exact⟨p,hs _ _ _ hp,h⟩
def Rel.grown{m:Nat}{β:Pl}{H:Hp}{w w':World}(hR:Rel m β H w)(hw:∀b,b<w.heap.size->w'.heap[b]?=w.heap[b]?):Rel m β H w' where
 obj:=λid o ho=>ig.mono (λ_ _ _ h=>h) (hR.obj id o ho) (λ_=>rfl) λg p hg hp=>hw _ ((hR.obj id o ho).lt hg hp)
 sep:=hR.sep
 wf:=hR.wf
 free:=hR.free
def Ext.grown{β:Pl}{H:Hp}{w w':World}(h1:w'.os=w.os)(h2:w'.tape=w.tape)(h3:w'.output=w.output)(h4:w.heap.size<=w'.heap.size)(hw:∀b,b<w.heap.size->w'.heap[b]?=w.heap[b]?):Ext β H w β H w':=
 { Ext.refl β H w with size:=h4,os:=h1,tape:=h2,output:=h3,frame:=λb hb _=>hw b hb,far:=λ_ _ b hb _=>hw b hb,prov:=λid o g p a b c=>.inr ⟨o,g,p,a,b,c,rfl,rfl⟩ }
def TmR.put{β:Pl}{tm:PT AV}{nt:Nat}{tmps:Array Value}(h:TmR β tm nt tmps){d:Nat}(hd:d<nt){v:AV}{u:Value}(hv:AR β v u):TmR β (tm.set d v) nt (tmps.setIfInBounds d u):=by
 obtain⟨h1,h2,h3⟩:=h;refine⟨by simp[h1],h2,λt=>?_⟩;rw[PT.sb _ _ _ _ aa];by_cases ht:t=d
 ·subst ht;rw[ad rfl];have:(tmps.setIfInBounds t u).getD t undef=u:=by simp[h1,hd]
  rw[this];exact hv
 rw[ab ht];have:(tmps.setIfInBounds d u).getD t undef=tmps.getD t undef:=by simp only[ue];rw[Array.getElem?_setIfInBounds_ne (λh=>ht h.symm)]
 rw[this];exact h3 t
def jz.put{β:Pl}{A:ag}{a:Act}(h:jz β A a){v:AV}{u:Value}(hv:AR β v u){H:Hp}{dst:Option Tmp}{k:ag->Hp->R (ag×Hp)}{outs:List (ag×Hp)}(hk:iJ A dst v H k=.ok outs):
  ∃A',k A' H=.ok outs/\jz β A' (a.put dst u):=by
 cases dst with
 |none=>exact⟨A,hk,h⟩
 |some d=>
  have J4:ifE (Nat.blt d A.nt) (k (A.put d v) H) (.bad "slot")=.ok outs:=hk
  rw[cG]at J4;split at J4
  ·rename_i hd
   exact⟨_,J4,h.tm.put (aY hd) hv,h.df⟩
  cases J4
def pH(β:Pl):AR β aP undef:=⟨[],trivial,rfl⟩
section
variable{E:Env}(hE:uh E){N:Nat}{rec:Rec}(M0:Ey E.P N rec)
theorem vJ{P:Program} (hn:∀(f:FuncId)(fn:Func),P.funcs[f]?=some fn->fn.body.isSome=true->(fn.name == "runtime.NumGoroutine")=false) {f:FuncId} (hb:aq P f=true) (args:Array Value) (w:World):
  (callFunc f args).run P w=.ok (.enter f args) w:=by
 unfold aq at hb;cases hf:P.funcs[f]? with
 |none=>rw[hf]at hb;cases hb
 |some fn=>
  rw[hf]at hb;have hb':fn.body.isSome=true:=hb;have h1:=hn f fn hf hb';obtain⟨c,hq⟩:=Option.isSome_iff_exists.1 hb';have W5:fn.name ≠ "runtime.NumGoroutine" := by simpa using h1
  simp[callFunc,hf,W5,hq]
include hE M0
theorem Tb{m:Nat}{β:Pl}{H:Hp}{w:World}(hm:m<=m)(hR:Rel m β H w){f:FuncId}{args:List AV}{vs:List Value}(ha:ARs β args vs){outs:List (AV×Hp)}(h:pY E rec f args H=.ok outs)(hb:∀x∈outs,nV x<=m):
  CallsIn Fence.wide 0 E.P f vs.toArray w (mZ m β H w outs):=by
 unfold pY at h;cases hp:E.eu f args with
 |none=>
  rw[hp]at h;have h:aB (E.dW f args H) (rec.call f args H) (λx=>.ok [(x.1,H.mod x.2.1 x.2.2)])=.ok outs:=h;cases hq:E.dW f args H with
  |none=>rw[hq]at h;exact M0.call hm hR ha h hb
  |some x=>
   rw[hq]at h;cases h
   exact hE.dW f args x hq hR vs ha (hb _ (List.mem_singleton.2 rfl))
 |some v=>
  rw[hp]at h;cases h
  refine CallsIn.mono (hE.eu f args v hp β vs w ha) λe w' he=>?_;obtain⟨u,rfl,hu,h1,h2,h3,h4,h5⟩:=he;exact⟨u,rfl,_,List.mem_singleton.2 rfl,β,hu,hR.grown h5,Ext.grown h1 h2 h3 h4 h5⟩
end
def RG.qL{α:Type}{k m:Nat}{nx:α->Nat}{r:R α}(h:RG k nx r){o outs:List α}(ho:r=.ok o)(hs:∀y∈o,y∈outs)(hb:∀x∈outs,nx x<=m):k<=m:=by
 obtain⟨h1,h2⟩:=h o ho;cases o with
 |nil=>exact absurd rfl h1
 |cons x l=>exact aD (h2 x (bh ..)) (hb x (hs x (bh ..)))
def MK.ext{m:Nat}{β β':Pl}{H H':Hp}{w w':World}(hx:Ext β H w β' H' w'){outs outs':List (ag×Hp)}(hs:∀y∈outs,y∈outs'){a:Act}{w'':World}(h:MK m β' H' w' outs a w''):MK m β H w outs' a w'':=by obtain⟨x,hxm,b,h1,h2,h3⟩:=h;exact⟨x,hs x hxm,b,h1,h2,hx.trans h3⟩
def fN.ext{m:Nat}{β β':Pl}{H H':Hp}{w w':World}(hx:Ext β H w β' H' w'){outs outs':List (ax×ag×Hp)}(hs:∀y∈outs,y∈outs'){e:Exit}{a:Act}{w'':World}(h:fN m β' H' w' outs e a w''):fN m β H w outs' e a w'':=by obtain⟨x,hxm,h0,b,h1,h2,h3⟩:=h;exact⟨x,hs x hxm,h0,b,h1,h2,hx.trans h3⟩
def BE{β:Pl}{tm:PT AV}{nt:Nat}{tmps:Array Value}(Z0:TmR β tm nt tmps){ops:Array Oper}{o:Oper}{yes no:R (ag×Hp)}{outs:List (ag×Hp)}(h:cy tm (gOf ops.toList o.guard) yes no=.ok outs):
  (Region.wanted o (yielded ops tmps)=true/\yes=.ok outs)\/(Region.wanted o (yielded ops tmps)=false/\no=.ok outs):=by
 unfold Region.wanted;cases hg:o.guard with
 |none=>rw[hg]at h;exact .inl ⟨rfl,h⟩
 |some p=>
  obtain⟨j,want⟩:=p;rw[hg]at h;have key:∀y:Option Bool,yielded ops tmps j=y->(yielded ops tmps j==some want)=(y==some want):=λy hy=>by rw[hy]
  unfold gOf at h;simp only[lS]at h;cases hj:ops[j]? with
  |none=>rw[hj]at h;refine .inr ⟨?_,h⟩;show(yielded ops tmps j==some want)=false;rw[key none (by simp[yielded,hj])];rfl
  |some oj=>
   rw[hj]at h;cases hd:oj.dst with
   |none=>simp only[hd]at h;refine .inr ⟨?_,h⟩;show(yielded ops tmps j==some want)=false;rw[key none (by simp[yielded,hj,hd])];rfl
   |some t=>
    simp only[hd]at h;have hv:=Z0.2.2 t;have hy:∀u,tmps.getD t undef=u->(∀b,u≠.bool b)->(yielded ops tmps j==some want)=false:=by
     intro u hu hb;rw[key none]
     ·rfl
     simp only[yielded,hj,hd,Option.bind_some];cases ht:tmps[t]? with
     |none=>rfl
     |some x=>
      have:x=u:=by rw[<-hu];simp[ue,ht]
      subst this;cases x<;>first|rfl|exact absurd rfl (hb _)
    have hyb:∀b,tmps.getD t undef=.bool b->(yielded ops tmps j==some want)=(b==want):=by
     intro b hb;rw[key (some b)]
     ·rfl
     simp only[yielded,hj,hd,Option.bind_some];cases ht:tmps[t]? with
     |none=>simp[ue,ht,undef]at hb
     |some x=>
      have:x=.bool b:=by rw[<-hb];simp[ue,ht]
      subst this;rfl
    show((yielded ops tmps j==some want)=true/\_)\/((yielded ops tmps j==some want)=false/\_);cases ht:tm.get t with
    |none=>
     rw[ht]at hv;have h':no=.ok outs:=by simpa [cy,aB,ht]using h
     obtain⟨vs,_,hu⟩:=hv;exact .inr ⟨hy _ hu (by simp),h'⟩
    |some v=>
     rw[ht]at hv;have h':AV.rec (motive:=λ_=>R (ag×Hp)) (λc=>acE c (λb=>ifE b (ifE want yes no) (ifE want no yes)) (λ_ _=>no) (λ_=>.bad "guard")) (λ_=>no) (λ_=>no) (.bad "guard") v=.ok outs:=by simpa [cy,aB,ht]using h
     cases v with
     |one c=>
      cases c with
      |b b=>rw[hyb b hv];cases b<;>cases want<;>first|exact .inl ⟨rfl,h'⟩|exact .inr ⟨rfl,h'⟩
      |i k n=>have q5:tmps.getD t undef=.int k n:=hv;exact .inr ⟨hy _ q5 (by simp),h'⟩
      |o q=>cases h'
     |agg l=>obtain⟨vs,_,hu⟩:=hv;exact .inr ⟨hy _ hu (by simp),h'⟩
     |tup l=>obtain⟨vs,_,hu⟩:=hv;exact .inr ⟨hy _ hu (by simp),h'⟩
     |any=>cases h'
def vL{β:Pl}{nt:Nat}:∀(ps:List Tmp)(args:List AV)(vs:List Value)(tm:PT AV)(tmps:Array Value),TmR β tm nt tmps->ARs β args vs->(∀p∈ps,p<nt)->args.length=ps.length ->
  TmR β (gG ps args tm) nt ((ps.zip vs).foldl (λtmps(t,a)=>tmps.setIfInBounds t a) tmps)
 |[],[],[],tm,tmps,h,_,_,_=>h
 |p::ps,x::args,v::vs,tm,tmps,h,ha,hp,hl=>by refine vL ps args vs _ _ (h.put (hp p (bh ..)) ha.1) ha.2 (λq hq=>hp q (aU _ hq)) (by simpa using hl)
 |_,[],_::_,_,_,_,ha,_,_=>ha.elim
 |_,_::_,[],_,_,_,ha,_,_=>ha.elim
 |[],_::_,_,_,_,_,_,_,hl=>by simp at hl
 |_::_,[],_,_,_,_,_,_,hl=>by simp at hl
def fj{P:Program}{w:World}{l:Nat}{r:Loop}(h:w.heap[l]?=some (.loop r)):(Instr.getLoop l).run P w=.ok r w:=by simp[Instr.getLoop,getObj,Sem.run,h]
def jM{P:Program}{w:World}{l:Nat}{r:Loop}(o:Obj)(h:w.heap[l]?=some (.loop r)):(setObj l o).run P w=.ok () { w with heap:=w.heap.setIfInBounds l o }:=by simp[setObj,Sem.run,h]
def qP{m:Nat}{β:Pl}{H:Hp}{w:World}(hR:Rel m β H w){id:Nat}{st:LoopState}{pe:Option Code}{tm:PT AV}{nt:Nat}{ps:List Tmp}{as bo:Code}{d:Nat}(h:H.get id=some (.oth (.loop st pe tm nt ps as bo d))){p:Place}(hp:β id 0=some p):
  ∃q fn tmps,β d 0=some q/\TmR β tm nt tmps/\w.heap[p.b]?=some (.loop { state:=st,pending:=pe,fn:=fn,tmps:=tmps,params:=ps.toArray,assign:=as,body:=bo,defers:=q.b }):=by
 obtain⟨q,hq,h1⟩:=hR.obj id _ h;rw[hp]at hq;cases hq;exact h1
section
variable{E:Env}{N:Nat}{rec:Rec}(M0:Ey E.P N rec)(J0:RecM rec)
include M0 J0
theorem Vd{m:Nat}{β:Pl}{H:Hp}{w:World}(hm:m<=m)(hR:Rel m β H w){id:Nat}{p:Place}{args:List AV}{vs:List Value}{outs:List (AV×Hp)}(rB:Option Nat)(hp:β id 0=some p)(ha:ARs β args vs)
  (h:iL rec id args H=.ok outs) (hb:∀x∈outs,nV x<=m):
  ∃fn tmps as bo,(Instr.yield p.b vs.toArray).run E.P w=.ok (.round p.b fn tmps as bo) w/\RoundIn (fen rB) 0 E.P p.b fn tmps as bo w (mZ m β H w outs):=by
 unfold iL at h;split at h
 ·rename_i pe tm nt ps as bo d hg
  rw[cG]at h;split at h
  ·rename_i hc
   obtain⟨q,fn,tmps,hq,Z0,hw⟩:=qP hR hg hp;have hlen:args.length=ps.length:=aN (al hc).1;have hps:∀t∈ps,t<nt:=λt ht=>aY (List.all_eq_true.1 (al hc).2 t ht);have U1:vs.length=ps.length:=by rw[ha.length,hlen]
   obtain⟨l,hl,hmid⟩:=R.fv h;have G5:∀x∈l,nE x<=m:=λx hx=>by obtain⟨o,ho,hs⟩:=hmid x hx;exact RG.qL (xU J0 (ai _)) ho hs hb
   refine⟨fn,(ps.zip vs).foldl (λtmps(t,a)=>tmps.setIfInBounds t a) tmps,as,bo,?_,?_⟩
   ·have hz:(ps.toArray.zip vs.toArray).foldl (λtmps(x:Tmp×Value)=>tmps.setIfInBounds x.1 x.2) tmps=(ps.zip vs).foldl (λtmps(x:Tmp×Value)=>tmps.setIfInBounds x.1 x.2) tmps:=by simp
    simp[Instr.yield,fj hw,U1]
   refine roundIn_of_wpIn trivial ?_;have htm':=vL ps args vs tm tmps Z0 ha hps hlen;have S7:jz β ⟨gG ps args tm,nt,[]⟩ { tmps:=(ps.zip vs).foldl (λtmps(t,a)=>tmps.setIfInBounds t a) tmps,defers:=[] }:=⟨htm',trivial⟩;have hround:oo β (some id) (some p.b):=⟨p,hp,rfl⟩;refine Go.wpIn_mono (M0.code hm hR S7 hround hl G5).1 ?_;intro e a1 w1 N3;obtain⟨x,hx,T7,β1,hact1,b7,hext1⟩:=N3;obtain⟨o,ho,hs⟩:=hmid x hx;have hp1:=hext1.sub _ _ _ hp;unfold fW at ho;split at ho
   ·rename_i pe1 tm1 nt1 ps1 as1 bo1 d1 Y0 hg1
    have he:e=.normal:=by rw[Y0]at T7;cases e<;>first|rfl|exact T7.elim
    subst he;obtain⟨q1,fn1,tmps1,P6,htm1,I4⟩:=qP b7 hg1 hp1;obtain⟨l2,hl2,hend⟩:=R.fv ho;have hbl2:∀y∈l2,nE y<=m:=λy hy=>by obtain⟨o2,ho2,F2⟩:=hend y hy;exact RG.qL (xT (ai _)) ho2 (λz hz=>hs z (F2 z hz)) hb
    have Q3:=oT b7 hm (G5 x hx) hg1 (.loop .busy pe1 tm1 nt1 ps1 as1 bo1 d1) hp1 w1 rfl rfl rfl rfl (.loop { state:=.busy,pending:=pe1,fn:=fn1,tmps:=tmps1,params:=ps1.toArray,assign:=as1,body:=bo1,defers:=q1.b })
     (λw' Q2=>⟨q1,fn1,tmps1,P6,htm1,Q2⟩)
    refine⟨_,by simp only[Instr.beginRound,Sem.run_bind,fj I4,Result.andThen_ok,jM _ I4];rfl,?_⟩;have hround1:oo β1 (some id) (some p.b):=⟨p,hp1,rfl⟩;refine Go.wpIn_mono (M0.code hm Q3.1 hact1 hround1 hl2 hbl2).1 ?_;intro e2 a2 w2 hpost2;obtain⟨y,hy,hyr,β2,hact2,hR2,hext2⟩:=hpost2;obtain⟨o2,ho2,F2⟩:=hend y hy;have j6:=hext2.sub _ _ _ hp1;have B1:=hext1.trans (Q3.2.trans hext2);unfold lN at ho2;split at ho2
    ·rename_i st3 pe3 tm3 nt3 ps3 as3 bo3 d3 hd3 hg3
     obtain⟨q3,fn3,tmps3,hq3,htm3,j5⟩:=qP hR2 hg3 j6;have hny:nE y<=m:=hbl2 y hy;have fin:∀(st:LoopState)(pe:Option Code),Rel m β2 (y.2.2.mod id (.oth (.loop st pe tm3 nt3 ps3 as3 bo3 d3))) { w2 with heap:=w2.heap.setIfInBounds p.b (.loop { state:=st,pending:=pe,fn:=fn3,tmps:=tmps3,params:=ps3.toArray,assign:=as3,body:=bo3,defers:=q3.b }) } /\
       Ext β2 y.2.2 w2 β2 (y.2.2.mod id (.oth (.loop st pe tm3 nt3 ps3 as3 bo3 d3))) { w2 with heap:=w2.heap.setIfInBounds p.b (.loop { state:=st,pending:=pe,fn:=fn3,tmps:=tmps3,params:=ps3.toArray,assign:=as3,body:=bo3,defers:=q3.b }) }:=λst pe=>
      oT hR2 hm hny hg3 (.loop st pe tm3 nt3 ps3 as3 bo3 d3) j6 w2 rfl rfl rfl rfl _ (λw' Q2=>⟨q3,fn3,tmps3,hq3,htm3,Q2⟩)
     split at ho2
     ·rename_i N6
      cases ho2
      have he2:e2=.normal:=by rw[N6]at hyr;cases e2<;>first|rfl|exact hyr.elim
      subst he2;have hf:=fin .ready none;refine⟨.bool true,_,by simp only[Instr.endRound,Sem.run_bind,fj j5,Result.andThen_ok,jM _ j5];rfl,?_⟩;exact⟨.bool true,rfl,_,hs _ (F2 _ (List.mem_singleton.2 rfl)),β2,rfl,hf.1,B1.trans hf.2⟩
     ·rename_i N6
      cases ho2
      have he2:e2=.ret:=by rw[N6]at hyr;cases e2<;>first|rfl|exact hyr.elim
      subst he2;have hf:=fin .done (some .ret);refine⟨.bool false,_,by simp only[Instr.endRound,Sem.run_bind,fj j5,Result.andThen_ok,jM _ j5];rfl,?_⟩;exact⟨.bool false,rfl,_,hs _ (F2 _ (List.mem_singleton.2 rfl)),β2,rfl,hf.1,B1.trans hf.2⟩
     rename_i k N6
     cases ho2
     have he2:e2=.exit k:=by
      rw[N6]at hyr;cases e2 with
      |exit j=>have:k=j:=hyr;rw[this]
      |_=>exact hyr.elim
     subst he2;have hf:=fin .done (some (.exit k));refine⟨.bool false,_,by simp only[Instr.endRound,Sem.run_bind,fj j5,Result.andThen_ok,jM _ j5];rfl,?_⟩;exact⟨.bool false,rfl,_,hs _ (F2 _ (List.mem_singleton.2 rfl)),β2,rfl,hf.1,B1.trans hf.2⟩
    cases ho2
   cases ho
  cases h
 cases h
end
def VF(E:Env)(rec:Rec)(a:ag)(dst:Option Tmp)(h:Hp)(k:ag->Hp->R (ag×Hp))(n:aj):pD E rec a dst h k n=(lk E rec h n).bind λx=>iJ a dst x.1 x.2 k:=by cases n<;>rfl
def Bz{P:Program}{o:Oper}{c:Call}(ho:o.op=.defer c):aQ P o=gW "operation" := by
 obtain⟨dst,op,type,pos,after,guard⟩:=o;cases ho
 rfl
section
variable{E:Env}(hE:uh E){N:Nat}{rec:Rec}(M0:Ey E.P N rec)(J0:RecM rec)
include hE M0 J0
theorem Yl{m:Nat}{β:Pl}{H:Hp}{w:World}(hm:m<=m)(hR:Rel m β H w){n:aj}{r:Result Next}(hn:ak E.P m β H w n r){outs:List (AV×Hp)}(h:lk E rec H n=.ok outs)(hb:∀x∈outs,nV x<=m)
  {o:Oper} {a:Act} {rB:Option Nat} {next:Act->World->Prop} {Q:Exit->Act->World->Prop} (L1:∀v w',Out m β H w outs v w'->next (a.put o.dst v) w'):o.uponIn (fen rB) 0 E.P a next Q r:=by
 have F1:∀{e:Ending}{w':World},mZ m β H w outs e w'->(match e,w' with
   |.returned v,w''=>next (a.put o.dst v) w''
   |.panicked chain,w''=>Q (.panic chain) a w''
   |.outgrown,_=>LetsOut Q):=by
  rintro e w' ⟨v,rfl,hv⟩;exact L1 v w' hv
 cases n with
 |val av H'=>
  cases h
  obtain⟨v,w',hr,ho⟩:=hn (hb _ (List.mem_singleton.2 rfl));rcases hr with rfl|⟨rfl,rfl⟩
  ·exact L1 v w' ho
  exact L1 undef w' ho
 |sX l=>
  cases h
  obtain⟨v,w',rfl,ho⟩:=hn hb;exact L1 v w' ho
 |enter f args=>obtain⟨vs,rfl,ha,hbody⟩:=hn;rw[vJ hE.name hbody];refine⟨λh=>by simp[fen]at h,CallsIn.mono (Tb hE M0 hm hR ha h hb) λe w' he=>F1 he⟩
 |round id args=>obtain⟨p,vs,hp,ha,rfl⟩:=hn;obtain⟨fn,tmps,as,bo,hy,hround⟩:=Vd M0 J0 hm hR rB hp ha h hb;rw[hy];exact⟨λh=>by simp[fen]at h,RoundIn.mono hround λe w' he=>F1 he⟩
 |bad s=>cases h
theorem OB{m:Nat}{β:Pl}{H:Hp}{w:World}(hm:m<=m)(hR:Rel m β H w){A:ag}{a:Act}(hA:jz β A a){o:Oper}{outs:List (AV×Hp)}(h:lk E rec H ((aQ E.P o).run A.tm H)=.ok outs)(hb:∀x∈outs,nV x<=m)
  {rB:Option Nat} {next:Act->World->Prop} {Q:Exit->Act->World->Prop} (L1:∀v w',Out m β H w outs v w'->next (a.put o.dst v) w'):o.wpIn (fen rB) 0 E.P a w next Q:=by
 refine⟨λ_ _=>trivial,?_⟩;have hs:o.semAt (fen rB).round a.eval=execOp a.eval o:=by refine Oper.semAt_eq _ _ _ λc hc=>?_;rw[Bz hc]at h;cases h
 rw[hs];exact Yl hE M0 J0 hm hR (Yi hR hm hA.tm.2.2 o) h hb L1
theorem LO{ops:Array Oper}{Q:Exit->Act->World->Prop}{rB:Option Nat}:∀(l pre:List Oper),ops.toList=pre++l->∀{m:Nat}{β:Pl}{H:Hp}{w:World}{A:ag}{a:Act}{outs:List (ag×Hp)},m<=m->Rel m β H w->jz β A a ->
  fA E rec (iT E.P ops.toList l) A H=.ok outs->(∀x∈outs,nA x<=m)->(∀a' w',MK m β H w outs a' w'->Q .normal a' w')->wpOpsIn (fen rB) 0 E.P ops Q (List.range' pre.length l.length) a w
 |[],pre,D7,m,β,H,w,A,a,outs,hm,hR,hA,h,hb,hQ=>by
  cases h
  exact hQ a w ⟨_,List.mem_singleton.2 rfl,β,hA,hR,Ext.refl _ _ _⟩
 |o::l,pre,D7,m,β,H,w,A,a,outs,hm,hR,hA,h,hb,hQ=>by
  have ho:ops[pre.length]?=some o:=by rw[<-lS,D7,mV (ai _)];simp
  have hnextpre:ops.toList=(pre++[o])++l:=by rw[D7];simp
  have hlen:(pre++[o]).length=pre.length+1:=by simp
  have h':cy A.tm (gOf ops.toList o.guard) (pD E rec A o.dst H (fA E rec (iT E.P ops.toList l)) ((aQ E.P o).run A.tm H)) (iJ A o.dst aP H (fA E rec (iT E.P ops.toList l)))=.ok outs:=h;rw[List.length_cons,List.range'_succ];unfold wpOpsIn;rw[ho];simp only
  rcases BE hA.tm h' with⟨hw,hy⟩|⟨hw,hy⟩
  ·rw[ad hw];rw[VF]at hy;obtain⟨ys,hys,hk⟩:=R.fv hy;have hbys:∀x∈ys,nV x<=m:=λx hx=>by obtain⟨o',Z3,hs⟩:=hk x hx;exact RG.qL (mw λa=>uN J0 l a x.2) Z3 hs hb
   refine OB hE M0 J0 hm hR hA hys hbys λv w' hv=>?_;obtain⟨x,hx,β',q5,hR',B1⟩:=hv;obtain⟨o',Z3,hs⟩:=hk x hx;obtain⟨A',hA',S7⟩:=(hA.mono B1.sub).put q5 Z3;have:=LO (rB:=rB) (Q:=Q) l (pre++[o]) hnextpre hm hR' S7 hA' (λy hy=>hb y (hs y hy)) (λa' w'' hp=>hQ a' w'' (hp.ext B1 hs));rw[hlen]at this;exact this
  rw[ab (by rw[hw];exact zA8)];refine⟨λ_ _=>trivial,?_⟩;obtain⟨A',hA',S7⟩:=hA.put (pH β) hy;have:=LO (rB:=rB) (Q:=Q) l (pre++[o]) hnextpre hm hR S7 hA' hb hQ;rw[hlen]at this;exact this
theorem QW{m:Nat}{β:Pl}{H:Hp}{w:World}(hm:m<=m)(hR:Rel m β H w){A:ag}{a:Act}(hA:jz β A a){id:Nat}{ops:Array Oper}{rB:Option Nat}{outs:List (ax×ag×Hp)}
  (h:(fA E rec (tQ E.P ops) A H).bind gz=.ok outs) (hb:∀x∈outs,nE x<=m):(Code.region id ops false).wpIn (fen rB) 0 E.P (fN m β H w outs) a w:=by
 obtain⟨l,hl,hk⟩:=R.fv h;have G5:∀x∈l,nA x<=m:=λx hx=>by
  obtain⟨o,ho,hs⟩:=hk x hx;cases ho
  exact hb _ (hs _ (List.mem_singleton.2 rfl))
 refine wpIn_region ?_;have:=LO (Q:=fN m β H w outs) (rB:=rB) hE M0 J0 ops.toList [] rfl hm hR hA hl G5 (λa' w' hp=>?_)
 ·rw[List.range_eq_range'];simpa using this
 obtain⟨x,hx,β',h1,h2,h3⟩:=hp;obtain⟨o,ho,hs⟩:=hk x hx;cases ho
 exact⟨_,hs _ (List.mem_singleton.2 rfl),trivial,β',h1,h2,h3⟩
end
section scope
variable{P:Program}{b:Frame}{a:Act}{k:List Item}{cs:List Frame}{w:World}{F:Fence}{n:Nat}{Q:Exit->Act->World->Prop}
def iI{c:Code}:step P (lone (b.atR a (.code (.scope c)::k)) cs w)=.next (lone (b.atR a (.code c::.inScope c::k)) cs w):=
 step_lone_go (by simp[stepG,stepG.exec,Frame.atR])
def Cd{c:Code}:step P (lone (b.atR a (.inScope c::k)) cs w)=.next (lone (b.atR a k) cs w):=
 step_lone_go (by simp[stepG,stepG.exec,Frame.atR])
def My{c:Code}(h:c.wpIn F n P Q a w)(hg:∀l a w,¬Q (.goto l) a w):(Code.scope c).wpIn F n P Q a w:=by
 intro b k cs hro hb hr;have h0:(lone (b.atR a (.code (.scope c)::k)) cs w).fenced P F:=fenced_calm hb hr rfl;obtain⟨e,a₁,w₁,hq,harr⟩:=h b (.inScope c::k) cs hro hb hr;have hx:∀id,exitTo id (.inScope c::k)=exitTo id k:=λid=>by simp[exitTo]
 cases e with
 |normal=>exact⟨.normal,a₁,w₁,hq,.head h0 iI (StepsIn.trans harr (.one (fenced_calm hb hr rfl) Cd))⟩
 |exit id=>
  exact⟨.exit id,a₁,w₁,hq,λk' hk=>.head h0 iI (harr.1 k' (by rw[hx];exact hk)),
   λT3 hk=>let ⟨k₁,h1,h2⟩:=harr.2 T3 (by rw[hx];exact hk);⟨k₁,h1,.head h0 iI h2⟩⟩
 |goto l=>exact absurd hq (hg l _ _)
 |ret=>exact⟨_,a₁,w₁,hq,.of_steps (.one h0 iI) harr⟩
 |panic ch=>exact⟨_,a₁,w₁,hq,.of_steps (.one h0 iI) harr⟩
 |outgrown=>exact⟨_,a₁,w₁,hq,.of_steps (.one h0 iI) harr⟩
end scope
def fN.noGoto{m:Nat}{β:Pl}{H:Hp}{w:World}{outs:List (ax×ag×Hp)}(l:Nat)(a:Act)(w':World):¬fN m β H w outs (.goto l) a w':=by rintro⟨x,_,hx,_⟩;cases h:x.1<;>rw[h]at hx<;>exact hx
section
variable{E:Env}(hE:uh E){N:Nat}{rec:Rec}(M0:Ey E.P N rec)(J0:RecM rec)
theorem JL{m:Nat}{β β1:Pl}{H:Hp}{w:World}(hm:m<=m){A1:ag}{a1:Act}{l:Nat}{p:Place}{x:AV×Hp}{w3:World}(S7:jz β1 A1 a1)(hR:Rel m β1 x.2 w3)(hp:β1 l 0=some p)(V1:nV x<=m)(B1:Ext β H w β1 x.2 w3)
  {o outs:List (ax×ag×Hp)} (ho:fV l A1 x=.ok o) (hs:∀y∈o,y∈outs) (rB:Option Nat):
  ∃jump w4,(Instr.endLoop p.b).run E.P w3=.ok jump w4 /\
   (match jump with
    |none=>fN m β H w outs .normal a1 w4
    |some c=>c.wpIn (fen rB) 0 E.P (fN m β H w outs) a1 w4):=by
 unfold fV at ho;split at ho
 ·rename_i st pe tm nt ps as bo d hg
  obtain⟨q,fn,tmps,hq,Z0,hw⟩:=qP hR hg hp;have Q3:=oT hR hm V1 hg (.loop .exhausted pe tm nt ps as bo d) hp w3 rfl rfl rfl rfl (.loop { state:=.exhausted,pending:=pe,fn:=fn,tmps:=tmps,params:=ps.toArray,assign:=as,body:=bo,defers:=q.b })
   (λw' Q2=>⟨q,fn,tmps,hq,Z0,Q2⟩)
  have D2:st≠.busy->(Instr.endLoop p.b).run E.P w3=.ok pe { w3 with heap:=w3.heap.setIfInBounds p.b (.loop { state:=.exhausted,pending:=pe,fn:=fn,tmps:=tmps,params:=ps.toArray,assign:=as,body:=bo,defers:=q.b }) }:=by
   intro X3;have h1:(st==LoopState.busy)=false:=by cases st<;>first|rfl|exact absurd rfl X3
   simp only[Instr.endLoop,Sem.run_bind,fj hw,Result.andThen_ok,h1,Bool.false_eq_true,if_false,jM _ hw];rfl
  split at ho
  ·cases ho
  rename_i X3
  have hst':st≠.busy:=λh=>X3 h;split at ho
  ·cases ho
   exact⟨none,_,D2 hst',_,hs _ (List.mem_singleton.2 rfl),trivial,β1,S7,Q3.1,B1.trans Q3.2⟩
  ·cases ho
   exact⟨some .ret,_,D2 hst',wpIn_ret ⟨_,hs _ (List.mem_singleton.2 rfl),trivial,β1,S7,Q3.1,B1.trans Q3.2⟩⟩
  ·rename_i k
   cases ho
   exact⟨some (.exit k),_,D2 hst',wpIn_exit ⟨_,hs _ (List.mem_singleton.2 rfl),rfl,β1,S7,Q3.1,B1.trans Q3.2⟩⟩
  cases ho
 cases ho
theorem Cb{m:Nat}{β:Pl}{H:Hp}{w:World}(hm:m<=m)(hR:Rel m β H w){A:ag}{a:Act}(hA:jz β A a){r rB:Option Nat}(hr:oo β r rB){d:Nat}{H1:Hp}{A1:ag}(h:oR r A H=some (d,H1,A1))(V1:H1.nx+1<=m)
  (ps:Array Tmp) (as bo:Code) (fn:FuncId):
  ∃(p:Place)(mark:List Deferred)(w1:World)(β1:Pl),(Instr.enterLoop fn a.tmps ps as bo rB).run E.P w=.ok (p.b,mark) w1/\β1 H1.nx 0=some p /\
   jz β1 A1 { a with defers:=mark++a.defers }/\Rel m β1 (H1.new (.oth (.loop .ready none A.tm A.nt ps.toList as bo d))) w1/\Ext β H w β1 (H1.new (.oth (.loop .ready none A.tm A.nt ps.toList as bo d))) w1:=by
 unfold oR at h;cases r with
 |none=>
  have T3:rB=none:=hr;subst T3;cases h
  have hnx':H.nx+1+1<=m:=V1;have n1:=oS hR hm aa (.oth (.dfr true)) ⟨w.heap.size,0,0,0⟩ (w':=w.alloc (.deferred (some []))) (ai _) (by simp) rfl rfl rfl
   (λb hb=>RowKit.Below.heap_alloc w _ b hb) (λg hg=>hg) ⟨_,bj _ _ _ _,heap_alloc_new w _⟩
  have M1:(w.alloc (.deferred (some []))).heap.size=w.heap.size+1:=by simp
  have q8:jz (plus β H.nx 0 ⟨w.heap.size,0,0,0⟩) A a:=hA.mono n1.2.sub;have I1:¬(H.nx=H.nx+1/\(0:Nat)=0):=aa;have n2:=oS n1.1 hm (show H.nx+1<m by omega) (.oth (.loop .ready none A.tm A.nt ps.toList as bo H.nx)) ⟨w.heap.size+1,0,0,0⟩
   (w':=(w.alloc (.deferred (some []))).alloc (.loop { state:=.ready,pending:=none,fn:=fn,tmps:=a.tmps,params:=ps,assign:=as,body:=bo,defers:=w.heap.size }))
   (by rw[M1];exact ai _) (by simp) rfl rfl rfl
   (λb hb=>RowKit.Below.heap_alloc _ _ b hb) (λg hg=>hg)
   ⟨_,bj _ _ _ _,⟨w.heap.size,0,0,0⟩,fn,a.tmps,(bY (plus β H.nx 0 ⟨w.heap.size,0,0,0⟩) (H.nx+1) 0 ⟨w.heap.size+1,0,0,0⟩ I1).trans (bj _ _ _ _),(q8.mono (iS (n1.1.free _ 0 (ai _) (show H.nx+1<m by omega)))).tm,by rw[<-M1];simpa using heap_alloc_new (w.alloc (.deferred (some []))) (.loop { state:=.ready,pending:=none,fn:=fn,tmps:=a.tmps,params:=ps,assign:=as,body:=bo,defers:=w.heap.size })⟩
  have hA2:=q8.mono n2.2.sub;refine⟨⟨w.heap.size+1,0,0,0⟩,[{ target:=.collected w.heap.size,args:=#[] }],_,_,?_,bj _ _ _ _,⟨hA2.tm,⟨⟨w.heap.size,0,0,0⟩,n2.2.sub _ _ _ (bj _ _ _ _),rfl⟩,hA2.df⟩,n2.1,n1.2.trans n2.2⟩;rw[<-M1];rfl
 |some l=>
  obtain⟨pl,hpl,rfl⟩:=hr;simp only at h
  split at h
  ·rename_i st pe tm nt ps0 as0 bo0 d0 hg
   cases h
   obtain⟨q,fn0,tmps0,hq,_,hw⟩:=qP hR hg hpl;have I1:¬(d=H.nx/\(0:Nat)=0):=by intro hh;have:=hR.free H.nx 0 (ai _) aa;rw[hh.1,this]at hq;cases hq
   have n2:=oS hR hm (show H.nx<m by omega) (.oth (.loop .ready none A.tm A.nt ps.toList as bo d)) ⟨w.heap.size,0,0,0⟩
    (w':=w.alloc (.loop { state:=.ready,pending:=none,fn:=fn,tmps:=a.tmps,params:=ps,assign:=as,body:=bo,defers:=q.b }))
    (ai _) (by simp) rfl rfl rfl
    (λb hb=>RowKit.Below.heap_alloc _ _ b hb) (λg hg=>hg)
    ⟨_,bj _ _ _ _,q,fn,a.tmps,by rw[bY _ _ _ _ I1];exact hq,(hA.mono (iS (hR.free _ 0 (ai _) (show H.nx<m by omega)))).tm,by simpa using heap_alloc_new w _⟩
   have hA2:=hA.mono n2.2.sub;refine⟨⟨w.heap.size,0,0,0⟩,[],_,_,?_,bj _ _ _ _,hA2,n2.1,n2.2⟩;simp only[Instr.enterLoop,Sem.run_bind,fj hw,Result.andThen_ok];rfl
  cases h
include hE M0 J0 in
theorem QV{m:Nat}{β:Pl}{H:Hp}{w:World}(hm:m<=m)(hR:Rel m β H w){A:ag}{a:Act}(hA:jz β A a){r rB:Option Nat}(hr:oo β r rB){g:Operand}{ps:Array Tmp}{as bo:Code}{outs:List (ax×ag×Hp)}
  (h:jw E rec r (opF g) ps.toList as bo A H=.ok outs) (hb:∀x∈outs,nE x<=m):(Code.rangeFunc g ps as bo).wpIn (fen rB) 0 E.P (fN m β H w outs) a w:=by
 unfold jw at h;split at h
 ·cases h
 rename_i d H1 A1 hs
 split at h
 ·rename_i gf caps hg
  rw[cG]at h;split at h
  ·rename_i hbody
   obtain⟨l,hl,hk⟩:=R.fv h;have G5:∀x∈l,nV x<=m:=λx hx=>by obtain⟨o,ho,hss⟩:=hk x hx;exact RG.qL (xR (ai _)) ho hss hb
   have V1:H1.nx+1<=m:=RG.qL (J0.call _ _ _) hl (λ_ h=>h) G5;refine wpIn_rangeFunc λfn _=>?_;obtain⟨p,mark,w1,β1,he,hp,q8,b7,B1⟩:=Cb (E:=E) hm hR hA hr hs V1 ps as bo fn;have hgv:=(ct hA.tm.2.2 g);have R2:ev A.tm g=.one (.o (.clo gf caps)):=hg;rw[R2]at hgv;obtain⟨cs,hgv,W0,Z2⟩:=hgv;refine⟨p.b,mark,w1,{ target:=.fn (.func gf) cs.toArray,args:=#[.func (.yield p.b) #[] #[]] },w1,gf,(.func (.yield p.b) #[] #[]::cs).toArray,w1,he,?_,λ_ _=>trivial,?_,λh=>by simp[fen]at h,?_⟩
   ·have hcst:a.eval (.const (.func (.yield p.b) #[] #[]))=.func (.yield p.b) #[] #[]:=rfl;simp[resolve,hgv,Deferred.ofValue,hcst]
   ·have:=vJ (w:=w1) hE.name hbody (.func (.yield p.b) #[] #[]::cs).toArray;simpa [invoke]using this
   have V6:ARs β1 (.one (.o (.yl H1.nx))::gi caps) (.func (.yield p.b) #[] #[]::cs):=
    ⟨⟨p,hp,rfl⟩,(tD W0 Z2).mono B1.sub⟩
   have F1:=M0.call hm b7 V6 hl G5;refine CallsIn.mono F1 λe w3 he3=>?_;obtain⟨v,rfl,x,hx,β3,_,hR3,hext3⟩:=he3;obtain⟨o,ho,hss⟩:=hk x hx;exact JL (E:=E) hm (q8.mono hext3.sub) hR3 (hext3.sub _ _ _ hp) (G5 x hx) (B1.trans hext3) ho hss rB
  cases h
 cases h
end
def AH(f:Nat->Option aX)(id:Nat):∀n,(Gs f n).get id=if id<n then f id else none
 |0=>by rw[ab (Nat.not_lt_zero _)];rfl
 |n+1=>by
  show(PT.put (f n) (Gs f n) n).get id=_;rw[PT.uV,AH f id n];by_cases h:id=n
  ·subst h;rw[ad rfl,ad (aZ _)]
  rw[ab h];by_cases h2:id<n
  ·rw[ad h2,ad aa]
  rw[ab h2,ab aa]
def jk{H:Hp}{l:List (ax×ag×Hp)}{t:PT aX}{id:Nat}:(uX H l t).get id=if id<vt l then uY H.nx l t id else none:=AH _ _ _
open Classical in
def tU{l:List (ax×ag×Hp)}{tm:PT AV}{k:Nat}:∀n,oe (uZ l tm n) k=if k<n then(if∀z∈l,oe z.2.1.tm k=oe tm k then oe tm k else .any)else aP
 |0=>by rw[ab (Nat.not_lt_zero _)];rfl
 |n+1=>by
  have ih:=tU (l:=l) (tm:=tm) (k:=k) n;show aB (((uZ l tm n).set n _).get k) aP (λv=>v)=_;rw[PT.eQ];by_cases h:k=n
  ·subst h;rw[ad rfl,ad (aZ _)];rfl
  rw[ab h];by_cases h2:k<n
  ·rw[ad h2]at ih;rw[ad aa];exact ih
  rw[ab h2]at ih;rw[ab aa];exact ih
open Classical in
def AZ{n:Nat}{l:List (ax×ag×Hp)}{t:PT aX}{id:Nat}:∀m,id∈Li n l t m↔id<m/\¬∀z∈l,dh n id (z.2.2.t.get id)=dh n id (t.get id)
 |0=>⟨λh=>absurd h List.not_mem_nil,λh=>absurd h.1 (Nat.not_lt_zero _)⟩
 |m+1=>by
  have ih:=AZ (n:=n) (l:=l) (t:=t) (id:=id) m;unfold Li;split
  ·rename_i hc
   rw[ih];refine⟨λh=>⟨aa,h.2⟩,λh=>⟨?_,h.2⟩⟩;rcases Nat.lt_succ_iff_lt_or_eq.1 h.1 with h1|h1
   ·exact h1
   subst h1;exact absurd hc h.2
  rename_i hc
  rw[List.mem_cons,ih];refine⟨λh=>h.elim (λe=>by subst e;exact⟨aZ _,hc⟩) λh=>⟨aa,h.2⟩,λh=>?_⟩;rcases Nat.lt_succ_iff_lt_or_eq.1 h.1 with h1|h1
  ·exact .inr ⟨h1,h.2⟩
  exact .inl h1
def Wk2(o o':aX):Prop:=o=o'\/o=Zn o'\/(∃k es c k',o=.oth (.fmap k)/\o'=.oth (.map es c)/\pB es=some k'/\∀n,eI n k'=eI n k)\/∃x,o=.oth .lost/\o'=.oth x
def zr.some{β:Pl}{w:World}{p:Place}{x:BL}(h:zr β w p x):zr β w p .lost:=⟨_,pq h.lt⟩
def Wk2.ro{o o':aX}(h:Wk2 o o'):o.nP=o'.nP:=by
 rcases h with rfl|rfl|⟨_,_,_,_,rfl,rfl,_⟩|⟨_,rfl,rfl⟩
 ·rfl
 ·cases o'<;>rfl
 ·rfl
 rfl
def Wk2.gen{o o':aX}{β:Pl}{w:World}{id g:Nat}(h:Wk2 o o')(hr:ig β w id o')(hg:eG o g):eG o' g:=by
 rcases h with rfl|rfl|⟨_,_,_,_,rfl,rfl,_⟩|⟨_,rfl,rfl⟩
 ·exact hg
 ·cases o' with
  |arr c e lo gen=>exact⟨aD hr.1 hg.1,hg.2⟩
  |oth x=>exact hg
  |ro c=>exact hg
 ·exact hg
 exact hg
def Wk2.obj{o o':aX}{β:Pl}{w:World}{id:Nat}(h:Wk2 o o')(hr:ig β w id o'):ig β w id o:=by
 rcases h with rfl|rfl|⟨k,es,c,k',rfl,rfl,h1,h2⟩|⟨x,rfl,rfl⟩
 ·exact hr
 ·cases o' with
  |arr c e lo gen=>obtain⟨h1,h2,h3,h4⟩:=hr;exact⟨ai _,λg a b=>h2 g (aD h1 a) b,λg g' p p' a b c=>h3 g g' p p' (aD h1 a) b c,h4⟩
  |oth x=>exact hr
  |ro c=>exact hr
 ·obtain⟨p,hp,ms,a,b⟩:=hr;exact⟨p,hp,es,c,ms,a,b,k',h1,h2⟩
 obtain⟨p,hp,a⟩:=hr;exact⟨p,hp,a.some⟩
def PH{n id:Nat}{x:Option aX}{o:aX}(h:dh n id x=some o):∃o',x=some o'/\Wk2 o o':=by
 unfold dh at h;split at h
 ·exact⟨o,h,.inl rfl⟩
 cases x with
 |none=>cases h
 |some o'=>exact⟨o',rfl,.inr (.inl (dX h).symm)⟩
def FH{H H':Hp}{l:List Nat}(h:H'.log=l++H.log):H'.log.take (H'.log.length-H.log.length)=l:=by rw[h,bA,Nat.add_sub_cancel,zm];rfl
open Classical in
def fN.join{m:Nat}{β:Pl}{H:Hp}{w:World}(hR:Rel m β H w){l:List (ax×ag×Hp)}{e:Exit}{a':Act}{w':World}(h:fN m β H w l e a' w'):fN m β H w (qD H l) e a' w':=by
 rcases qF H l with ej|⟨x,hx,hc,ej⟩
 ·rw[ej];exact h
 rw[ej];obtain⟨y,hy,T7,β',hA,hR',S4⟩:=h;obtain⟨N6,hy2,hy3,hy4⟩:=hc y hy;have hmx:=oI hy;have hle:=S4.nx;have J1:∀id o,(uX H l x.2.2.t).get id=some o->∃o',y.2.2.get id=some o'/\Wk2 o o':=λid o ho=>by
  rw[jk]at ho;split at ho
  ·unfold uY at ho;split at ho
   ·rename_i S3
    exact PH ((S3 y hy).trans ho)
   split at ho
   ·rename_i hk
    cases ho
    obtain⟨es,c,k',h1,h2,h3⟩:=hk.choose_spec y hy;exact⟨_,h1,.inr (.inr (.inl ⟨_,es,c,k',rfl,rfl,h2,h3⟩))⟩
   split at ho
   ·rename_i V7
    cases ho
    obtain⟨o1,h1⟩:=V7 y hy;exact⟨_,h1,.inr (.inr (.inr ⟨o1,rfl,rfl⟩))⟩
   cases ho
  cases ho
 have hold:∀id,id<H.nx->(∀z∈l,dh H.nx id (z.2.2.t.get id)=dh H.nx id (x.2.2.t.get id))->(uX H l x.2.2.t).get id=y.2.2.get id:=λid hid S3=>by have h1:=S3 y hy;rw[jk,ad (show id<vt l by omega)];unfold uY;rw[ad S3,<-h1];show(if id<H.nx then y.2.2.t.get id else _)=_;rw[ad hid];rfl
 have Z0:TmR β' (uZ l x.2.1.tm x.2.1.nt) x.2.1.nt a'.tmps:=by
  refine⟨hy2▸hA.tm.1,hy2▸hA.tm.2.1,λt=>?_⟩;have h3:=hA.tm.2.2 t;show AR β' (oe (uZ l x.2.1.tm x.2.1.nt) t) _;rw[tU];by_cases ht:t<x.2.1.nt
  ·rw[ad ht];by_cases S3:∀z∈l,oe z.2.1.tm t=oe x.2.1.tm t
   ·rw[ad S3,<-S3 y hy];exact h3
   rw[ab S3];exact trivial
  rw[ab ht];have M1:=hA.tm.1;have:a'.tmps.getD t undef=undef:=by rw[ue,Array.getElem?_eq_none aa];rfl
  rw[this];exact pH β'
 refine⟨_,List.mem_singleton.2 rfl,by rw[<-N6];exact T7,β',⟨Z0,by rw[<-hy3];exact hA.df⟩,⟨λid o ho=>(let ⟨o',h1,h2⟩:=J1 id o ho;h2.obj (hR'.obj id o' h1)),λid id' o o' g g' p p' h1 h2 h3 h4 h5 h6 h7=>(by obtain⟨o1,a1,a2⟩:=J1 id o h1;obtain⟨o2,b1,b2⟩:=J1 id' o' h2;rw[a2.ro,b2.ro];exact hR'.sep id id' o1 o2 g g' p p' a1 b1 (a2.gen (hR'.obj id o1 a1) h3) (b2.gen (hR'.obj id' o2 b1) h4) h5 h6 h7),λid hid=>?_,λid g h1 h2=>hR'.free id g (aD hmx h1) h2⟩,?_⟩
 ·have hid2:¬id<vt l:=Nat.not_lt.2 hid;rw[jk,ab hid2]
 refine{ sub:=S4.sub,loc:=λid g p hp=>?_,size:=S4.size,os:=S4.os,tape:=S4.tape,output:=S4.output,frame:=S4.frame,prov:=λid o g p h1 h2 h3=>(by
       obtain⟨o1,a1,a2⟩:=J1 id o h1;rw[a2.ro];exact S4.prov id o1 g p a1 (a2.gen (hR'.obj id o1 a1) h2) h3),nx:=aD hle hmx,
         log:=⟨_,rfl,λid hid hn=>?_⟩,dom:=λid o ho=>?_,old:=λid o ho=>?_,far:=λl' hl' b hb hn=>?_ }
 ·rcases S4.loc id g p hp with h1|h1|h1
  ·exact .inl h1
  ·exact .inr (.inl ⟨h1.1,ay h1.2 hmx⟩)
  exact .inr (.inr h1)
 ·have S3:∀z∈l,dh H.nx id (z.2.2.t.get id)=dh H.nx id (x.2.2.t.get id):=gh λhh=>hn (ef _ ((AZ _).2 ⟨aa,hh⟩));rw[hold id hid S3];obtain⟨l2,e2,f2⟩:=S4.log;refine f2 id hid λhm=>hn ?_;exact dM _ (List.mem_flatMap.2 ⟨y,hy,by rw[FH e2];exact hm⟩)
 ·have hid:id<H.nx:=by
   rcases cO id H.nx with hh|hh
   ·exact hh
   rw[hR.wf id hh]at ho;cases ho
  obtain⟨o',Z3⟩:=S4.dom id o ho;by_cases S3:∀z∈l,dh H.nx id (z.2.2.t.get id)=dh H.nx id (x.2.2.t.get id)
  ·exact⟨o',by rw[hold id hid S3];exact Z3⟩
  have D0:id<vt l:=aa;by_cases hk:∃k,zy l id k
  ·refine⟨.oth (.fmap hk.choose),?_⟩;show(uX H l x.2.2.t).get id=_;rw[jk,ad D0];unfold uY;rw[ab S3,dif_pos hk]
  have V7:∀z∈l,Cj z id:=gh λhh=>S3 λz hz=>congrArg (dh H.nx id) (((hc z hz).2.2.2 id hid).resolve_right λh=>h.elim hk hh);refine⟨.oth .lost,?_⟩;show(uX H l x.2.2.t).get id=_;rw[jk,ad D0];unfold uY;rw[ab S3,dif_neg hk,ad V7]
 ·obtain⟨o1,a1,a2⟩:=J1 id o ho;rcases S4.old id o1 a1 with h1|h1
  ·exact .inl h1
  exact .inr ⟨h1.1,ay h1.2 hmx⟩
 obtain⟨l2,e2,f2⟩:=S4.log;have e3:l'=Li H.nx l x.2.2.t (vt l)++ZQ H l:=by have:(Li H.nx l x.2.2.t (vt l)++ZQ H l)++H.log=l'++H.log:=hl';exact(sN this).symm
 subst e3;exact S4.far l2 e2 b hb λid o g p hid=>hn id o g p (dM _ (List.mem_flatMap.2 ⟨y,hy,by rw[FH e2];exact hid⟩))
def Rv(E:Env):Prop:=
 ∀(N:Nat)(rec:Rec),Ey E.P N rec->RecM rec->∀{m:Nat}{β:Pl}{H:Hp}{w:World}{A:ag}{a:Act}{id:Nat}{ops:Array Oper}{rB:Option Nat}{outs:List (ax×ag×Hp)},m<=m->Rel m β H w->jz β A a->fY ops=true ->
  (dH E rec (tQ E.P ops) 0 (fE [] 0 ops.toList) [] A H).bind gz=.ok outs->(∀x∈outs,nE x<=m)->(Code.region id ops true).wpIn (fen rB) 0 E.P (fN m β H w outs) a w
section
variable{E:Env}(hE:uh E)(hD:Rv E){N:Nat}{rec:Rec}(M0:Ey E.P N rec)(J0:RecM rec)
theorem PE{k id:Nat}{z:ax×ag×Hp}(hz:k<=nE z):RG k nE (mF id z):=
 qg (RG.one hz) (λ_=>RG.ifE (RG.one (x:=(ax.normal,z.2)) hz) (RG.one hz)) (RG.one hz)
theorem sa{e:ax}{n r:R (ax×ag×Hp)}{x:Nat->R (ax×ag×Hp)}{o:List (ax×ag×Hp)}(h:exE e n x r=.ok o):
  (e=.normal/\n=.ok o)\/(∃i,e=.exit i/\x i=.ok o)\/(e=.ret/\r=.ok o):=by
 cases e with
 |normal=>exact .inl ⟨rfl,h⟩
 |exit i=>exact .inr (.inl ⟨i,rfl,h⟩)
 |ret=>exact .inr (.inr ⟨rfl,h⟩)
theorem XR.normal{x:ax}{e:Exit}(h:XR x e)(hx:x=.normal):e=.normal:=by subst hx;cases e<;>first|rfl|exact h.elim
theorem XR.exit{x:ax}{e:Exit}{i:Nat}(h:XR x e)(hx:x=.exit i):e=.exit i:=by
 subst hx;cases e with
 |exit j=>have:i=j:=h;rw[this]
 |_=>exact h.elim
theorem XR.ret{x:ax}{e:Exit}(h:XR x e)(hx:x=.ret):e=.ret:=by subst hx;cases e<;>first|rfl|exact h.elim
theorem tg{F:Fence}{n:Nat}{P:Program}{c:Code}{Q Q':Exit->Act->World->Prop}(hq:∀e a w,Q e a w->Q' e a w):∀{k:Nat}{a:Act}{w:World},Code.roundsIn F n P c Q k a w->Code.roundsIn F n P c Q' k a w
 |0,_,_,h=>h.elim
 |k+1,a,w,h=>by
  rw[roundsIn_succ]at h |-;refine Go.wpIn_mono h λe a1 w1 h1=>?_;cases e with
  |normal=>exact tg hq h1
  |exit _=>exact hq _ _ _ h1
  |goto _=>exact hq _ _ _ h1
  |ret=>exact hq _ _ _ h1
  |panic _=>exact hq _ _ _ h1
  |outgrown=>exact hq _ _ _ h1
include hE hD M0 J0
theorem uJ:∀(c:Code){m:Nat}{β:Pl}{H:Hp}{w:World}{r rB:Option Nat}{A:ag}{a:Act}{outs:List (ax×ag×Hp)},m<=m->Rel m β H w->jz β A a->oo β r rB ->
  (codeF E c).run rec r A H=.ok outs->(∀x∈outs,nE x<=m)->c.wpIn (fen rB) 0 E.P (fN m β H w outs) a w/\∀x,c=.loop x->Code.roundsIn (fen rB) 0 E.P x (fN m β H w outs) (N+1) a w:=by
 intro c;induction c with
 |skip=>
  intro m β H w r rB A a outs hm hR hA hr h hb;cases h
  exact⟨wpIn_skip ⟨_,List.mem_singleton.2 rfl,trivial,β,hA,hR,Ext.refl _ _ _⟩,λx hx=>by cases hx⟩
 |region id ops draw=>
  intro m β H w r rB A a outs hm hR hA hr h hb;refine⟨?_,λx hx=>by cases hx⟩;cases draw with
  |false=>exact QW hE M0 J0 hm hR hA h hb
  |true=>
   have h':(Eng.ifE (fY ops) (CF.mk λrec _ a h=>(dH E rec (tQ E.P ops) 0 (fE [] 0 ops.toList) [] a h).bind gz) (CF.mk λ_ _ _ _=>.bad "draw - slots")).run rec r A H=.ok outs:=h
   cases hs:fY ops with
   |false=>rw[hs]at h';cases h'
   |true=>rw[hs]at h';exact hD N rec M0 J0 hm hR hA hs h' hb
 |seq x y hx hy=>
  intro m β H w r rB A a outs hm hR hA hr h hb;refine⟨?_,λx hx=>by cases hx⟩;obtain⟨l,hl,hk⟩:=R.fv (r:=(codeF E x).run rec r A H) (f:=wZ (codeF E y) rec r) h;have hkr:∀z:ax×ag×Hp,RG (nE z) nE (wZ (codeF E y) rec r z):=λz=>qg (uK J0 y r _ _) (λ_=>RG.one (ai _)) (RG.one (ai _));have G5:∀z∈l,nE z<=m:=λz hz=>by obtain⟨o,ho,hs⟩:=hk z hz;exact RG.qL (hkr z) ho hs hb
  refine wpIn_seq (Go.wpIn_mono (hx hm hR hA hr hl G5).1 λe a1 w1 hp=>?_);obtain⟨z,hz,T7,β1,q8,b7,B1⟩:=hp;obtain⟨o,ho,hs⟩:=hk z hz;rcases sa ho with⟨I6,h1⟩|⟨i,I6,h1⟩|⟨I6,h1⟩
  ·rw[T7.normal I6];exact Go.wpIn_mono (hy hm b7 q8 (hr.mono B1.sub) h1 (λq hq=>hb q (hs q hq))).1 λe a2 w2 j6=>j6.ext B1 hs
  ·cases h1
   rw[T7.exit I6];exact⟨z,hs z (List.mem_singleton.2 rfl),by rw[I6];rfl,β1,q8,b7,B1⟩
  cases h1
  rw[T7.ret I6];exact⟨z,hs z (List.mem_singleton.2 rfl),by rw[I6];trivial,β1,q8,b7,B1⟩
 |cond c x y hx hy=>
  intro m β H w r rB A a outs hm hR hA hr h hb;refine⟨?_,λx hx=>by cases hx⟩;have h':fw (ev A.tm c) (.bad "cond") (λb=>Eng.ifE b ((codeF E x).run rec r A H) ((codeF E y).run rec r A H))=.ok outs:=h
  have hv:=ct hA.tm.2.2 c;cases hc:ev A.tm c with
  |one q=>
   rw[hc]at h' hv;cases q with
   |b t=>
    have q5:a.eval c=.bool t:=hv;refine wpIn_cond q5 ?_;cases t with
    |true=>exact(hx hm hR hA hr h' hb).1
    |false=>exact(hy hm hR hA hr h' hb).1
   |i _ _=>cases h'
   |o _=>cases h'
  |agg _=>rw[hc]at h';cases h'
  |tup _=>rw[hc]at h';cases h'
  |any=>rw[hc]at h';cases h'
 |block id x hx=>
  intro m β H w r rB A a outs hm hR hA hr h hb;refine⟨?_,λx hx=>by cases hx⟩;obtain⟨o0,hb0,hj⟩:=IF h;have E3:(∀x∈o0,nE x<=m)/\∀e a' w',fN m β H w o0 e a' w'->fN m β H w outs e a' w':=by
   rcases hj with rfl|rfl
   ·exact⟨hb,λ_ _ _ h=>h⟩
   exact⟨TL hb,λ_ _ _ h=>h.join hR⟩
  obtain⟨hb,E3⟩:=E3;obtain⟨l,hl,hk⟩:=R.fv (r:=(codeF E x).run rec r A H) (f:=mF id) hb0;have G5:∀z∈l,nE z<=m:=λz hz=>by obtain⟨o,ho,hs⟩:=hk z hz;exact RG.qL (PE (ai _)) ho hs hb
  refine wpIn_block (Go.wpIn_mono (hx hm hR hA hr hl G5).1 λe a1 w1 hp=>?_);obtain⟨z,hz,T7,β1,q8,b7,B1⟩:=hp;obtain⟨o,ho,hs⟩:=hk z hz;rcases sa ho with⟨I6,h1⟩|⟨i,I6,h1⟩|⟨I6,h1⟩
  ·cases h1
   rw[T7.normal I6];exact E3 _ _ _ ⟨z,hs z (List.mem_singleton.2 rfl),by rw[I6];trivial,β1,q8,b7,B1⟩
  ·rw[T7.exit I6];rw[cG]at h1;show if i=id then _ else _;split at h1
   ·rename_i hi
    cases h1
    rw[ad (aN hi)];exact E3 _ _ _ ⟨_,hs _ (List.mem_singleton.2 rfl),trivial,β1,q8,b7,B1⟩
   rename_i hi
   cases h1
   rw[ab (λhh=>hi (by rw[hh];exact cN _))];exact E3 _ _ _ ⟨z,hs z (List.mem_singleton.2 rfl),by rw[I6];rfl,β1,q8,b7,B1⟩
  cases h1
  rw[T7.ret I6];exact E3 _ _ _ ⟨z,hs z (List.mem_singleton.2 rfl),by rw[I6];trivial,β1,q8,b7,B1⟩
 |loop x hx=>
  intro m β H w r rB A a outs hm hR hA hr h hb;obtain⟨l,hl,hk⟩:=R.fv (r:=(codeF E x).run rec r A H) (f:=AY rec r x) h;have G5:∀z∈l,nE z<=m:=λz hz=>by obtain⟨o,ho,hs⟩:=hk z hz;exact RG.qL (k:=nE z) (nx:=nE) (qg (J0.code _ _ _ _) (λ_=>RG.one (ai _)) (RG.one (ai _))) ho hs hb
  have hone:=(hx hm hR hA hr hl G5).1;have hrounds:Code.roundsIn (fen rB) 0 E.P x (fN m β H w outs) (N+1) a w:=by
   rw[roundsIn_succ];refine Go.wpIn_mono hone λe a1 w1 hp=>?_;obtain⟨z,hz,T7,β1,q8,b7,B1⟩:=hp;obtain⟨o,ho,hs⟩:=hk z hz;rcases sa ho with⟨I6,h1⟩|⟨i,I6,h1⟩|⟨I6,h1⟩
   ·rw[T7.normal I6];have:=(M0.code hm b7 q8 (hr.mono B1.sub) h1 (λq hq=>hb q (hs q hq))).2 x rfl;exact tg (λe a2 w2 j6=>j6.ext B1 hs) this
   ·cases h1
    rw[T7.exit I6];exact⟨z,hs z (List.mem_singleton.2 rfl),by rw[I6];rfl,β1,q8,b7,B1⟩
   cases h1
   rw[T7.ret I6];exact⟨z,hs z (List.mem_singleton.2 rfl),by rw[I6];trivial,β1,q8,b7,B1⟩
  exact⟨wpIn_loop_rounds _ hrounds,λy hy=>by cases hy;exact hrounds⟩
 |rangeFunc f ps as bo _ _=>intro m β H w r rB A a outs hm hR hA hr h hb;exact⟨QV hE M0 J0 hm hR hA hr h hb,λx hx=>by cases hx⟩
 |exit id=>
  intro m β H w r rB A a outs hm hR hA hr h hb;cases h
  exact⟨wpIn_exit ⟨_,List.mem_singleton.2 rfl,rfl,β,hA,hR,Ext.refl _ _ _⟩,λx hx=>by cases hx⟩
 |scope x hx=>intro m β H w r rB A a outs hm hR hA hr h hb;exact⟨My (hx hm hR hA hr h hb).1 λl a w=>fN.noGoto l a w,λx hx=>by cases hx⟩
 |label l=>
  intro m β H w r rB A a outs hm hR hA hr h hb;cases h
  exact⟨wpIn_label ⟨_,List.mem_singleton.2 rfl,trivial,β,hA,hR,Ext.refl _ _ _⟩,λx hx=>by cases hx⟩
 |goto l=>intro m β H w r rB A a outs hm hR hA hr h hb;cases h
 |ret=>
  intro m β H w r rB A a outs hm hR hA hr h hb;cases h
  exact⟨wpIn_ret ⟨_,List.mem_singleton.2 rfl,trivial,β,hA,hR,Ext.refl _ _ _⟩,λx hx=>by cases hx⟩
 |refuse x=>intro m β H w r rB A a outs hm hR hA hr h hb;cases h
end
section
variable{P:Program}{m:Nat}{β:Pl}{H:Hp}{w:World}
def OK{v:AV}{u:Value}(hv:AR β v u){x:Bool×List AC}(h:jU v=some x):TR β x u:=by
 cases v with
 |one c=>cases h;exact hv
 |agg l=>cases h;exact hv
 |tup l=>cases h
 |any=>cases h
def UR{x:AV}{f:Nat->Nat->Nat->Nat->aj}{s:String}{y:AV}{H':Hp}(h:sV x (.bad s) f=.val y H'):∃a b c d,x=.one (.o (.ptr a b c d))/\f a b c d=.val y H':=by
 cases x with
 |one c=>
  cases c with
  |o q=>cases q<;>first|exact⟨_,_,_,_,rfl,h⟩|cases h
  |b _=>cases h
  |i _ _=>cases h
 |agg _=>cases h
 |tup _=>cases h
 |any=>cases h
def Uj(hR:Rel m β H w){t:TypeId}{a:Bool}{n:Nat}(ht:loadT P t=some (a,n)){x:AV}{v:Value}(hx:AR β x v){y:AV}{H':Hp}(h:dB H a n x=.val y H'):
  ∃u,(do loadVar t (<-asAddr v):Sem Value).run P w=.ok u w/\AR β y u:=by
 obtain⟨ha,hn⟩:=Jb ht;obtain⟨id,g,off,lim,rfl,h1⟩:=UR h;obtain⟨p,hp,W2,rfl⟩:=hx;cases hc:gN H id g off lim n with
 |none=>rw[hc]at h1;cases h1
 |some c=>
  rw[hc]at h1;obtain⟨cells,hD,e3,e4,rfl⟩:=sy hc;have hr:=hD hR hp;obtain⟨vs,U1,T4,G4⟩:=lO hr off n aa;cases a with
  |true=>
   cases h1
   refine⟨.agg vs.toArray,?_,vs,T4,rfl⟩;have hl:=run_loadCells_list (P:=P) w ⟨p.b,p.o+off,none⟩ vs G4;rw[U1]at hl;simp[asAddr,loadVar,gF ha,cV hn,hl]
  |false=>
   cases W3:(cells.drop off).take n with
   |nil=>rw[W3]at h1;cases h1
   |cons z l=>
    rw[W3]at T4 h1;cases vs with
    |nil=>exact T4.elim
    |cons u us=>
     cases h1
     refine⟨u,?_,T4.1⟩;have h0:=G4 0 u rfl;have:(⟨p.b,p.o+off,none⟩:Addr).add 0=⟨p.b,p.o+off,none⟩:=rfl;rw[this]at h0;simp[asAddr,loadVar,gF ha,run_load,h0]
def FV(tmps:Array Value):ResultVar->Sem Value
 |.tmp t=>pure (tmps.getD t undef)
 |.cell a t=>do loadVar t (<-asAddr (tmps.getD a undef))
def Yb(hR:Rel m β H w){tm:PT AV}{tmps:Array Value}(Z0:∀t,AR β (aB (tm.get t) aP λv=>v) (tmps.getD t undef)){x:ResultVar}{y:Bool×List AC}(h:od P x tm H=some y):
  ∃u,(FV tmps x).run P w=.ok u w/\TR β y u:=by
 cases x with
 |tmp t=>have h':aB (tm.get t) none jU=some y:=h;obtain⟨v,hv,hy⟩:=eD h';have:=Z0 t;rw[hv]at this;exact⟨_,rfl,OK this hy⟩
 |cell a t=>
  cases hp:loadT P t with
  |none=>
   have:od P (.cell a t)=λ_ _=>none:=by simp[od,hp]
   rw[this]at h;cases h
  |some p=>
   have:od P (.cell a t)=λtm h=>aB (tm.get a) none λv=>aj.rec (motive:=λ_=>Option (Bool×List AC)) (λv _=>jU v) (λ_=>none) (λ_ _=>none) (λ_ _=>none) (λ_=>none) (dB h p.1 p.2 v):=by simp[od,hp]
   rw[this]at h;obtain⟨v,hv,hy⟩:=eD h;have hav:=Z0 a;rw[hv]at hav;cases hd:dB H p.1 p.2 v with
   |val y' H'=>rw[hd]at hy;obtain⟨u,hu,hr⟩:=Uj (P:=P) hR (a:=p.1) (n:=p.2) hp hav hd;exact⟨u,hu,OK hr hy⟩
   |sX l=>rw[hd]at hy;cases hy
   |enter f l=>rw[hd]at hy;cases hy
   |round i l=>rw[hd]at hy;cases hy
   |bad s=>rw[hd]at hy;cases hy
def DX(hR:Rel m β H w){tm:PT AV}{tmps:Array Value}(Z0:∀t,AR β (aB (tm.get t) aP λv=>v) (tmps.getD t undef)):∀{l:List ResultVar}{ys:List (Bool×List AC)},cI P l tm H=some ys ->
  ∃us:List Value,(l.mapM (FV tmps)).run P w=.ok us w/\TRs β ys us
 |[],ys,h=>by cases h;exact⟨[],rfl,trivial⟩
 |x::l,ys,h=>by
  have h':aB (od P x tm H) none (λx=>aB (cI P l tm H) none λl=>some (x::l))=some ys:=h;obtain⟨y,hy,h1⟩:=eD h';obtain⟨ys',hys,h2⟩:=eD h1;cases h2
  obtain⟨u,hu,hr⟩:=Yb hR Z0 hy;obtain⟨us,hus,hrs⟩:=DX hR Z0 hys;refine⟨u::us,?_,hr,hrs⟩;simp[List.mapM_cons,hu,hus]
def TRs.length:∀{l:List (Bool×List AC)}{vs:List Value},TRs β l vs->vs.length=l.length
 |[],[],_=>rfl
 |_::_,_::_,h=>by simp[TRs.length h.2]
 |[],_::_,h=>h.elim
 |_::_,[],h=>h.elim
def VI{ys:List (Bool×List AC)}{us:List Value}(h:TRs β ys us):AR β (fa ys) (if h:us.toArray.size=1 then us.toArray[0]else .tuple us.toArray):=by
 match ys,us,h with
 |[],[],h=>exact⟨[],trivial,rfl⟩
 |[(true,l)],[u],h=>exact h.1
 |[(false,[c])],[u],h=>exact h.1
 |a::b::l,u::v::us,h=>
  have:¬(u::v::us).toArray.size=1:=by simp
  rw[dif_neg this];have e:fa (a::b::l)=.tup (a::b::l):=by unfold fa;split<;>first|rfl|(rename_i h;cases h)
  rw[e];exact⟨_,h,rfl⟩
 |[(false,[])],[u],h=>exact h.1.elim
 |[(false,_::_::_)],[u],h=>exact h.1.elim
end
def lJ{sub:PT aX}{n:Nat}{i:Nat}:∀{l:List Nat},i∈eF sub n l↔i∈l/\i<n/\∃o,sub.get i=some o
 |[]=>⟨λh=>(by cases h),λh=>(by cases h.1)⟩
 |x::l=>by
  show i∈ifE (Nat.blt x n) (aB (sub.get x) (eF sub n l) λ_=>x::eF sub n l) (eF sub n l)↔_;have ih:=lJ (sub:=sub) (n:=n) (i:=i) (l:=l);rw[cG];split
  ·rename_i hb
   have hx:x<n:=aY hb;cases hg:sub.get x with
   |none=>
    rw[QJ,ih];refine⟨λh=>⟨aU _ h.1,h.2⟩,λh=>⟨?_,h.2⟩⟩;rcases List.mem_cons.1 h.1 with rfl|h1
    ·obtain⟨o,ho⟩:=h.2.2;rw[hg]at ho;cases ho
    exact h1
   |some o=>
    rw[DH,List.mem_cons,ih];refine⟨λh=>?_,λh=>?_⟩
    ·rcases h with rfl|h
     ·exact⟨bh ..,hx,o,hg⟩
     exact⟨aU _ h.1,h.2⟩
    rcases List.mem_cons.1 h.1 with h1|h1
    ·exact .inl h1
    exact .inr ⟨h1,h.2⟩
  rename_i hb
  rw[ih];refine⟨λh=>⟨aU _ h.1,h.2⟩,λh=>⟨?_,h.2⟩⟩;rcases List.mem_cons.1 h.1 with rfl|h1
  ·exact absurd (bG h.2.1:Nat.blt i n=true) hb
  exact h1
def oM{i:Nat}:∀{n a:Nat},i∈db a n↔a<=i/\i<a+n
 |0,a=>⟨λh=>(by cases h),λh=>aa⟩
 |n+1,a=>by show i∈a::db (Nat.add a 1) n↔_;rw[List.mem_cons,oM];have:Nat.add a 1=a+1:=rfl;rw[this];omega
def vu{i:Nat}:∀{l:List Nat},Qw l i=true↔i∈l
 |[]=>⟨λh=>(by cases h),λh=>(by cases h)⟩
 |x::l=>by
  unfold Qw;cases h:Nat.beq x i with
  |true=>have:=aN h;subst this;simp
  |false=>
   have I1:x≠i:=λe=>by subst e;rw[cN]at h;cases h
   rw[List.mem_cons];simp only[cond_false,vu];exact⟨.inr,λh=>h.resolve_left λe=>I1 e.symm⟩
def lq{src:PT aX}{id:Nat}:∀{l:List Nat}{t:PT aX},(∀i∈l,i<i+1)->(cS t src l).get id=if id∈l then src.get id else t.get id
 |[],t,_=>by simp[cS]
 |i::l,t,h=>by
  unfold cS;rw[lq λj hj=>h j (aU _ hj)];by_cases hl:id∈l
  ·rw[ad hl,ad (aU _ hl)]
  rw[ab hl,PT.yu _ _ _ _ (h i (bh ..))];by_cases hi:id=i
  ·subst hi;rw[ad rfl,ad (bh ..)]
  rw[ab hi,ab λhh=>(List.mem_cons.1 hh).elim hi hl]
def tH{id:Nat}:∀{l:List Nat}{t:PT aX},(∀i∈l,i<i+1)->(pV t l).get id=if id∈l then none else t.get id
 |[],t,_=>by simp[pV]
 |i::l,t,h=>by
  unfold pV;rw[tH λj hj=>h j (aU _ hj)];by_cases hl:id∈l
  ·rw[ad hl,ad (aU _ hl)]
  rw[ab hl];show(PT.put none t i).get id=_;rw[PT.yu _ _ _ _ (h i (bh ..))];by_cases hi:id=i
  ·subst hi;rw[ad rfl,ad (bh ..)]
  rw[ab hi,ab λhh=>(List.mem_cons.1 hh).elim hi hl]
def da{m:Nat}{u:Did}:∀{l:List Did},u∈bf m l↔u∈l/\Nat.testBit m u.idx=false
 |[]=>⟨λh=>(by cases h),λh=>(by cases h.1)⟩
 |x::l=>by
  show u∈ifE (Nat.testBit m x.idx) (bf m l) (x::bf m l)↔_;rw[cG];split
  ·rename_i hb
   rw[da];refine⟨λh=>⟨aU _ h.1,h.2⟩,λh=>⟨?_,h.2⟩⟩;rcases List.mem_cons.1 h.1 with rfl|h1
   ·rw[hb]at h;cases h.2
   exact h1
  rename_i hb
  rw[List.mem_cons,da,List.mem_cons];refine⟨λh=>?_,λh=>?_⟩
  ·rcases h with rfl|h
   ·exact⟨.inl rfl,by simpa using hb⟩
   exact⟨.inr h.1,h.2⟩
  rcases h.1 with rfl|h1
  ·exact .inl rfl
  exact .inr ⟨h1,h.2⟩
def AD{X1:PT aX}:∀{wr:List Nat},xC X1 wr=true->∀i∈wr,X1.get i=none
 |[],_,i,hi=>by cases hi
 |x::wr,h,i,hi=>by
  have h':aB (X1.get x) (xC X1 wr) (λ_=>false)=true:=h;cases hg:X1.get x with
  |some o=>rw[hg]at h';cases h'
  |none=>
   rw[hg]at h';rcases List.mem_cons.1 hi with rfl|hi
   ·exact hg
   exact AD (wr:=wr) h' i hi
def uT{wr:List Nat}:∀{us:List Did},gq us wr=true->∀u∈us,∀i∈wr,u.X1.get i=none
 |[],_,u,hu=>by cases hu
 |x::us,h,u,hu=>by
  have h':both (xC x.X1 wr) (gq us wr)=true:=h;rw[dv,aT]at h';rcases List.mem_cons.1 hu with rfl|hu
  ·exact AD h'.1
  exact uT h'.2 u hu
def oY{u:Did}{i:Nat}:cQ u i=true↔i∈u.wr\/(u.c0<=i/\i<u.c1):=by
 unfold cQ;rw[eW,vu,aT];refine or_congr Iff.rfl (and_congr ?_ ?_)
 ·exact⟨aY,bG⟩
 exact⟨λh=>aY h,λh=>bG h⟩
def tO{u:Did}{i:Nat}(h:u.c0<=u.c1):i∈fS u↔cQ u i=true:=by rw[oY];show i∈u.wr++db u.c0 (u.c1-u.c0)↔_;rw[js,oM];have:u.c0+(u.c1-u.c0)=u.c1:=aa;rw[this]
def qR{acc:List Nat}{j i:Nat}:∀{es:List Edge},Nat.testBit (lG acc j es) i=true->∃e∈es,iu e=true/\e.on<j/\(i=e.on\/Nat.testBit (acc.getD e.on 0) i=true)
 |[],h=>by simp[lG]at h
 |e::es,h=>by
  unfold lG at h;cases hc:iu e&&Nat.blt e.on j with
  |false=>rw[hc]at h;obtain⟨e',he',r⟩:=qR (es:=es) h;exact⟨e',aU _ he',r⟩
  |true=>
   rw[hc]at h;rw[aT]at hc;have D0:e.on<j:=aY hc.2;have h':Nat.testBit ((1 <<< e.on ||| acc.getD e.on 0) ||| lG acc j es) i=true:=h;rw[Nat.testBit_or,Nat.testBit_or,eW,eW]at h';rcases h' with(h'|h')|h'
   ·rw[ua,Nat.testBit_two_pow]at h';exact⟨e,bh ..,hc.1,D0,.inl (by simpa using h'.symm:e.on=i).symm⟩
   ·exact⟨e,bh ..,hc.1,D0,.inr h'⟩
   obtain⟨e',he',r⟩:=qR (es:=es) h';exact⟨e',aU _ he',r⟩
def Dy:∀(l:List Oper)(acc:List Nat)(j k:Nat),k<acc.length->(fE acc j l).getD k 0=acc.getD k 0
 |[],_,_,_,_=>rfl
 |o::l,acc,j,k,h=>by unfold fE;rw[Dy l _ _ k (by simp;omega)];simp only[bt];rw[gR h]
def tL:∀(l:List Oper)(acc:List Nat)(j:Nat),acc.length=j->∀k o,l[k]?=some o->∀i,Nat.testBit ((fE acc j l).getD (j+k) 0) i=true ->
  ∃e∈o.after.toList,iu e=true/\e.on<j+k/\(i=e.on\/Nat.testBit ((fE acc j l).getD e.on 0) i=true)
 |[],_,_,_,k,o,h,_,_=>by simp at h
 |x::l,acc,j,hj,0,o,h,i,hi=>by
  simp at h
  subst h;unfold fE at hi |-;have D7:=λk hk=>Dy l (acc++[lG acc j x.after.toList]) (Nat.add j 1) k hk;rw[D7 (j+0) (by simp;omega)]at hi;have he:(acc++[lG acc j x.after.toList]).getD (j+0) 0=lG acc j x.after.toList:=by simp[<-hj]
  rw[he]at hi;obtain⟨e,he,h1,h2,h3⟩:=qR hi;refine⟨e,he,h1,h2,h3.imp id λh3=>?_⟩;rw[D7 e.on (by simp;omega)];simp only[bt]at h3 |-;rw[gR aa];exact h3
 |x::l,acc,j,hj,k+1,o,h,i,hi=>by
  unfold fE at hi |-;have ih:=tL l (acc++[lG acc j x.after.toList]) (Nat.add j 1) (by simp[hj]) k o (by simpa using h) i;have e1:Nat.add j 1+k=j+(k+1):=by show j+1+k=_;omega
  rw[e1]at ih;exact ih hi
def ti{ops:Array Oper}{m:Nat}{y:Oper}:∀{l:List Oper}{i0:Nat},rG ops m y i0 l=true->∀k x,l[k]?=some x->Nat.testBit m (i0+k)=true\/CB ops x y=false
 |[],_,_,k,x,h=>by simp at h
 |z::l,i0,h,0,x,hx=>by
  simp at hx
  subst hx;unfold rG at h;rw[aT,eW]at h;exact h.1.imp id λh=>by simpa using h
 |z::l,i0,h,k+1,x,hx=>by
  unfold rG at h;rw[aT]at h;have:=ti (l:=l) (i0:=Nat.add i0 1) h.2 k x (by simpa using hx);have e1:Nat.add i0 1+k=i0+(k+1):=by show i0+1+k=_;omega
  rw[e1]at this;exact this
def vQ{ops:Array Oper}:∀{l pre:List Oper}{ms:List Nat},sD ops pre l ms=true->∀k o,l[k]?=some o->∀i x,i<pre.length+k->(pre++l)[i]?=some x->Nat.testBit (ms.getD k 0) i=true\/CB ops x o=false
 |[],_,_,_,k,o,h,_,_,_,_=>by simp at h
 |o::l,pre,[],h,_,_,_,_,_,_,_=>by unfold sD at h;cases h
 |o::l,pre,m::ms,h,0,o',ho,i,x,hi,hx=>by
  simp at ho
  subst ho;unfold sD at h;rw[aT]at h;have S4:pre[i]?=some x:=by rw[gR (by simpa using hi)]at hx;exact hx
  have:=ti h.1 i x S4;simpa using this
 |o::l,pre,m::ms,h,k+1,o',ho,i,x,hi,hx=>by unfold sD at h;rw[aT]at h;have:=vQ h.2 k o' (by simpa using ho) i x (by simp;omega) (by simpa using hx);simpa using this
def lh:∀{l:List Oper}{j:Nat},nD j l=true->∀k o,l[k]?=some o->∀e∈o.after.toList,iu e=true->e.on<j+k
 |[],_,_,k,o,h,_,_,_=>by simp at h
 |x::l,j,h,0,o,ho,e,he,hu=>by
  simp at ho
  subst ho;unfold nD at h;rw[aT,rN]at h;have:=h.1 e he;rw[hu]at this;simp at this
  exact this
 |x::l,j,h,k+1,o,ho,e,he,hu=>by
  unfold nD at h;rw[aT]at h;have:=lh h.2 k o (by simpa using ho) e he hu;have e1:Nat.add j 1+k=j+(k+1):=by show j+1+k=_;omega
  rw[e1]at this;exact this
def tF{ops:Array Oper}{x y:Oper}(h:CB ops x y=false):(∀d,x.dst=some d->d∉slotsOf ops y/\y.dst≠some d)/\∀d,y.dst=some d->d∉slotsOf ops x:=by
 unfold CB at h;rw[iz]at h;refine⟨λd hd=>?_,λd hd hm=>?_⟩
 ·have h1:=h.1;rw[hd]at h1;simp only[iz]at h1;refine⟨λhm=>?_,λhy=>?_⟩
  ·rw[vu.2 hm]at h1;cases h1.1
  rw[hy]at h1;have:=h1.2;simp only[cN]at this;cases this
 have h2:=h.2;rw[hd]at h2;simp only at h2
 rw[vu.2 hm]at h2;cases h2
def DA{H H':Hp}{l:List Nat}(h:H'.log=l++H.log):Bc H H'=l:=by unfold Bc;rw[h,bA,Nat.add_sub_cancel,zm];rfl
def AG{src:PT aX}{n id:Nat}:∀{l:List Nat}{t:PT aX},(∀i∈l,i<i+1)->(wX n t src l).get id=if id∈l then dh n id (src.get id)else t.get id
 |[],t,_=>by simp[wX]
 |i::l,t,h=>by
  unfold wX;rw[AG λj hj=>h j (aU _ hj)];by_cases hl:id∈l
  ·rw[ad hl,ad (aU _ hl)]
  rw[ab hl,PT.yu _ _ _ _ (h i (bh ..))];by_cases hi:id=i
  ·subst hi;rw[ad rfl,ad (bh ..)]
  rw[ab hi,ab λhh=>(List.mem_cons.1 hh).elim hi hl]
open Classical in
def wQ{H:Hp}{l:List (AV×Hp)}{t:PT aX}{id:Nat}:(IG H l t).get id=if id<ra l/\∀x∈l,dh H.nx id (x.2.t.get id)=dh H.nx id (t.get id)then dh H.nx id (t.get id)else none:=by
 show(wX H.nx .leaf t ((db 0 (ra l)).filter (ux H.nx l t))).get id=_;rw[AG λi _=>aZ i];have e:id∈(db 0 (ra l)).filter (ux H.nx l t)↔id<ra l/\∀x∈l,dh H.nx id (x.2.t.get id)=dh H.nx id (t.get id):=by rw[xg,oM];unfold ux;rw[decide_eq_true_iff];exact⟨λh=>⟨aa,h.2⟩,λh=>⟨aa,h.2⟩⟩
 by_cases hc:id<ra l/\∀x∈l,dh H.nx id (x.2.t.get id)=dh H.nx id (t.get id)
 ·rw[ad hc,ad (e.2 hc)]
 rw[ab hc,ab λh=>hc (e.1 h)];rfl
def Wk(o o':aX):Prop:=o=o'\/o=Zn o'
def Wk.ro{o o':aX}(h:Wk o o'):o.nP=o'.nP:=by
 rcases h with rfl|rfl
 ·rfl
 cases o'<;>rfl
def Wk.gen{o o':aX}{β:Pl}{w:World}{id g:Nat}(h:Wk o o')(hr:ig β w id o')(hg:eG o g):eG o' g:=by
 rcases h with rfl|rfl
 ·exact hg
 cases o' with
 |arr c e lo gen=>exact⟨aD hr.1 hg.1,hg.2⟩
 |oth x=>exact hg
 |ro c=>exact hg
def Wk.obj{o o':aX}{β:Pl}{w:World}{id:Nat}(h:Wk o o')(hr:ig β w id o'):ig β w id o:=by
 rcases h with rfl|rfl
 ·exact hr
 cases o' with
 |arr c e lo gen=>obtain⟨h1,h2,h3,h4⟩:=hr;exact⟨ai _,λg a b=>h2 g (aD h1 a) b,λg g' p p' a b c=>h3 g g' p p' (aD h1 a) b c,h4⟩
 |oth x=>exact hr
 |ro c=>exact hr
def SC{n id:Nat}{x:Option aX}{o:aX}(h:dh n id x=some o):∃o',x=some o'/\Wk o o':=by
 unfold dh at h;split at h
 ·exact⟨o,h,.inl rfl⟩
 cases x with
 |none=>cases h
 |some o'=>exact⟨o',rfl,.inr (dX h).symm⟩
def JQ{P:Program}{fn:Func}{tmps:Array Value}{w:World}{us:List Value}(h:(fn.results.toList.mapM (FV tmps)).run P w=.ok us w):
  (results fn tmps).run P w=.ok (if h:us.toArray.size=1 then us.toArray[0]else .tuple us.toArray) w:=by
 have e:results fn tmps=(do let vs <-fn.results.mapM (FV tmps);pure (if h:vs.size=1 then vs[0]else .tuple vs)):=by unfold results;congr 1
 rw[e,Array.mapM_eq_mapM_toList];simp[h]
section
variable{E:Env}{m:Nat}
def HO(hm:m<=m){fn:Func}{tmps:Array Value}{R:Ending->World->Prop}:∀{ids:List Nat}{ds:List Deferred}{β:Pl}{H H2:Hp}{w:World},Rel m β H w->H.nx<=m->pJ β ids ds->closeAll H ids=some H2 ->
  (∀w2,Rel m β H2 w2->Ext β H w β H2 w2->LeavesInM Fence.wide 0 E.P fn tmps R [] .returning w2)->LeavesInM Fence.wide 0 E.P fn tmps R ds .returning w
 |[],[],β,H,H2,w,hR,V1,_,h,hk=>by cases h;exact hk w hR (Ext.refl _ _ _)
 |i::ids,d::ds,β,H,H2,w,hR,V1,hM,h,hk=>by
  unfold closeAll at h;split at h
  ·rename_i hg
   obtain⟨p,hp,rfl⟩:=hM.1;obtain⟨q,hq,hw⟩:=hR.obj i _ hg;rw[hp]at hq;cases hq;have Q2:w.heap[p.b]?=some (.deferred (some [])):=hw;have Q3:=oT hR hm V1 hg (.dfr false) hp w rfl rfl rfl rfl (.deferred none) (λw' Q2=>Q2);refine⟨by simp,.inl ⟨p.b,{ w with heap:=w.heap.setIfInBounds p.b (.deferred none) },rfl,?_,?_⟩⟩
   ·simp[Instr.takeDeferred,getObj,setObj,Sem.run,Q2]
   exact HO hm Q3.1 V1 hM.2 h λw2 h2 h3=>hk w2 h2 (Q3.2.trans h3)
  cases h
 |[],_::_,_,_,_,_,_,_,hM,_,_=>hM.elim
 |_::_,[],_,_,_,_,_,_,hM,_,_=>hM.elim
end
def Bw{β:Pl}{nt:Nat}(h20:nt<=1048576):∀(args:List AV)(vs:List Value)(k:Nat)(tm:PT AV)(tmps:Array Value),ARs β args vs->TmR β tm nt tmps->k+vs.length<=nt ->
  TmR β (setArgs args k tm) nt ((tmps.toList.take k++vs++tmps.toList.drop (k+vs.length)).toArray)
 |[],[],k,tm,tmps,_,h,_=>by show TmR β tm nt _;simpa using h
 |x::args,v::vs,k,tm,tmps,ha,h,hk=>by
  have J4:k<nt:=by simp at hk;omega
  have ih:=Bw h20 args vs (k+1) (tm.set k x) (tmps.setIfInBounds k v) ha.2 (h.put J4 ha.1) (by simp at hk;omega);have M1:=h.1;have e:=list_seg_step tmps.toList k v vs (by simp at hk |-;omega);rw[zj]at ih;rw[e]at ih;have hl:k+1+vs.length=k+(v::vs).length:=by simp;omega
  exact ih
 |[],_::_,_,_,_,ha,_,_=>ha.elim
 |_::_,[],_,_,_,ha,_,_=>ha.elim
def Nc{β:Pl}{nt:Nat}(h20:nt<=1048576){args:List AV}{vs:List Value}(ha:ARs β args vs)(hl:args.length<=nt):TmR β (setArgs args 0 .leaf) nt (vs.toArray++Array.replicate (nt-vs.toArray.size) undef):=by
 have h0:TmR β (.leaf:PT AV) nt (Array.replicate nt undef):=by
  refine⟨by simp,h20,λt=>?_⟩;have:(Array.replicate nt undef).getD t undef=undef:=by simp only[ue,Array.getElem?_replicate];split<;>rfl
  rw[this];exact pH β
 have U1:=ha.length;have:=Bw h20 args vs 0 .leaf (Array.replicate nt undef) ha h0 aa;have e:((Array.replicate nt undef).toList.take 0++vs++(Array.replicate nt undef).toList.drop (0+vs.length)).toArray=vs.toArray++Array.replicate (nt-vs.toArray.size) undef:=by apply wq;simp
 rw[e]at this;exact this
section
variable{E:Env}(hE:uh E)(hD:Rv E)
include hE hD
omit hE hD in
theorem zX{m:Nat}{β β1:Pl}{H:Hp}{w w1:World}(hm:m<=m){fn:Func}{x:ax×ag×Hp}{a1:Act}{e:Exit}(hx:XR x.1 e)(hA:jz β1 x.2.1 a1)(hR:Rel m β1 x.2.2 w1)(B1:Ext β H w β1 x.2.2 w1)(V1:nE x<=m)
  {o outs:List (AV×Hp)} (ho:aH E fn.results.toList x=.ok o) (hs:∀y∈o,y∈outs) {R:Ending->World->Prop} (hQ:∀e w',mZ m β H w outs e w'->R e w'):bodyPostM Fence.wide 0 E.P fn R e a1 w1:=by
 have key:∀{o:List (AV×Hp)},(aB (closeAll x.2.2 x.2.1.dfr) (.bad "marks") λh2=>aB (cI E.P fn.results.toList x.2.1.tm h2) (.bad "results") λl=>.ok [(fa l,h2)])=Eng.R.ok o->(∀y∈o,y∈outs) ->
   LeavesInM Fence.wide 0 E.P fn a1.tmps R a1.defers .returning w1:=by
  intro o ho hs;cases hc:closeAll x.2.2 x.2.1.dfr with
  |none=>rw[hc]at ho;cases ho
  |some h2=>
   rw[hc]at ho;have Z3:aB (cI E.P fn.results.toList x.2.1.tm h2) (.bad "results") (λl=>Eng.R.ok [(fa l,h2)])=Eng.R.ok o:=ho
   refine HO hm hR V1 hA.df hc λw2 hR2 hext2=>?_;cases hr:cI E.P fn.results.toList x.2.1.tm h2 with
   |none=>rw[hr]at Z3;cases Z3
   |some l=>
    rw[hr]at Z3;cases Z3
    obtain⟨us,hus,o6⟩:=DX (P:=E.P) hR2 hA.tm.2.2 hr;exact⟨_,JQ hus,hQ _ _ ⟨_,rfl,_,hs _ (List.mem_singleton.2 rfl),β1,VI o6,hR2,B1.trans hext2⟩⟩
 unfold aH at ho;cases Y0:x.1 with
 |normal=>rw[Y0]at ho;rw[hx.normal Y0];exact key ho hs
 |exit i=>rw[Y0]at ho;cases ho
 |ret=>rw[Y0]at ho;rw[hx.ret Y0];exact key ho hs
omit hE hD in
theorem mZ.join{m:Nat}{β:Pl}{H:Hp}{w:World}(hR:Rel m β H w){l:List (AV×Hp)}{e:Ending}{w':World}(h:mZ m β H w l e w'):mZ m β H w (AM H l) e w':=by
 rcases qI H l with ej|⟨x,hx,hc,ej⟩
 ·rw[ej];exact h
 rw[ej];obtain⟨v,rfl,y,hy,β',hv,hR',S4⟩:=h;obtain⟨N6,hy2⟩:=hc y hy;have hmx:=vj hy;have hle:=S4.nx;have J1:∀id o,(IG H l x.2.t).get id=some o->∃o',y.2.get id=some o'/\Wk o o':=λid o ho=>by
  rw[wQ]at ho;by_cases hh:id<ra l/\∀z∈l,dh H.nx id (z.2.t.get id)=dh H.nx id (x.2.t.get id)
  ·rw[ad hh]at ho;exact SC ((hh.2 y hy).trans ho)
  rw[ab hh]at ho;cases ho
 have hold:∀id,id<H.nx->(IG H l x.2.t).get id=y.2.get id:=λid hid=>by rw[wQ,ad ⟨aa,λz hz=>congrArg _ ((hc z hz).2 id hid)⟩];show(if id<H.nx then x.2.t.get id else _)=_;rw[ad hid];exact(hy2 id hid).symm
 refine⟨v,rfl,_,List.mem_singleton.2 rfl,β',by rw[<-N6];exact hv,⟨λid o ho=>(let ⟨o',h1,h2⟩:=J1 id o ho;h2.obj (hR'.obj id o' h1)),λid id' o o' g g' p p' h1 h2 h3 h4 h5 h6 h7=>(by obtain⟨o1,a1,a2⟩:=J1 id o h1;obtain⟨o2,b1,b2⟩:=J1 id' o' h2;rw[a2.ro,b2.ro];exact hR'.sep id id' o1 o2 g g' p p' a1 b1 (a2.gen (hR'.obj id o1 a1) h3) (b2.gen (hR'.obj id' o2 b1) h4) h5 h6 h7),λid hid=>?_,λid g h1 h2=>hR'.free id g (aD hmx h1) h2⟩,?_⟩
 ·rw[wQ,ab λhh=>absurd hh.1 (Nat.not_lt.2 hid)]
 refine{ sub:=S4.sub,loc:=λid g p hp=>?_,size:=S4.size,os:=S4.os,tape:=S4.tape,output:=S4.output,frame:=S4.frame,prov:=λid o g p h1 h2 h3=>(by
       obtain⟨o1,a1,a2⟩:=J1 id o h1;rw[a2.ro];exact S4.prov id o1 g p a1 (a2.gen (hR'.obj id o1 a1) h2) h3),nx:=aD hle hmx,
         log:=⟨_,rfl,λid hid hn=>?_⟩,dom:=λid o ho=>?_,old:=λid o ho=>?_,far:=λl' hl' b hb hn=>?_ }
 ·rcases S4.loc id g p hp with h1|h1|h1
  ·exact .inl h1
  ·exact .inr (.inl ⟨h1.1,ay h1.2 hmx⟩)
  exact .inr (.inr h1)
 ·rw[hold id hid];obtain⟨l2,e2,f2⟩:=S4.log;refine f2 id hid λhm=>hn ?_;exact List.mem_flatMap.2 ⟨y,hy,by rw[DA e2];exact hm⟩
 ·have hid:id<H.nx:=by
   rcases cO id H.nx with hh|hh
   ·exact hh
   rw[hR.wf id hh]at ho;cases ho
  obtain⟨o',Z3⟩:=S4.dom id o ho;exact⟨o',by rw[hold id hid];exact Z3⟩
 ·obtain⟨o1,a1,a2⟩:=J1 id o ho;rcases S4.old id o1 a1 with h1|h1
  ·exact .inl h1
  exact .inr ⟨h1.1,ay h1.2 hmx⟩
 obtain⟨l2,e2,f2⟩:=S4.log;have e3:l'=l.flatMap λz=>Bc H z.2:=by have:l.flatMap (λz=>Bc H z.2)++H.log=l'++H.log:=hl';exact(sN this).symm
 subst e3;exact S4.far l2 e2 b hb λid o g p hid=>hn id o g p (List.mem_flatMap.2 ⟨y,hy,by rw[DA e2];exact hid⟩)
theorem PW{N:Nat}{rec:Rec}(M0:Ey E.P N rec)(J0:RecM rec){m:Nat}{β:Pl}{H:Hp}{w:World}{f:FuncId}{args:List AV}{vs:List Value}{outs:List (AV×Hp)}(hm:m<=m)(hR:Rel m β H w)(ha:ARs β args vs)
  (h:mI E rec f args H=.ok outs) (hb:∀x∈outs,nV x<=m):CallsIn Fence.wide 0 E.P f vs.toArray w (mZ m β H w outs):=by
 unfold mI Tt at h;cases hf:E.P.funcs[f]? with
 |none=>rw[hf]at h;cases h
 |some fn=>
  cases hb0:fn.body with
  |none=>rw[hf]at h;simp only[hb0]at h;cases h
  |some c=>
   rw[hf]at h;simp only[hb0]at h;have h':ifE (both (Nat.ble (vk args) fn.ntmps) (Nat.ble fn.ntmps 1048576)) (xG H (((codeF E c).run rec none ⟨setArgs args 0 .leaf,fn.ntmps,[]⟩ H).bind (aH E fn.results.toList))) (.bad "too many arguments")=R.ok outs:=h
   rw[cG]at h';split at h'
   ·rename_i hc
    obtain⟨l0,Y4,rfl⟩:=IH h';replace hb:=TN hb;obtain⟨l,hl,hk⟩:=R.fv Y4;have G5:∀x∈l,nE x<=m:=λx hx=>by obtain⟨o,ho,hs⟩:=hk x hx;exact RG.qL (tC (ai _)) ho hs hb
    have Z0:=Nc (aY (al hc).2) ha (aY (al hc).1);have hA:jz β ⟨setArgs args 0 .leaf,fn.ntmps,[]⟩ { tmps:=vs.toArray++Array.replicate (fn.ntmps-vs.toArray.size) undef,defers:=[] }:=⟨Z0,trivial⟩;refine callsIn_of_wp_marks hf hb0 trivial ?_;refine Go.wpIn_mono (uJ hE hD M0 J0 c (r:=none) (rB:=none) hm hR hA rfl hl G5).1 λe a1 w1 hp=>?_;obtain⟨x,hx,T7,β1,q8,b7,B1⟩:=hp;obtain⟨o,ho,hs⟩:=hk x hx;exact zX hm T7 q8 b7 B1 (G5 x hx) ho hs λ_ _ h=>mZ.join hR h
   cases h'
theorem uP:∀n,Ey E.P n (eval E n)
 |0=>{ code:=λ_ _ _ _ h=>(by cases h),call:=λ_ _ _ h=>(by cases h) }
 |n+1=>
  { code:=λ{_ _ _ _ _ _ _ _ c _}hm hR hA hr h hb=>uJ hE hD (uP n) (oC E n) c hm hR hA hr h hb,
    call:=λhm hR ha h hb=>PW hE hD (uP n) (oC E n) hm hR ha h hb }
end
end Go.Eng
