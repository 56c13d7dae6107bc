/- A part of the proof. -/
import Derived.Test.YtgepceljhelekaaGreatPAAa
import Derived.Orders
import Derived.Laws.MakeOwn
import Derived.LoopNIn
set_option maxRecDepth 100000
set_option maxHeartbeats 64000000
set_option linter.all false
namespace Go.Eng
open Go
section
variable{P:Program}{m:Nat}{β:Pl}{H:Hp}{w:World}
def abv(hR:Rel m β H w){sz:Nat}{x:AV}{v:Value}(hx:AR β x v){n:Nat}{c:List AC}(h:lO H sz x=some (n,c)):
  (n=0/\c=[]/\v=.slice none 0 0)\/∃(o':Addr)(cap:Nat)(vs:List Value),v=.slice (some o') n cap/\vs.length=n*sz/\CRs β c vs /\
   ∀w':World,(∀b,b<w.heap.size->w'.heap[b]?=w.heap[b]?)->∀j u,vs[j]?=some u->w'.cell? (o'.add j)=some u:=by
 unfold lO at h;split at h
 ·rename_i id g off len sz'
  split at h
  ·rename_i c' B2 o_
   cases h
   have hs:sz'=sz:=aO B2;subst hs;obtain⟨p,cap,o',hp,hlen,d_,rfl,hex⟩:=hx;obtain⟨cells,hD,h3,h4,rfl⟩:=th o_;have hr:=hD hR hp;obtain⟨vs,Z1,Q3,M1⟩:=mU hr off (Nat.mul n sz') hlen;refine .inr ⟨o',cap,vs,rfl,Z1,Q3,λw' N4 j u hu=>?_⟩;have hb:p.b<w.heap.size:=by obtain⟨cc,_,_,S2,_⟩:=hr;exact ee S2
   have B0:=(List.getElem?_eq_some_iff.1 hu).1;have hj:j<n*sz':=by rw[Z1]at B0;exact B0
   have C5:0<n:=by
    rcases sB n with h0|h0
    ·rw[h0]at hj;omega
    exact h0
   have D4:o'=⟨p.b,p.o+off,none⟩:=by
    rcases hex with h|h
    ·omega
    exact h.1
   subst D4;have:=M1 j u hu;rw[<-this];have e:((⟨p.b,p.o+off,none⟩:Addr).add j).block=p.b:=by unfold Addr.add;split<;>rfl
   exact World.cell?_of_block (by rw[e];exact N4 p.b hb)
  cases h
 ·cases h
  exact .inl ⟨rfl,rfl,hx⟩
 cases h
def jJ{sz n:Nat}{o':Addr}{cap:Nat}{vs:List Value}{w':World}(hl:vs.length=n*sz)(h:∀j u,vs[j]?=some u->w'.cell? (o'.add j)=some u)(len:Nat):
  (Builtin.firstCells sz n (.slice (some o') len cap)).run P w'=.ok vs.toArray w':=run_firstCells_some (P:=P) w' sz n o' len cap vs hl h
def Cm{cells:List AC}{e:TypeId}{p:Place}(h:jQ β w cells e p){c:List AC}{vs:List Value}(hc:CRs β c vs){pre:List AC}(k0:Nat)(M4:k0+pre.length<=p.hi)(U7:pre=(cells.drop k0).take pre.length)
  (I4:p.o+k0+pre.length+c.length<=p.n):
  ∃cur:Array Value,w.heap[p.b]?=some (.cells cur e (0,0))/\p.o+k0+pre.length+vs.length<=cur.size /\
   jQ β (w.setRow p.b (cur.toList.take (p.o+k0+pre.length)++vs++cur.toList.drop (p.o+k0+pre.length+vs.length)).toArray) (pre++c) e ⟨p.b,p.o+k0,p.n,pre.length+c.length⟩:=by
 obtain⟨cur,h1,h2,h3,h4,h5⟩:=h;have hl:=hc.length;refine⟨cur,h1,aa,?_⟩;have hfit':p.o+k0+pre.length+vs.length<=cur.toList.length:=by simp;omega
 refine⟨_,setRow_heap w p.b cur _ e _ h1,?_,?_,?_,?_⟩
 ·rw[bL,sA,jo _ _ _ hfit'];simpa using h2
 ·show p.o+k0+(pre.length+c.length)<=p.n;omega
 ·show pre.length+c.length<=(pre++c).length;simp
 intro k x hk hx;have X3:k<pre.length+c.length:=hk;show∃v,(List.toArray (cur.toList.take (p.o+k0+pre.length)++vs++cur.toList.drop (p.o+k0+pre.length+vs.length)))[p.o+k0+k]?=some v/\CR β x v
 rw[bL,Ad,kq _ _ _ _ hfit'];by_cases a1:k<pre.length
 ·rw[iw a1]at hx;rw[ad aa];have z5:cells[k0+k]?=some x:=by
   have e1:((cells.drop k0).take pre.length)[k]?=some x:=by rw[<-U7];exact hx
   rw[mW,ad a1,iV]at e1;exact e1
  obtain⟨v,hv,hr⟩:=h5 (k0+k) x aa z5;exact⟨v,by rw[oo,mX];exact hv,hr⟩
 rw[lE aa]at hx;rw[ab aa,ad aa];have B0:k-pre.length<vs.length:=aa;refine⟨vs[k-pre.length],?_,hc.get _ x _ hx (aA B0)⟩;rw[show p.o+k0+k-(p.o+k0+pre.length)=k-pre.length from by omega,aA B0]
def Fq{pre c:List AC}{us vs:List Value}(hp:CRs β pre us)(hc:CRs β c vs)(e:TypeId)(tail:Array Value)(w0:World)(hw:w0.heap=w.heap):
  jQ β { w0 with heap:=w0.heap.push (.cells (us.toArray++vs.toArray++tail) e) } (pre++c) e ⟨w.heap.size,0,us.length+vs.length+tail.size,pre.length+c.length⟩:=by
 have h1:=hp.length;have h2:=hc.length;refine⟨us.toArray++vs.toArray++tail,?_,by simp,?_,?_,?_⟩
 ·show(w0.heap.push _)[w.heap.size]?=_;rw[<-hw,HI]
 ·show 0+(pre.length+c.length)<=us.length+vs.length+tail.size;omega
 ·show pre.length+c.length<=(pre++c).length;simp
 intro k x hk hx;have X3:k<pre.length+c.length:=hk;have S2:=(hp.append hc);have B0:k<(us++vs).length:=by simp;omega
 refine⟨(us++vs)[k],?_,S2.get k x _ hx (aA B0)⟩;show(us.toArray++vs.toArray++tail)[0+k]?=_;rw[Nat.zero_add,HJ (by simp;simp at B0;omega)];rw[<-oo,Array.toList_append,aA]
def Dg(t ty e:TypeId)(i:TypeInfo)(ht:P.underlying t=some (.slice e))(hi:P.info? e=some i)
  (g o sLen sCap:Nat) (cur:Array Value) (hg:w.heap[g]?=some (.cells cur e (0,0)))
  (v:Value) (m:Nat) (news:List Value) (hv:(Builtin.lenOf v).run P w=.ok m w) (hn:(Builtin.firstCells i.size m v).run P w=.ok news.toArray w) (h1:∀u∈news,u.oneCell'=true)
  (j6:sLen+m<=sCap) (I4:o+sLen*i.size+news.length<=cur.size):
  (Builtin.append_ #[t,t] ty #[.slice (some ⟨g,o,none⟩) sLen sCap,v]).run P w =
   .ok (.slice (some ⟨g,o,none⟩) (sLen+m) sCap) (w.setRow g (cur.toList.take (o+sLen*i.size)++news++cur.toList.drop (o+sLen*i.size+news.length)).toArray):=by
 have R3:=run_storeCells_at P g (o+sLen*i.size) e news 0 cur w hg (by simpa using I4) h1;simp only[Nat.add_zero]at R3;simp[Builtin.append_,run_underlying ht,sizeOf,typeInfo,hi,hv,j6,hn,vf,R3]
def sf(t ty e:TypeId)(i:TypeInfo)(z:Value)(ht:P.underlying t=some (.slice e))(hi:P.info? e=some i)(hz:i.zero=some z)
  (s:Option Addr) (sLen sCap:Nat) (olds:List Value) (ho:(Builtin.firstCells i.size sLen (.slice s sLen sCap)).run P w.drew=.ok olds.toArray w.drew)
  (v:Value) (m:Nat) (news:List Value) (hv:(Builtin.lenOf v).run P w=.ok m w) (hn:(Builtin.firstCells i.size m v).run P w.drew=.ok news.toArray w.drew)
  (hg:sCap<sLen+m) (hb:(sLen+m)*i.bytes<=140737488355328) (h63:sLen+m<=140737488355328):
  (Builtin.append_ #[t,t] ty #[.slice s sLen sCap,v]).run P w =
   .ok (.slice (some ⟨w.heap.size,0,none⟩) (sLen+m) (grownCap w (sLen+m) sCap e))
    (w.drew.alloc (.cells (olds.toArray++news.toArray++Builtin.zeroCells z.cells (grownCap w (sLen+m) sCap e-(sLen+m))) e)):=by
 have x_:¬(sLen+m<=sCap):=aa;have h63':¬(9223372036854775807<((sLen:Int)+(m:Int))):=aa;have h48':¬(281474976710656<Builtin.nextslicecap (sLen+m) sCap*i.bytes):=by have:=growslice_fits hg hb;omega
 simp[Builtin.append_,run_underlying ht,sizeOf,typeInfo,zeroValue,hi,hz,hv,x_,h63',h48',Question.forced,hn,ho,Go.newRow,grownCap];congr 2
 apply wV;simp[bL]
def WA{cells:List AC}{e:TypeId}{p:Place}(h:jQ β w cells e p)(c:List AC):jQ β w (cells++c) e p:=by obtain⟨cc,r1,r2,r3,r4,r5⟩:=h;refine⟨cc,r1,r2,r3,by rw[aI];omega,λj y hj hy=>?_⟩;rw[iw aa]at hy;exact r5 j y hj hy
def Sd{cells:List AC}{e:TypeId}{p q:Place}(h:jQ β w cells e q){cur:Array Value}(hcur:w.heap[p.b]?=some (.cells cur e (0,0)))(vs:List Value)(k:Nat)(hk:k+vs.length<=cur.size)
  (hq:q.b=p.b->q.o+q.hi<=k):jQ β (w.setRow p.b (cur.toList.take k++vs++cur.toList.drop (k+vs.length)).toArray) cells e q:=by
 obtain⟨cc,r1,r2,r3,r4,r5⟩:=h;by_cases hb:q.b=p.b
 ·rw[hb,hcur]at r1;cases r1;have I4:k+vs.length<=cur.toList.length:=by simpa using hk
  have M':=hq hb;refine⟨_,by rw[hb];exact setRow_heap w p.b cur _ e _ hcur,?_,r3,r4,λj y hj hy=>?_⟩
  ·rw[bL,sA,jo _ _ _ I4];simpa using r2
  obtain⟨v',I5,T3⟩:=r5 j y hj hy;refine⟨v',?_,T3⟩;rw[bL,Ad,kq _ _ _ _ I4,ad aa,oo];exact I5
 exact⟨cc,by rw[setRow_other _ _ _ _ hb];exact r1,r2,r3,r4,r5⟩
def Kj{w':World}{id:Nat}{cells c:List AC}{e:TypeId}{lo gen:Nat}(h:ji β w id (.arr cells e lo gen)){q:Place}(hr:jQ β w' (cells++c) e q)(hq:q.hi=(cells++c).length)
  (hold:∀k p,lo<=k->k<=gen->β id k=some p->jQ β w' cells e p/\(p.b=q.b->p.o=q.o)):ji (plus β id (gen+1) q) w' id (.arr (cells++c) e lo (gen+1)):=by
 obtain⟨h1,h2,h3,h4⟩:=h;have hs:Sub β (plus β id (gen+1) q):=jG (h4 _ aa);refine⟨aa,?_,?_,?_⟩
 ·intro k C6 B3;by_cases hk:k=gen+1
  ·subst hk;exact⟨_,bm _ _ _ _,jQ.mono hs hr rfl,λ_=>hq⟩
  obtain⟨p,hp,_,_⟩:=h2 k C6 aa;exact⟨p,hs _ _ _ hp,jQ.mono hs (WA (hold k p C6 aa hp).1 c) rfl,λh=>absurd h hk⟩
 ·intro k k' p p' C6 B3 hk3 hp U9;by_cases X3:k'=gen+1
  ·subst X3;rw[bm]at U9;cases U9;by_cases hk:k=gen+1
   ·subst hk;rw[bm]at hp;cases hp;exact⟨ai _,λ_=>rfl⟩
   rw[cD _ _ _ _ aa]at hp;obtain⟨r,O2⟩:=(hold k p C6 aa hp);obtain⟨cc,_,_,_,r4,_⟩:=r;exact⟨by rw[hq,aI];omega,O2⟩
  rw[cD _ _ _ _ aa]at hp U9;exact h3 k k' p p' C6 B3 aa hp U9
 intro k hk;rw[cD _ _ _ _ aa];exact h4 k aa
def te{w':World}{id:Nat}{cells cells':List AC}{e:TypeId}{lo gen:Nat}(h:ji β w id (.arr cells e lo gen)){q:Place}(hr:jQ β w' cells' e q)(hq:q.hi=cells'.length):
  ji (plus β id (gen+1) q) w' id (.arr cells' e (gen+1) (gen+1)):=by
 obtain⟨h1,h2,h3,h4⟩:=h;have hs:Sub β (plus β id (gen+1) q):=jG (h4 _ aa);refine⟨aa,?_,?_,?_⟩
 ·intro k C6 B3;have hk:k=gen+1:=aa;subst hk;exact⟨_,bm _ _ _ _,jQ.mono hs hr rfl,λ_=>hq⟩
 ·intro k k' p p' C6 B3 hk3 hp U9;have hk:k=gen+1:=aa;have X3:k'=gen+1:=aa;subst hk;subst X3;rw[hp]at U9;cases U9;exact⟨ai _,λ_=>rfl⟩
 intro k hk;rw[cD _ _ _ _ aa];exact h4 k aa
def ur(z:Value)(n:Nat):(Builtin.zeroCells z.cells n).size=n*z.cells.size:=by simp[Builtin.zeroCells]
def Qx(hR:Rel m β H w)(hm:m<=m){t:TypeId}(ty:TypeId){x y:AV}{v u:Value}(hx:AR β x v)(hy:AR β y u):
  al P m β H w (bM P H t x y) ((do let r <-Builtin.append_ #[t,t] ty #[v,u];pure (Next.value r):Sem Next).run P w):=by
 unfold bM;refine al.nd λes hes=>al.nd λby_ hby=>al.nd λz hz=>al.guard λJ5=>al.nd λnc hnc=>?_;obtain⟨e,sz⟩:=es;obtain⟨n,c⟩:=nc;obtain⟨hu,hs⟩:=oO hes;obtain⟨ho,z0,it,Q4,hiz⟩:=nf hz;obtain⟨it2,hit2,B2⟩:=lU hs;obtain⟨it3,hit3,hbs⟩:=tS hby;simp only at Q4 hit2 hit3
 rw[Q4]at hit2 hit3;cases hit2;cases hit3
 have z9:CRs β (ofValue z).cells z.cells.toList:=(fg ho).cells (qx z0);have U6:cA (ofValue z).cells=sz:=aO (an J5).2;have hz2:sz≠0:=by
  have:=(an J5).1;intro h0;simp only at this
  rw[h0]at this;cases this
 have hzs:z.cells.size=it.size:=by rw[B2,<-U6,bZ];simpa using z9.length
 have hsrc:=abv hR hy hnc;show al P m β H w (fC H e sz by_ n c x) _;have U8:(Builtin.lenOf u).run P w=.ok n w:=by rcases hsrc with⟨rfl,_,rfl⟩|⟨o',cap,vs,rfl,_⟩<;>rfl
 obtain⟨vs,Z1,M3,B4⟩:∃vs:List Value,vs.length=n*sz/\CRs β c vs/\∀w':World,(∀b,b<w.heap.size->w'.heap[b]?=w.heap[b]?)->(Builtin.firstCells it.size n u).run P w'=.ok vs.toArray w':=by
  rcases hsrc with⟨rfl,rfl,rfl⟩|⟨o',cap,vs,rfl,h1,h2,h3⟩
  ·exact⟨[],by simp,trivial,λw' _=>by simp[Builtin.firstCells]⟩
  exact⟨vs,h1,h2,λw' N4=>jJ (by rw[B2];exact h1) (h3 w' N4) _⟩
 have S1:c.length=n*sz:=by rw[<-Z1];exact M3.length.symm
 unfold fC;split
 ·
  have z5:v=.slice none 0 0:=hx;subst z5;rw[cW];split
  ·rename_i h0
   have Z2:n=0:=aO h0;subst Z2;have hz0:(Builtin.firstCells it.size 0 u).run P w=.ok #[] w:=by have:=B4 w (λ_ _=>rfl);have hv0:vs=[]:=List.eq_nil_of_length_eq_zero (by simpa using Z1);rw[hv0]at this;exact this
   refine al.same hR (v:=.slice none 0 0) ?_ rfl;simp[Builtin.append_,run_underlying hu,sizeOf,typeInfo,Q4,U8,hz0]
  rename_i h0
  have Z2:n≠0:=λh=>h0 (by rw[h];rfl);refine al.guard λhb=>?_;have D2:n<=140737488355328:=bA (an hb).1;have Z6:n*by_<=140737488355328:=bA (an hb).2;intro S0;have a_:H.nx+1<=m:=S0;have L2:=sf (P:=P) (w:=w) t ty e it z hu Q4 hiz none 0 0 [] (by simp[Builtin.firstCells]) u n vs U8 (B4 w.drew (λ_ _=>rfl)) aa (by rw[hbs];simpa using Z6) aa;simp only[Nat.zero_add,Array.empty_append]at L2;have L5:=zF hR hm aa c vs.toArray e (by simpa using M3) w.drew rfl rfl rfl rfl (Builtin.zeroCells z.cells (grownCap w n 0 e-n));refine⟨_,_,.inl (by simp only[Sem.run_bind,L2,Result.andThen_ok];rfl),Out.one ?_ L5⟩;refine⟨_,grownCap w n 0 e,_,bm _ _ _ _,?_,grownCap_ge w n 0 e,rfl,.inr ⟨rfl,?_⟩⟩
  ·show 0+n*sz<=c.length;omega
  show 0+0+grownCap w n 0 e*sz<=vs.toArray.size+(Builtin.zeroCells z.cells _).size;have hge:=grownCap_ge w n 0 e;rw[ur,hzs,B2,sA,Z1,<-lF];have:n+(grownCap w n 0 e-n)=grownCap w n 0 e:=aa;rw[this];omega
 ·
  rename_i id g off len sz'
  obtain⟨p,cap,o',hp,hlen,d_,rfl,hex⟩:=hx;unfold qN;cases W6:H.get id with
  |none=>exact trivial
  |some ob=>
   cases ob with
   |oth q=>exact trivial
   |ro q=>exact trivial
   |arr cells e' lo gen=>
    refine al.guard λhc=>?_;have c1:sz'=sz:=aO (an hc).1;have c2:e'=e:=aO (an (an hc).2).1;have c3:lo<=g:=bA (an (an (an hc).2).2).1;have c4:g<=gen:=bA (an (an (an (an hc).2).2).2).1;have c5:off+len*sz<=cA cells:=bA (an (an (an (an (an hc).2).2).2).2).1;have c6:len+n<=140737488355328:=bA (an (an (an (an (an (an hc).2).2).2).2).2).1;have c7:(len+n)*by_<=140737488355328:=bA (an (an (an (an (an (an hc).2).2).2).2).2).2;subst c1 c2;rw[bZ]at c5;rw[cW];split
    ·
     rename_i h0
     have Z2:n=0:=aO h0;subst Z2;have hz0:(Builtin.firstCells it.size 0 u).run P w=.ok #[] w:=by have:=B4 w (λ_ _=>rfl);have hv0:vs=[]:=List.eq_nil_of_length_eq_zero (by simpa using Z1);rw[hv0]at this;exact this
     refine al.same hR (v:=.slice (some o') len cap) ?_ ⟨p,cap,o',hp,hlen,d_,rfl,hex⟩;simp[Builtin.append_,run_underlying hu,sizeOf,typeInfo,Q4,U8,d_,hz0,storeCells]
    rename_i h0
    have Z2:n≠0:=λh=>h0 (by rw[h];rfl);obtain⟨G0,hhi⟩:=nK hR W6 c3 c4 hp;have hgenp:∃pg,β id gen=some pg/\jQ β w cells e' pg/\pg.hi=cells.length:=by obtain⟨hle,hrows,_,_⟩:=hR.obj id _ W6;obtain⟨q,hq,hr,hh⟩:=hrows gen aa (ai _);exact⟨q,hq,hr,hh rfl⟩
    obtain⟨us,Y4,J',g_⟩:=mU G0.d off (len*sz') hlen;have U7:(cut cells off (Nat.mul len sz')).length=len*sz':=by rw[<-Y4,nU];exact J'.length.symm
    have L5:β id (gen+1)=none:=(hR.obj id _ W6).2.2.2 (gen+1) aa;have V1:∀q,Sub β (plus β id (gen+1) q):=λq=>jG L5;have hways:(∃cur:Array Value,len+n<=cap/\o'=⟨p.b,p.o+off,none⟩/\p.o+off+len*sz'+c.length<=p.n/\w.heap[p.b]?=some (.cells cur e' (0,0))/\p.o+off+len*sz'+vs.length<=cur.size /\
      (Builtin.append_ #[t,t] ty #[.slice (some o') len cap,u]).run P w=.ok (.slice (some ⟨p.b,p.o+off,none⟩) (len+n) cap) (w.setRow p.b (cur.toList.take (p.o+off+len*sz')++vs++cur.toList.drop (p.o+off+len*sz'+vs.length)).toArray)/\p.o+off+cap*sz'<=p.n) \/
      (cap<len+n/\∃(tail:Array Value)(ncap:Nat),len+n<=ncap/\us.length+vs.length+tail.size=ncap*sz' /\
       (Builtin.append_ #[t,t] ty #[.slice (some o') len cap,u]).run P w=.ok (.slice (some ⟨w.heap.size,0,none⟩) (len+n) ncap) (w.drew.alloc (.cells (us.toArray++vs.toArray++tail) e'))):=by
     by_cases j6:len+n<=cap
     ·left;have hex':o'=⟨p.b,p.o+off,none⟩/\p.o+off+cap*sz'<=p.n:=by
       rcases hex with h|h
       ·omega
       exact h
      have hmul:(len+n)*sz'<=cap*sz':=lD _ j6;rw[lF]at hmul;obtain⟨cur,h1,h2,h3,h4,h5⟩:=G0;have I4:p.o+off+len*sz'+vs.length<=cur.size:=aa;have L2:=Dg (P:=P) (w:=w) t ty e' it hu Q4 p.b (p.o+off) len cap cur h1 u n vs U8 (B4 w (λ_ _=>rfl)) M3.kJ j6 (by rw[B2];exact I4);rw[B2]at L2;rw[hex'.1];exact⟨cur,j6,rfl,aa,h1,I4,L2,hex'.2⟩
     right;refine⟨aa,Builtin.zeroCells z.cells (grownCap w (len+n) cap e'-(len+n)),grownCap w (len+n) cap e',grownCap_ge w (len+n) cap e',?_,?_⟩
     ·have hge:=grownCap_ge w (len+n) cap e';rw[ur,hzs,B2,Y4,Z1,<-lF,<-lF];congr 1
      omega
     have hold:(Builtin.firstCells it.size len (.slice (some o') len cap)).run P w.drew=.ok us.toArray w.drew:=by
      refine jJ (by rw[B2];exact Y4) (λj q hj=>?_) len;have B0:=(List.getElem?_eq_some_iff.1 hj).1;have D4:o'=⟨p.b,p.o+off,none⟩:=by
       rcases hex with h|h
       ·have h0':len=0:=aa;rw[Y4,h0']at B0;omega
       exact h.1
      rw[D4];exact g_ j q hj
     exact sf (P:=P) (w:=w) t ty e' it z hu Q4 hiz (some o') len cap us hold u n vs U8 (B4 w.drew (λ_ _=>rfl)) aa (by rw[hbs];exact c7) aa
    have hcell':cut cells off (Nat.mul len sz')=(cells.drop off).take (cut cells off (Nat.mul len sz')).length:=by rw[U7,nU];rfl
    rw[cW];split
    ·
     rename_i M5
     have d1:g=gen:=aO (an M5).1;have d2:off=0:=aO (an (an M5).2).1;have d3:len*sz'=cA cells:=aO (an (an M5).2).2;rw[bZ]at d3;subst d1 d2;intro S0;have hcut:cut cells 0 (Nat.mul len sz')=cells:=by rw[nU,List.drop_zero];exact iy (by show cells.length<=len*sz';omega)
     rw[hcut]at U7 hcell';have E_:CRs β cells us:=by have:=J';rw[List.drop_zero,iy aa]at this;exact this
     rw[kz];have hhi':=hhi rfl;rcases hways with⟨cur,w1,w2,w3,w4,w5,w6,w7⟩|⟨w1,tail,ncap,w2,w3,w4⟩
     ·
      obtain⟨cur',P_,_,E3⟩:=Cm G0 M3 (pre:=cells) 0 aa (by rw[List.drop_zero,pZ]) aa;rw[w4]at P_;cases P_;simp only[Nat.add_zero]at E3 w6 w2 w3 w7;rw[show len*sz'=cells.length from d3]at w6;have N3:=lX hR hm S0 W6 (.arr (cells++c) e' lo (g+1)) (β':=plus β id (g+1) ⟨p.b,p.o,p.n,cells.length+c.length⟩) (w':=w.setRow p.b (cur.toList.take (p.o+cells.length)++vs++cur.toList.drop (p.o+cells.length+vs.length)).toArray)
       (V1 _) (λi hi k=>cD _ _ _ _ (λh=>hi h.1)) (by simp) (by simp) (by simp) (by simp)
       (λb _ hb=>setRow_other w p.b b _ (λhh=>hb g p ⟨c3,ai _⟩ hp hh.symm))
       (Kj (hR.obj id _ W6) E3 (by simp) λk q C6 B3 hq=>by have I':=(hR.obj id _ W6).2.2.1 k g q p C6 B3 (ai _) hq hp;obtain⟨hr,_⟩:=nK hR W6 C6 B3 hq;exact⟨Sd hr w4 vs _ aa (λhb=>by rw[I'.2 hb];omega),I'.2⟩)
       (λk q hk hq=>.inr (by
        by_cases X3:k=g+1
        ·subst X3;rw[bm]at hq;cases hq;exact⟨g,p,⟨c3,ai _⟩,hp,rfl⟩
        rw[cD _ _ _ _ aa]at hq;exact⟨k,q,⟨hk.1,by have:=hk.2;omega⟩,hq,rfl⟩))
      refine⟨_,_,.inl (by simp only[Sem.run_bind,w6,Result.andThen_ok];rfl),Out.one ?_ N3⟩;refine⟨_,cap,_,bm _ _ _ _,?_,w1,rfl,.inr ⟨rfl,?_⟩⟩
      ·show 0+(len+n)*sz'<=cells.length+c.length;rw[lF];omega
      show p.o+0+cap*sz'<=p.n;omega
     
     have E3:=Fq (w:=w) E_ M3 e' tail w.drew rfl;have N3:=lX hR hm S0 W6 (.arr (cells++c) e' lo (g+1)) (β':=plus β id (g+1) ⟨w.heap.size,0,us.length+vs.length+tail.size,cells.length+c.length⟩) (w':=w.drew.alloc (.cells (us.toArray++vs.toArray++tail) e'))
      (V1 _) (λi hi k=>cD _ _ _ _ (λh=>hi h.1)) (by simp) rfl rfl rfl
      (λb hb _=>RowKit.Below.heap_alloc w.drew _ b hb)
      (Kj (hR.obj id _ W6) E3 (by simp) λk q C6 B3 hq=>by
       obtain⟨hr,_⟩:=nK hR W6 C6 B3 hq;have B0:q.b<w.heap.size:=by obtain⟨cc,S2,_⟩:=hr;exact ee S2
       exact⟨jQ.mono (λ_ _ _ h=>h) hr (RowKit.Below.heap_alloc w.drew _ _ B0),λhb=>by have E8:q.b=w.heap.size:=hb;omega⟩)
      (λk q hk hq=>by
       by_cases X3:k=g+1
       ·subst X3;rw[bm]at hq;cases hq;exact .inl (ai _)
       rw[cD _ _ _ _ aa]at hq;exact .inr ⟨k,q,⟨hk.1,by have:=hk.2;omega⟩,hq,rfl⟩)
     refine⟨_,_,.inl (by simp only[Sem.run_bind,w4,Result.andThen_ok];rfl),Out.one ?_ N3⟩;refine⟨_,ncap,_,bm _ _ _ _,?_,w2,rfl,.inr ⟨rfl,?_⟩⟩
     ·show 0+(len+n)*sz'<=cells.length+c.length;rw[lF];omega
     show 0+0+ncap*sz'<=us.length+vs.length+tail.size;omega
    
    intro S0;obtain⟨pg,hpg,hrowg,hhig⟩:=hgenp;have E_:CRs β (cut cells off (Nat.mul len sz')) us:=by rw[nU];exact J'
    rw[kz];rcases hways with⟨cur,w1,w2,w3,w4,w5,w6,w7⟩|⟨w1,tail,ncap,w2,w3,w4⟩
    ·obtain⟨cur',P_,_,E3⟩:=Cm G0 M3 (pre:=cut cells off (Nat.mul len sz')) off aa hcell' aa;rw[w4]at P_;cases P_;rw[U7]at E3;have N3:=lX hR hm S0 W6 (.arr (cut cells off (Nat.mul len sz')++c) e' (gen+1) (gen+1)) (β':=plus β id (gen+1) ⟨p.b,p.o+off,p.n,len*sz'+c.length⟩)
      (w':=w.setRow p.b (cur.toList.take (p.o+off+len*sz')++vs++cur.toList.drop (p.o+off+len*sz'+vs.length)).toArray)
      (V1 _) (λi hi k=>cD _ _ _ _ (λh=>hi h.1)) (by simp) (by simp) (by simp) (by simp)
      (λb _ hb=>setRow_other w p.b b _ (λhh=>hb g p ⟨c3,c4⟩ hp hh.symm))
      (te (hR.obj id _ W6) E3 (by rw[aI,U7]))
      (λk q hk hq=>.inr (by
       have X3:k=gen+1:=by have:=hk.1;have:=hk.2;omega
       subst X3;rw[bm]at hq;cases hq;exact⟨g,p,⟨c3,c4⟩,hp,rfl⟩))
     refine⟨_,_,.inl (by simp only[Sem.run_bind,w6,Result.andThen_ok];rfl),Out.one ?_ N3⟩;refine⟨_,cap,_,bm _ _ _ _,?_,w1,rfl,.inr ⟨rfl,?_⟩⟩
     ·show 0+(len+n)*sz'<=len*sz'+c.length;rw[lF];omega
     show p.o+off+0+cap*sz'<=p.n;omega
    have E3:=Fq (w:=w) E_ M3 e' tail w.drew rfl;have N3:=lX hR hm S0 W6 (.arr (cut cells off (Nat.mul len sz')++c) e' (gen+1) (gen+1)) (β':=plus β id (gen+1) ⟨w.heap.size,0,us.length+vs.length+tail.size,(cut cells off (Nat.mul len sz')).length+c.length⟩)
     (w':=w.drew.alloc (.cells (us.toArray++vs.toArray++tail) e'))
     (V1 _) (λi hi k=>cD _ _ _ _ (λh=>hi h.1)) (by simp) rfl rfl rfl
     (λb hb _=>RowKit.Below.heap_alloc w.drew _ b hb)
     (te (hR.obj id _ W6) E3 (by rw[aI]))
     (λk q hk hq=>.inl (by
      have X3:k=gen+1:=by have:=hk.1;have:=hk.2;omega
      subst X3;rw[bm]at hq;cases hq;exact ai _))
    refine⟨_,_,.inl (by simp only[Sem.run_bind,w4,Result.andThen_ok];rfl),Out.one ?_ N3⟩;refine⟨_,ncap,_,bm _ _ _ _,?_,w2,rfl,.inr ⟨rfl,?_⟩⟩
    ·show 0+(len+n)*sz'<=(cut cells off (Nat.mul len sz')).length+c.length;rw[lF];omega
    show 0+0+ncap*sz'<=us.length+vs.length+tail.size;omega
 exact trivial
end
section
variable{P:Program}{m:Nat}{β:Pl}{H:Hp}{w:World}
def Kw(hR:Rel m β H w){tm:PT AV}{a:Act}(J1:∀t,AR β (aG (tm.get t) aQ λv=>v) (a.tmps.getD t undef))(o:Oper)(hs:∀cs b,o.op≠.select cs b):
  al P m β H w (aD P tm H o) ((execOp a.eval o).run P w):=by
 unfold aD;refine al.guard λhg=>?_;have he:execOp (λx=>cq (ev tm x)) o=execOp a.eval o:=by
  refine execOp_congr o hs λx hx=>?_;have h1:=List.all_eq_true.1 hg x (by simpa using hx);have h2:=cQ J1 x;cases hv:(ev tm x).val? with
  |none=>rw[hv]at h1;cases h1
  |some v=>show cq (ev tm x)=_;unfold cq;rw[hv];exact(AV.lY hv h2).symm
 rw[he];split
 ·rename_i v hv
  refine al.guard λhk=>?_;exact al.same hR (uG hv w) (fg hk)
 exact trivial
def BC(a b:Int):iLe a b=decide (a<=b):=by
 cases a with
 |ofNat m=>
  cases b with
  |ofNat n=>show Nat.ble m n=_;rw[ix];simp
  |negSucc n=>
   show false=_;symm
   rw[qf,An];omega
 |negSucc m=>
  cases b with
  |ofNat n=>
   show true=_;symm
   rw[bI,An];omega
  |negSucc n=>
   show Nat.ble n m=_;rw[ix];simp
   omega
def pv(a b:Int):iEq a b=(a==b):=by
 cases a with
 |ofNat m=>
  cases b with
  |ofNat n=>show Nat.beq m n=_;rw[ix,tH,jr];exact⟨λh=>by rw[h],λh=>Int.ofNat.inj h⟩
  |negSucc n=>
   show false=_;symm
   rw[HX,An];omega
 |negSucc m=>
  cases b with
  |ofNat n=>
   show false=_;symm
   rw[HX,An];omega
  |negSucc n=>show Nat.beq m n=_;rw[ix,tH,jr];exact⟨λh=>by rw[h],λh=>Int.negSucc.inj h⟩
def kY{a b:IntKind}(h:sameKind a b=true):a=b:=by cases a<;>cases b<;>first|rfl|cases h
def wT(k:IntKind)(n:Int):wS k n=k.wrap n:=by
 unfold wS;rw[cW];split
 ·rename_i hk
  have X3:k=.i64:=by cases k<;>first|rfl|cases hk
  subst X3;cases n with
  |ofNat m=>
   show ifE (Nat.ble 9223372036854775808 m) _ _=_;rw[cW];split
   ·rfl
   rename_i h
   have h':m<9223372036854775808:=by
    rcases cL m 9223372036854775808 with h1|h1
    ·exact h1
    exact absurd (bU h1) h
   rw[IntKind.wrap_i64];have e:Int.ofNat m=(m:Int):=rfl;rw[e];omega
  |negSucc m=>
   show ifE (Nat.ble 9223372036854775808 m) _ _=_;rw[cW];split
   ·rfl
   rename_i h
   have h':m<9223372036854775808:=by
    rcases cL m 9223372036854775808 with h1|h1
    ·exact h1
    exact absurd (bU h1) h
   rw[IntKind.wrap_i64];omega
 rfl
def Tm(a b:UInt8):bEq a b=(a==b):=by rw[ix,jr];unfold bEq;rw[tH];exact⟨λh=>UInt8.toNat_inj.1 h,λh=>by rw[h]⟩
def fF:∀(x y:List UInt8),lEq x y=(x==y)
 |[],[]=>rfl
 |[],_::_=>rfl
 |_::_,[]=>rfl
 |a::x,b::y=>by show both (bEq a b) (lEq x y)=_;rw[er,Tm,fF x y];rfl
def JG:∀(x y:List UInt8),EB x y=Op.bytesLess x y
 |[],[]=>rfl
 |[],_::_=>rfl
 |_::_,[]=>rfl
 |a::x,b::y=>by
  show ifE (Nat.blt a.toNat b.toNat) true (both (bEq a b) (EB x y))=(decide (a<b)||(a==b&&Op.bytesLess x y));rw[cW,er,Tm,JG x y];have:Nat.blt a.toNat b.toNat=decide (a<b):=by rw[ix,bI,UInt8.lt_iff_toNat_lt];exact⟨λh=>bA h,λh=>bU h⟩
  rw[this];cases decide (a<b)<;>rfl
def sh(op:BinOp)(t:TypeId)(x y:Operand)(a b:Value)(h1:a≠.nilIface)(h2:∀cs,a≠.agg cs):(eqGuard op t x y a b).run P w=.ok () w:=by unfold eqGuard;cases a<;>first|exact absurd rfl h1|exact absurd rfl (h2 _)|(cases op<;>rfl)
def MG(a b:Int):decide (a<b)=!decide (b<=a):=by rw[ix];simp
def Rj(hR:Rel m β H w){op:BinOp}{t:TypeId}{x y:Operand}{k k':IntKind}{a b:Int}{alt:ah}
  (halt:al P m β H w alt ((do let z <-(do eqGuard op t x y (.int k a) (.int k' b);binOp op t (.int k a) (.int k' b));pure (Next.value z):Sem Next).run P w)):
  al P m β H w (oK H (gV op) k a k' b alt) ((do let z <-(do eqGuard op t x y (.int k a) (.int k' b);binOp op t (.int k a) (.int k' b));pure (Next.value z):Sem Next).run P w):=by
 unfold oK;rw[cW];split
 ·rename_i hk
  have hk:=kY hk;subst hk;have hg:=sh (P:=P) (w:=w) op t x y (.int k a) (.int k b) (by simp) (by simp);cases op<;>first
   |exact halt
   |(refine al.same hR (v:=.int k (wS k _)) ?_ rfl
     rw[wT];simp only[Sem.run_bind,hg,Result.andThen_ok];simp[binOp,Op.intArith];try rfl)
   |(refine al.same hR (v:=.bool _) ?_ rfl
     simp only[Sem.run_bind,hg,Result.andThen_ok];simp[binOp,Op.intCmp,BC,pv];try first|rfl|exact MG _ _)
 exact halt
def Sv(hR:Rel m β H w){op:BinOp}{t:TypeId}{x y:Operand}{a b:List UInt8}{alt:ah}
  (halt:al P m β H w alt ((do let z <-(do eqGuard op t x y (.string ⟨a.toArray⟩) (.string ⟨b.toArray⟩);binOp op t (.string ⟨a.toArray⟩) (.string ⟨b.toArray⟩));pure (Next.value z):Sem Next).run P w)):
  al P m β H w (aG (acB op) alt λf=>.val (.one (.b (f a b))) H)
   ((do let z <-(do eqGuard op t x y (.string ⟨a.toArray⟩) (.string ⟨b.toArray⟩);binOp op t (.string ⟨a.toArray⟩) (.string ⟨b.toArray⟩));pure (Next.value z):Sem Next).run P w):=by
 have hg:=sh (P:=P) (w:=w) op t x y (.string ⟨a.toArray⟩) (.string ⟨b.toArray⟩) (by simp) (by simp);cases op<;>first
  |exact halt
  |(refine al.same hR (v:=.bool _) ?_ rfl
    simp only[Sem.run_bind,hg,Result.andThen_ok];simp[binOp,Op.stringOp,fF,JG];try rfl)
def Aof(k:Nat)(v:Value):Prop:=
 match k with
 |0=>∃a,v=.pointer (some a)
 |1=>∃a n c,v=.slice (some a) n c
 |2=>∃b,v=.map (some b)
 |3=>∃f c,v=.func f #[] c
 |_=>True
def Nof(k:Nat)(v:Value):Prop:=
 match k with
 |0=>v=.pointer none
 |1=>v=.slice none 0 0
 |2=>v=.map none
 |3=>v=.nilFunc
 |_=>True
def Et{x:AO}{v:Value}(hx:CRO β x v):Aof (BD x) v:=by
 cases x<;>first
  |exact trivial
  |(obtain⟨p,_,_,h⟩:=hx;exact⟨_,h⟩)
  |(obtain⟨p,_,_,_,_,_,h,_⟩:=hx;exact⟨_,_,_,h⟩)
  |(obtain⟨p,_,h⟩:=hx;exact⟨_,h⟩)
  |(obtain⟨cs,h,_⟩:=hx;exact⟨_,_,h⟩)
def Ev{x:AO}{v:Value}(hx:CRO β x v):Nof (BE x) v:=by cases x<;>first|exact trivial|exact hx
def Tg{t:TypeId}:
  match dE P t with
  |0=>∃e,P.underlying t=some (.pointer e)
  |1=>∃e,P.underlying t=some (.slice e)
  |2=>∃k e,P.underlying t=some (.map k e)
  |3=>∃a b c,P.underlying t=some (.func a b c)
  |_=>True:=by
 unfold dE;cases P.underlying t with
 |none=>exact trivial
 |some d=>cases d<;>first|exact trivial|exact⟨_,rfl⟩|exact⟨_,_,rfl⟩|exact⟨_,_,_,rfl⟩
def yY(d:Nat){t:TypeId}{k:Nat}(hk:dE P t=k)(h4:k<4){v u:Value}(h:(Aof k v/\Nof k u)\/(Nof k v/\Aof k u)):(Op.equalIn (d+1) t v u).run P w=.ok false w:=by
 have ht:=Tg (P:=P) (t:=t);rw[hk]at ht;match k,h4 with
 |0,_=>obtain⟨e,ht⟩:=ht;rcases h with⟨⟨a,rfl⟩,h⟩|⟨h,⟨a,rfl⟩⟩<;>cases h<;>simp[Op.equalIn,run_underlying ht]
 |1,_=>obtain⟨e,ht⟩:=ht;rcases h with⟨⟨a,n,c,rfl⟩,h⟩|⟨h,⟨a,n,c,rfl⟩⟩<;>cases h<;>simp[Op.equalIn,run_underlying ht]
 |2,_=>obtain⟨e,e',ht⟩:=ht;rcases h with⟨⟨a,rfl⟩,h⟩|⟨h,⟨a,rfl⟩⟩<;>cases h<;>simp[Op.equalIn,run_underlying ht]
 |3,_=>obtain⟨e,e',e'',ht⟩:=ht;rcases h with⟨⟨a,c,rfl⟩,h⟩|⟨h,⟨a,c,rfl⟩⟩<;>cases h<;>simp[Op.equalIn,run_underlying ht]
def LJ{t:TypeId}{k:Nat}(h4:k<4){v u:Value}(h:(Aof k v/\Nof k u)\/(Nof k v/\Aof k u)):
  v≠.nilIface/\(∀cs,v≠.agg cs)/\binOp .eql t v u=(do let z <-Op.equal t v u;pure (.bool z))/\binOp .neq t v u=(do let z <-Op.equal t v u;pure (.bool (!z))):=by
 match k,h4 with
 |0,_=>rcases h with⟨⟨a,rfl⟩,h⟩|⟨h,⟨a,rfl⟩⟩<;>cases h<;>exact⟨by simp,by simp,rfl,rfl⟩
 |1,_=>rcases h with⟨⟨a,n,c,rfl⟩,h⟩|⟨h,⟨a,n,c,rfl⟩⟩<;>cases h<;>exact⟨by simp,by simp,rfl,rfl⟩
 |2,_=>rcases h with⟨⟨a,rfl⟩,h⟩|⟨h,⟨a,rfl⟩⟩<;>cases h<;>exact⟨by simp,by simp,rfl,rfl⟩
 |3,_=>rcases h with⟨⟨a,c,rfl⟩,h⟩|⟨h,⟨a,c,rfl⟩⟩<;>cases h<;>exact⟨by simp,by simp,rfl,rfl⟩
def VK{t:TypeId}{x y:AV}{v u:Value}(hx:AR β x v)(hy:AR β y u){b:Bool}(h:Pt (dE P t) x y=some b):
  b=false/\dE P t<4/\((Aof (dE P t) v/\Nof (dE P t) u)\/(Nof (dE P t) v/\Aof (dE P t) u)):=by
 unfold Pt at h;split at h
 ·rename_i a b'
  cases hc:(Nat.blt (dE P t) 4&&((Nat.beq (BD a) (dE P t)&&Nat.beq (BE b') (dE P t))||(Nat.beq (BE a) (dE P t)&&Nat.beq (BD b') (dE P t))))with
  |false=>rw[hc]at h;cases h
  |true=>
   rw[hc]at h;cases h
   simp only[aV,iZ]at hc;refine⟨rfl,bA hc.1,?_⟩;rcases hc.2 with⟨h1,h2⟩|⟨h1,h2⟩
   ·have a1:=aO h1;have a2:=aO h2;exact .inl ⟨by rw[<-a1];exact Et hx,by rw[<-a2];exact Ev hy⟩
   have a1:=aO h1;have a2:=aO h2;exact .inr ⟨by rw[<-a1];exact Ev hx,by rw[<-a2];exact Et hy⟩
 cases h
def aaJ(hR:Rel m β H w){op:BinOp}{t:TypeId}{x y:Operand}{a b:AV}{v u:Value}(hx:AR β a v)(hy:AR β b u){alt:ah}
  (halt:al P m β H w alt ((do let z <-(do eqGuard op t x y v u;binOp op t v u);pure (Next.value z):Sem Next).run P w)):
  al P m β H w (cF H (dE P t) op (gV op) a b alt) ((do let z <-(do eqGuard op t x y v u;binOp op t v u);pure (Next.value z):Sem Next).run P w):=by
 cases a with
 |agg _=>exact halt
 |tup _=>exact halt
 |any=>exact halt
 |one c=>
  cases c with
  |b _=>exact halt
  |i k n=>show al P m β H w (gW b alt λk' b'=>oK H (gV op) k n k' b' alt) _;refine vO hy halt λk' n' hu=>?_;have hv:v=.int k n:=hx;subst hu hv;exact Rj hR halt
  |o q=>
   show al P m β H w (oL H (dE P t) op (.one (.o q)) b alt) _;unfold oL;refine zT hx ?_ λs hs=>?_
   ·unfold sO;split
    ·rename_i b' hn
     obtain⟨rfl,h4,hh⟩:=VK hx hy hn;have h1:(Op.equal t v u).run P w=.ok false w:=yY 9999 rfl h4 hh;obtain⟨h2,h3,h5,h6⟩:=LJ (t:=t) h4 hh;have hg:=sh (P:=P) (w:=w) op t x y v u h2 h3;split
     ·refine al.same hR (v:=.bool false) ?_ rfl;simp[Sem.run_bind,hg,h5,h1]
     ·refine al.same hR (v:=.bool true) ?_ rfl;simp[Sem.run_bind,hg,h6,h1]
     exact trivial
    exact halt
   refine zT hy halt λs' u_=>?_;subst hs u_;exact Sv hR halt
def acG(hR:Rel m β H w){op:UnOp}{x:AV}{v:Value}(hx:AR β x v){alt:ah}(halt:al P m β H w alt ((do let z <-Op.unary op v;pure (Next.value z):Sem Next).run P w)):
  al P m β H w (Me H op x alt) ((do let z <-Op.unary op v;pure (Next.value z):Sem Next).run P w):=by
 cases op<;>first
  |exact halt
  |(refine IE hx halt λb hb=>?_
    subst hb;exact al.same hR (v:=.bool (!b)) rfl rfl)
def UL(hR:Rel m β H w){t:TypeId}{x i:AV}{v u:Value}(hx:AR β x v)(hi:AR β i u){alt:ah}(halt:al P m β H w alt ((do let z <-Instr.index t v u;pure (Next.value z):Sem Next).run P w)):
  al P m β H w (lQ H (rN P t) x i alt) ((do let z <-Instr.index t v u;pure (Next.value z):Sem Next).run P w):=by
 unfold lQ;rw[cW];split
 ·rename_i ht
  have hu:P.underlying t=some .string:=by
   unfold rN at ht;split at ht
   ·assumption
   cases ht
  refine zT hx halt λs hs=>vO hi halt λk n hn=>al.nd λj hj=>al.nd λb hb=>?_;have hj:=rX hj;subst hs hn hj;rw[Px]at hb;refine al.same hR (v:=.int .u8 b.toNat) ?_ rfl;have B0:j<s.length:=(List.getElem?_eq_some_iff.1 hb).1;have hg:(ByteArray.mk s.toArray)[j]?=some b:=by
   have h1:j<(ByteArray.mk s.toArray).size:=by show j<s.toArray.size;simpa using B0
   rw[getElem?_pos (ByteArray.mk s.toArray) j h1];have:(ByteArray.mk s.toArray)[j]=s.toArray[j]'(by simpa using B0):=rfl;rw[this];rw[aA B0]at hb;simpa using hb
  simp[Instr.index,asIntOf,run_underlying hu,hg]
 exact halt
def YM{t:TypeId}:
  match ly P t with
  |none=>True
  |some 0=>P.underlying t=some .string
  |some 1=>∃e,P.underlying t=some (.slice e)
  |some (_+2)=>∃k e,P.underlying t=some (.map k e):=by
 unfold ly;cases h:P.underlying t with
 |none=>exact trivial
 |some d=>cases d<;>first|exact trivial|exact⟨_,rfl⟩|exact⟨_,_,rfl⟩|rfl
def Rm{x:AV}{v:Value}(hx:AR β x v)(h:UQ x=true):v=.slice none 0 0:=by
 cases x with
 |one c=>
  cases c with
  |o q=>cases q<;>first|exact hx|cases h
  |b _=>cases h
  |i _ _=>cases h
 |agg _=>cases h
 |tup _=>cases h
 |any=>cases h
def ERs.length{l:List cC}{ms:List MapEntry}(h:ERs β l ms):ms.length=l.length:=(ERs.get h).symm
def ta(hR:Rel m β H w){id:Nat}{es:List cC}{clock:Nat}(h:H.get id=some (.oth (.map es clock))){p:Place}(hp:β id 0=some p):
  ∃ms:List MapEntry,w.heap[p.b]?=some (.map ms.toArray clock)/\ERs β es ms:=by
 obtain⟨q,hq,ms,h1,h2⟩:=hR.obj id _ h;rw[hp]at hq;cases hq;exact⟨ms,h1,h2⟩
def dV{b:Nat}{es:Array MapEntry}{c:Nat}(h:w.heap[b]?=some (.map es c)):(getObj b).run P w=.ok (.map es c) w:=by simp[getObj,Sem.run,h]
def lB{b:Nat}{m:Option Nat}{s t:Nat}{a:Array Nat}(h:w.heap[b]?=some (.mapIter m s a t)):(getObj b).run P w=.ok (.mapIter m s a t) w:=by simp[getObj,Sem.run,h]
def abc(hR:Rel m β H w){t ty:TypeId}{k:Nat}(ht:ly P t=some k){x:AV}{v:Value}(hx:AR β x v):
  al P m β H w (eD H k x) ((do let z <-Builtin.len_ #[t] ty #[v];pure (Next.value z):Sem Next).run P w):=by
 have hu:=YM (P:=P) (t:=t);rw[ht]at hu;match k with
 |0=>
  refine zT hx ⟨⟩ λs hs=>?_;subst hs;rw[GN];refine al.same hR (v:=.int .i64 s.length) ?_ rfl;have:(ByteArray.mk s.toArray).size=s.length:=by show s.toArray.size=_;simp
  simp[Builtin.len_,run_underlying hu,goInt,this]
 |1=>
  obtain⟨e,hu⟩:=hu;refine Ni hx (al.guard λhn=>?_) λid g off len sz p cap o' _ _ _ _ hv _=>?_
  ·have:=Rm hx hn;subst this;refine al.same hR (v:=.int .i64 0) ?_ rfl;simp[Builtin.len_,run_underlying hu,goInt]
  subst hv;refine al.same hR (v:=.int .i64 len) ?_ rfl;simp[Builtin.len_,run_underlying hu,goInt]
 |k+2=>
  obtain⟨a,e,hu⟩:=hu;show al P m β H w (gk H x) _;unfold gk;split
  ·have hv:v=.map none:=hx;subst hv;refine al.same hR (v:=.int .i64 0) ?_ rfl;simp[Builtin.len_,run_underlying hu,goInt]
  ·rename_i id
   obtain⟨p,hp,rfl⟩:=hx;split
   ·rename_i es clock hg
    obtain⟨ms,h1,h2⟩:=ta hR hg hp;refine al.same hR (v:=.int .i64 es.length) ?_ rfl;simp[Builtin.len_,run_underlying hu,goInt,dV h1,h2.length]
   exact trivial
  exact trivial
def Pp(hR:Rel m β H w){tm:PT AV}{a:Act}(J1:∀t,AR β (aG (tm.get t) aQ λv=>v) (a.tmps.getD t undef))(x:Operand):al P m β H w ((VF (opF x)).run tm H) ((pure (Next.value (a.eval x)):Sem Next).run P w):=by have h:=cQ J1 x;cases x<;>exact al.same hR rfl h
def Zo(hR:Rel m β H w){tm:PT AV}{a:Act}(J1:∀t,AR β (aG (tm.get t) aQ λv=>v) (a.tmps.getD t undef))(c x y:Operand):
  al P m β H w ((aao (opF c) (opF x) (opF y)).run tm H) ((do pure (Next.value (if <-asBool (a.eval c)then a.eval x else a.eval y)):Sem Next).run P w):=by
 refine IE (cQ J1 c) trivial λb hb=>?_;refine al.same hR (v:=if b=true then a.eval x else a.eval y) ?_ ?_
 ·simp[hb,asBool]
 rw[cW];cases b
 ·exact cQ J1 y
 exact cQ J1 x
def Ke(hR:Rel m β H w){ρ:Operand->Value}{y:Operand}{x:AV}(hx:AR β x (ρ y))(o:Oper)(ho:o.op=.nilCheck y):al P m β H w (kh H x) ((execOp ρ o).run P w):=by
 obtain⟨dst,op,type,pos,after,guard⟩:=o;cases ho
 generalize hv:ρ y=v at hx;cases x with
 |one c=>
  cases c with
  |o q=>
   cases q<;>first
    |exact trivial
    |(obtain⟨p,h1,h2,h3⟩:=hx
      subst h3;exact al.same hR (v:=.pointer (some _)) (by simp only[execOp,hv];rfl) ⟨p,h1,h2,rfl⟩)
    |(obtain⟨cs,h1,h2⟩:=hx
      subst h1;exact al.same hR (v:=.func _ #[] _) (by simp only[execOp,hv];rfl) ⟨cs,rfl,h2⟩)
  |b _=>exact trivial
  |i _ _=>exact trivial
 |agg _=>exact trivial
 |tup _=>exact trivial
 |any=>exact trivial
end
section
variable{P:Program}{m:Nat}{β:Pl}{H:Hp}{w:World}
def AY(a b:Nat):ifE (Nat.ble a b) a b=Nat.min a b:=by
 rw[cW];show _=min a b;by_cases h:a<=b
 ·rw[ad (bU h)];omega
 rw[ab (λhh=>h (bA hh))];omega
def Yp(hR:Rel m β H w)(hm:m<=m){t ty:TypeId}{x y:AV}{v u:Value}(hx:AR β x v)(hy:AR β y u):
  al P m β H w (Gm P H t x y) ((do let z <-Builtin.copy_ #[t,t] ty #[v,u];pure (Next.value z):Sem Next).run P w):=by
 unfold Gm;refine al.nd λes hes=>?_;obtain⟨e,sz⟩:=es;obtain⟨hu,hs⟩:=oO hes;obtain⟨it,Q4,B2⟩:=lU hs;split
 ·rename_i id g off len sz1 id2 g2 off2 len2 sz2
  refine al.guard λhc=>al.nd λc S2=>?_;have c1:sz1=sz:=aO (an hc).1;have c2:sz2=sz:=aO (an hc).2;subst c1 c2;rw[AY]at S2;obtain⟨p,cap,o1,hp,hlen,d_,rfl,hex⟩:=hx;obtain⟨p2,cap2,o2,u7,j9,hcap2,rfl,hex2⟩:=hy;obtain⟨cells2,hD2,a3,a4,rfl⟩:=th S2;have O4:=hD2 hR u7;have hmin1:Nat.min len2 len<=len2:=Nat.min_le_left _ _;have hmul2:Nat.min len2 len*sz2<=len2*sz2:=lD _ hmin1;obtain⟨vs,Z1,Q3,M1⟩:=mU O4 off2 (Nat.mul (Nat.min len2 len) sz2) (by show off2+Nat.min len2 len*sz2<=_;omega);have hvl':vs.length=Nat.min len2 len*sz2:=Z1;have S1:((cells2.drop off2).take (Nat.mul (Nat.min len2 len) sz2)).length=Nat.min len2 len*sz2:=by rw[<-hvl'];exact Q3.length.symm
  unfold qN;cases W6:H.get id with
  |none=>exact trivial
  |some ob=>
   cases ob with
   |oth q=>exact trivial
   |ro q=>exact trivial
   |arr cells e' lo gen=>
    refine al.guard λhd=>?_;have d1:g=gen:=aO (an hd).1;have d2:=bA (an (an hd).2).1;rw[AY,bZ]at d2;have d2':off+Nat.min len2 len*sz2<=cells.length:=d2;have d3:lo<=gen:=bA (an (an hd).2).2;subst d1;rw[AY];intro S0;obtain⟨G0,hhi⟩:=nK hR W6 d3 (ai _) hp;obtain⟨cur,hg,I4,E3⟩:=Cn G0 (hhi rfl) Q3 (by rw[S1];exact d2');have B4:(Builtin.firstCells it.size (Nat.min len2 len) (.slice (some o2) len2 cap2)).run P w=.ok vs.toArray w:=by
     refine jJ (by rw[B2];exact hvl') (λj q hj=>?_) len2;have B0:=(List.getElem?_eq_some_iff.1 hj).1;have D4:o2=⟨p2.b,p2.o+off2,none⟩:=by
      rcases hex2 with h|h
      ·have h0':len2=0:=aa;rw[hvl',h0']at B0;have:Nat.min 0 len=0:=Nat.zero_min _;rw[this]at B0;omega
      exact h.1
     rw[D4];exact M1 j q hj
    have R3:(storeCells o1 vs).run P w=.ok () (w.setRow p.b (cur.toList.take (p.o+off+0)++vs++cur.toList.drop (p.o+off+0+vs.length)).toArray):=by
     by_cases h0:vs=[]
     ·subst h0;simp only[List.append_nil,List.length_nil,Nat.add_zero,sF,HV];rw[setRow_self w p.b cur e' (0,0) hg];rfl
     have D4:o1=⟨p.b,p.o+off,none⟩:=by
      rcases hex with h|h
      ·exfalso;apply h0;apply List.eq_nil_of_length_eq_zero;rw[hvl'];have h0':len=0:=aa;rw[h0'];have:Nat.min len2 0=0:=Nat.min_zero _;rw[this,Nat.zero_mul]
      exact h.1
     rw[D4];exact run_storeCells_at P p.b (p.o+off) e' vs 0 cur w hg I4 Q3.kJ
    have N3:=lX hR hm S0 W6 (.arr (iT cells off ((cells2.drop off2).take (Nat.mul (Nat.min len2 len) sz2))) e' g g) (β':=β)
     (w':=w.setRow p.b (cur.toList.take (p.o+off+0)++vs++cur.toList.drop (p.o+off+0+vs.length)).toArray)
     (λ_ _ _ h=>h) (λ_ _ _=>rfl) (by simp) (by simp) (by simp) (by simp)
     (λb _ hb=>setRow_other w p.b b _ (λhh=>hb g p ⟨d3,ai _⟩ hp hh.symm))
     (by rw[mj];exact PA (hR.obj id _ W6) hp E3 (by rw[jo _ _ _ (by rw[S1];exact d2')];exact hhi rfl))
     (λg0 p0 J5 hp0=>.inr ⟨g,p,⟨d3,ai _⟩,hp,by
      have:g0=g:=by have:=J5.1;have:=J5.2;omega
      subst this;rw[hp]at hp0;cases hp0;rfl⟩)
    refine⟨.int .i64 (Nat.min len2 len),_,.inl ?_,Out.one rfl N3⟩;simp[Builtin.copy_,run_underlying hu,Builtin.lenOf,sizeOf,typeInfo,Q4,B4,R3,goInt]
 ·rename_i id g off len sz1
  obtain⟨p,cap,o1,hp,hlen,d_,rfl,hex⟩:=hx;have hv:u=.slice none 0 0:=hy;subst hv;refine al.same hR (v:=.int .i64 0) ?_ rfl;simp[Builtin.copy_,run_underlying hu,Builtin.lenOf,Builtin.firstCells,sizeOf,typeInfo,Q4,storeCells,goInt]
 ·rename_i id2 g2 off2 len2 sz2
  obtain⟨p2,cap2,o2,u7,j9,hcap2,rfl,hex2⟩:=hy;have hv:v=.slice none 0 0:=hx;subst hv;refine al.same hR (v:=.int .i64 0) ?_ rfl;simp[Builtin.copy_,run_underlying hu,Builtin.lenOf,Builtin.firstCells,sizeOf,typeInfo,Q4,goInt,loadCells,loadCellsFrom]
 ·have hv:v=.slice none 0 0:=hx;have I5:u=.slice none 0 0:=hy;subst hv I5;refine al.same hR (v:=.int .i64 0) ?_ rfl;simp[Builtin.copy_,run_underlying hu,Builtin.lenOf,Builtin.firstCells,sizeOf,typeInfo,Q4,goInt]
 exact trivial
def GR(hR:Rel m β H w)(hm:m<=m){t:TypeId}{l c:AV}{v u:Value}(hl:AR β l v)(hc:AR β c u):
  al P m β H w (dY P H t l c) ((do let z <-Instr.makeSlice t v u;pure (Next.value z):Sem Next).run P w):=by
 unfold dY;refine al.nd λes hes=>al.nd λby_ hby=>al.nd λz hz=>vO hl trivial λkl n hn=>vO hc trivial λkc j hj=>al.nd λn' x_=>al.nd λj' y7=>al.guard λhg=>?_;obtain⟨e,sz⟩:=es;obtain⟨hu,hs⟩:=oO hes;obtain⟨ho,z0,it,Q4,hiz⟩:=nf hz;obtain⟨it2,hit2,B2⟩:=lU hs;obtain⟨it3,hit3,hbs⟩:=tS hby;simp only at Q4 hit2 hit3
 rw[Q4]at hit2 hit3;cases hit2;cases hit3
 have x_:=rX x_;have y7:=rX y7;subst hn hj x_ y7;have g1:n'<=j':=bA (an hg).1;have g2:j'<=1073741824:=bA (an (an hg).2).1;have g3:j'*by_<=140737488355328:=bA (an (an (an hg).2).2).1;have g4:cA (ofValue z).cells=sz:=aO (an (an (an hg).2).2).2;intro S0;have a_:H.nx+1<=m:=S0;have z9:CRs β (ofValue z).cells z.cells.toList:=(fg ho).cells (qx z0);have hzs:z.cells.size=sz:=by rw[<-g4,bZ];simpa using z9.length
 have L2:=run_make (P:=P) w t e it z hu Q4 hiz kl kc n' j' aa aa (by rw[hbs,<-Int.natCast_mul,Ac];omega) aa;have M3:CRs β (nq (ofValue z).cells j') (madeCells z.cells (j'*it.size)).toList:=by have:=PM z9 j';rw[hzs]at this;unfold madeCells;rw[B2,hzs];exact this
 have L5:=zF hR hm aa (nq (ofValue z).cells j') (madeCells z.cells (j'*it.size)) e M3 w rfl rfl rfl rfl #[];refine⟨.slice (some ⟨w.heap.size,0,none⟩) n' j',_,.inl ?_,Out.one ?_ (by simpa using L5)⟩
 ·simp only[Sem.run_bind,L2,Result.andThen_ok,uM];rfl
 refine⟨_,j',_,bm _ _ _ _,?_,g1,rfl,.inr ⟨rfl,?_⟩⟩
 ·show 0+n'*sz<=(nq (ofValue z).cells j').length;have:n'*sz<=j'*sz:=lD _ g1;rw[Cj,<-bZ,g4];omega
 show 0+0+j'*sz<=(madeCells z.cells (j'*it.size)).size+0;rw[size_madeCells,B2];omega
def DF:∀{l:List AV}{vs:List Value}{cs:List (Nat×Nat×Nat×Nat)},lp l=some cs->ARs β l vs ->
  vs.length=cs.length/\∀(k:Nat)(c:Nat×Nat×Nat×Nat)(v:Value),cs[k]?=some c->vs[k]?=some v->∃p,β c.1 c.2.1=some p/\c.2.2.1+c.2.2.2<=p.hi/\v=.pointer (some ⟨p.b,p.o+c.2.2.1,none⟩)
 |[],vs,cs,h,hr=>by
  cases h
  cases vs with
  |nil=>exact⟨rfl,λk c v hc _=>by simp at hc⟩
  |cons=>exact hr.elim
 |x::l,vs,cs,h,hr=>by
  cases vs with
  |nil=>exact hr.elim
  |cons v vs=>
   unfold lp at h;split at h
   ·rename_i heq
    cases heq
   ·rename_i id g off lim l' heq
    cases heq
    split at h
    ·rename_i r T3
     cases h
     obtain⟨h1,h2⟩:=DF T3 hr.2;refine⟨by simp[h1],λk c u hc hu=>?_⟩;cases k with
     |zero=>
      simp at hc hu
      subst hc hu;exact hr.1
     |succ k=>exact h2 k c u (by simpa using hc) (by simpa using hu)
    cases h
   cases h
def Mm{tm:PT AV}{a:Act}(J1:∀t,AR β (aG (tm.get t) aQ λv=>v) (a.tmps.getD t undef)):∀(l:List Operand),ARs β (evs l tm) (l.map a.eval)
 |[]=>trivial
 |x::l=>⟨cQ J1 x,Mm J1 l⟩
def uq:∀{cs:List (Nat×Nat×Nat×Nat)}{vs:List Value},vs.length=cs.length ->
  (∀(k:Nat)(c:Nat×Nat×Nat×Nat)(v:Value),cs[k]?=some c->vs[k]?=some v->∃p,β c.1 c.2.1=some p/\c.2.2.1+c.2.2.2<=p.hi/\v=.pointer (some ⟨p.b,p.o+c.2.2.1,none⟩))->ARs β (iD cs) vs
 |[],[],_,_=>trivial
 |(id,g,off,lim)::cs,v::vs,hl,h=>⟨h 0 _ _ rfl rfl,uq (by simpa using hl) λk c u hc hu=>h (k+1) c u (by simpa using hc) (by simpa using hu)⟩
 |[],_::_,hl,_=>by simp at hl
 |_::_,[],hl,_=>by simp at hl
def JT(hR:Rel m β H w){tm:PT AV}{a:Act}(J1:∀t,AR β (aG (tm.get t) aQ λv=>v) (a.tmps.getD t undef))(f:FuncId)(caps:Array Operand):
  al P m β H w (nd (lp (evs caps.toList tm)) "makeFunc - captured" λcs=>.val (.one (.o (.clo f cs))) H) ((do let z <-Instr.makeFunc (.func f) (#[].map a.eval) (caps.map a.eval);pure (Next.value z):Sem Next).run P w):=by
 refine al.nd λcs M3=>?_;obtain⟨h1,h2⟩:=DF M3 (Mm J1 caps.toList);refine al.same hR (v:=.func (.func f) #[] (caps.map a.eval)) (by simp[Instr.makeFunc]) ⟨caps.toList.map a.eval,by rw[<-Array.toList_map,HV],h1,h2⟩
def Mz(hR:Rel m β H w)(hm:m<=m)(t:TypeId):
  al P m β H w (.val (.one (.o (.mp H.nx))) (H.new (.oth (.map [] 0)))) ((do let z <-Instr.makeMap t none;pure (Next.value z):Sem Next).run P w):=by
 intro S0;have a_:H.nx+1<=m:=S0;have L5:=pO hR hm aa (.oth (.map [] 0)) ⟨w.heap.size,0,0,0⟩ (w':=w.alloc (.map #[] 0)) (ai _) (by simp) rfl rfl rfl
  (λb hb=>RowKit.Below.heap_alloc w _ b hb) (λg hg=>hg) ⟨_,bm _ _ _ _,[],heap_alloc_new w _,trivial⟩
 exact⟨.map (some w.heap.size),_,.inl rfl,Out.one ⟨_,bm _ _ _ _,rfl⟩ L5⟩
def Yk{f:AV}{args:List AV}{v:Value}{vs:List Value}(hf:AR β f v)(E7:ARs β args vs):
  al P m β H w (uv P f args) ((do let d <-Deferred.ofValue v vs.toArray;invoke d.target d.args:Sem Next).run P w):=by
 cases f with
 |one c=>
  cases c with
  |o q=>
   cases q<;>first
    |exact trivial
    |skip
   ·rename_i g caps
    obtain⟨cs,rfl,hl,hc⟩:=hf;refine al.guard λhb=>?_;refine⟨vs++cs,?_,E7.append (uq hl hc),hb⟩;simp[Deferred.ofValue,invoke]
   rename_i id
   obtain⟨p,hp,rfl⟩:=hf;exact⟨p,vs,hp,E7,by simp[Deferred.ofValue,invoke]⟩
  |b _=>exact trivial
  |i _ _=>exact trivial
 |agg _=>exact trivial
 |tup _=>exact trivial
 |any=>exact trivial
end
def FE{α:Type}{x:AV}{f:List UInt8->Option α}{r:α}(h:lC x none f=some r):∃s,x=.one (.o (.str s))/\f s=some r:=by
 cases x with
 |one c=>
  cases c with
  |o q=>cases q<;>first|exact⟨_,rfl,h⟩|cases h
  |b _=>cases h
  |i _ _=>cases h
 |agg _=>cases h
 |tup _=>cases h
 |any=>cases h
def FG{x:AV}{f:List UInt8->Bool}(h:lC x false f=true):∃s,x=.one (.o (.str s))/\f s=true:=by
 cases x with
 |one c=>
  cases c with
  |o q=>cases q<;>first|exact⟨_,rfl,h⟩|cases h
  |b _=>cases h
  |i _ _=>cases h
 |agg _=>cases h
 |tup _=>cases h
 |any=>cases h
def Er{α:Type}{x:AV}{f:IntKind->Int->Option α}{r:α}(h:gW x none f=some r):∃k n,x=.one (.i k n)/\f k n=some r:=by
 cases x with
 |one c=>
  cases c with
  |o q=>cases h
  |b _=>cases h
  |i _ _=>exact⟨_,_,rfl,h⟩
 |agg _=>cases h
 |tup _=>cases h
 |any=>cases h
def Es{x:AV}{f:IntKind->Int->Bool}(h:gW x false f=true):∃k n,x=.one (.i k n)/\f k n=true:=by
 cases x with
 |one c=>
  cases c with
  |o q=>cases h
  |b _=>cases h
  |i _ _=>exact⟨_,_,rfl,h⟩
 |agg _=>cases h
 |tup _=>cases h
 |any=>cases h
def fi{α γ:Type}{x:Option α}{f:α->Option γ}{r:γ}(h:aG x none f=some r):∃a,x=some a/\f a=some r:=by
 cases x with
 |none=>cases h
 |some a=>exact⟨a,rfl,h⟩
def EU{α:Type}{x:Option α}{f:α->Bool}(h:aG x false f=true):∃a,x=some a/\f a=true:=by
 cases x with
 |none=>cases h
 |some a=>exact⟨a,rfl,h⟩
section
variable{P:Program}{m:Nat}{β:Pl}{H:Hp}{w:World}
def uy(kt:TypeId):
  match bY P kt with
  |0=>P.underlying kt=some .string
  |1=>∃k,P.underlying kt=some (.int k)
  |2=>∃d,P.underlying kt=some d/\∀a b,Instr.sameNow d a b=none
  |_=>True:=by
 unfold bY;cases h:P.underlying kt with
 |none=>exact trivial
 |some d=>cases d<;>first|exact trivial|rfl|exact⟨_,rfl⟩|exact⟨_,rfl,λa b=>by cases a<;>cases b<;>rfl⟩
def qP(empty:Bool)(d:Nat){t:TypeId}(v:Value)(h:P.underlying t=some .string\/∃k,P.underlying t=some (.int k)):(Instr.checkKey empty (d+1) t v).run P w=.ok () w:=by rcases h with h|⟨k,h⟩<;>simp[Instr.checkKey,run_underlying h]
def wz{empty:Bool}{kt:TypeId}{k:AV}{v:Value}(hk:AR β k v)(h:jw P empty kt k=some ()):(Instr.checkKey empty 10000 kt v).run P w=.ok () w:=by
 have z6:=uy (P:=P) kt;unfold jw at h;match hn:bY P kt with
 |0=>rw[hn]at z6;exact qP empty 9999 v (.inl z6)
 |1=>rw[hn]at z6;exact qP empty 9999 v (.inr z6)
 |2=>rw[hn]at h;obtain⟨u,hu,hr⟩:=fi h;rw[AV.lY hu hk];exact uG hr w
 |n+3=>rw[hn]at h;cases h
def EqR(P:Program)(kt:TypeId)(v u:Value)(b:Bool):Prop:=
 match bY P kt with
 |0=>∃x y,v=.string x/\u=.string y/\b=(x==y)
 |1=>∃k x y,v=.int k x/\u=.int k y/\b=(x==y)
 |2=>aH P (Op.equal kt v u)=some b
 |_=>False
def bytes_beq(x y:List UInt8):(ByteArray.mk x.toArray==ByteArray.mk y.toArray)=(x==y):=by show(x.toArray==y.toArray)=_;simp
def JC{kt:TypeId}{a b:AV}{v u:Value}(ha:AR β a v)(hb:AR β b u){r:Bool}(h:lM P kt a b=some r):EqR P kt v u r:=by
 unfold lM at h;unfold EqR;match hn:bY P kt with
 |0=>
  rw[hn]at h;obtain⟨x,hx,h1⟩:=FE h;obtain⟨y,hy,h2⟩:=FE h1;subst hx hy;cases h2
  exact⟨_,_,ha,hb,by rw[fF,bytes_beq]⟩
 |1=>
  rw[hn]at h;obtain⟨k,x,hx,h1⟩:=Er h;obtain⟨k',y,hy,h2⟩:=Er h1;subst hx hy;rw[cW]at h2;split at h2
  ·rename_i hk
   have:=kY hk;subst this;cases h2
   exact⟨k,x,y,ha,hb,pv _ _⟩
  cases h2
 |2=>rw[hn]at h;obtain⟨x,hx,h1⟩:=fi h;obtain⟨y,hy,h2⟩:=fi h1;rw[AV.lY hx ha,AV.lY hy hb];exact h2
 |n+3=>rw[hn]at h;cases h
inductive Scan(P:Program)(kt:TypeId)(v:Value):List MapEntry->Option Nat->Prop
 |nil:Scan P kt v [] none
 |Q4 {e:MapEntry} {es:List MapEntry}:EqR P kt v e.key true->Scan P kt v (e::es) (some 0)
 |miss {e:MapEntry} {es:List MapEntry} {r:Option Nat}:EqR P kt v e.key false->Scan P kt v es r->Scan P kt v (e::es) (r.map (·+1))
def Scan.now{kt:TypeId}{v:Value}{d:TypeDesc}(hd:P.underlying kt=some d)(hk:bY P kt<2){ms:List MapEntry}{r:Option Nat}(h:Scan P kt v ms r):∀j,
  match r with
  |none=>Instr.findNow d v ms j=some none
  |some i=>∃e,ms[i]?=some e/\Instr.findNow d v ms j=some (some (j+i,e.val)):=by
 have key:∀u b,EqR P kt v u b->Instr.sameNow d v u=some b:=by
  intro u b hb;have z6:=uy (P:=P) kt;unfold EqR at hb;match hn:bY P kt with
  |0=>rw[hn]at hb z6;rw[hd]at z6;cases z6;obtain⟨x,y,rfl,rfl,rfl⟩:=hb;rfl
  |1=>rw[hn]at hb z6;obtain⟨k,z6⟩:=z6;rw[hd]at z6;cases z6;obtain⟨k,x,y,rfl,rfl,rfl⟩:=hb;simp[Instr.sameNow]
  |n+2=>omega
 induction h with
 |nil=>intro j;rfl
 |Q4 he=>intro j;exact⟨_,rfl,by simp[Instr.findNow,key _ _ he]⟩
 |miss he _ ih=>
  rename_i e es r _
  intro j;have:=ih (j+1);cases r with
  |none=>simpa [Instr.findNow,key _ _ he]using this
  |some i=>
   obtain⟨e',h1,h2⟩:=this;refine⟨e',by simpa using h1,?_⟩;simp only[Instr.findNow,key _ _ he,h2];congr 3
   omega
def Scan.aaB{kt:TypeId}{v:Value}(hk:bY P kt=2){ms:List MapEntry}{r:Option Nat}(h:Scan P kt v ms r):∀j,
  match r with
  |none=>(Instr.findAsking kt v ms j).run P w=.ok none w
  |some i=>∃e,ms[i]?=some e/\(Instr.findAsking kt v ms j).run P w=.ok (some (j+i,e.val)) w:=by
 have key:∀u b,EqR P kt v u b->(Op.equal kt v u).run P w=.ok b w:=by intro u b hb;unfold EqR at hb;rw[hk]at hb;exact uG hb w
 induction h with
 |nil=>intro j;rfl
 |Q4 he=>intro j;exact⟨_,rfl,by simp[Instr.findAsking,key _ _ he]⟩
 |miss he _ ih=>
  rename_i e es r _
  intro j;have:=ih (j+1);cases r with
  |none=>simpa [Instr.findAsking,key _ _ he]using this
  |some i=>
   obtain⟨e',h1,h2⟩:=this;refine⟨e',by simpa using h1,?_⟩;simp only[Instr.findAsking,Sem.run_bind,key _ _ he,Result.andThen_ok,h2,Bool.false_eq_true,if_false];congr 3
   omega
def Scan.run{kt:TypeId}{v:Value}{ms:List MapEntry}{r:Option Nat}(h:Scan P kt v ms r)(hk:bY P kt<=2):
  match r with
  |none=>(Instr.findKey kt v ms).run P w=.ok none w
  |some i=>∃e,ms[i]?=some e/\(Instr.findKey kt v ms).run P w=.ok (some (i,e.val)) w:=by
 have z6:=uy (P:=P) kt;obtain⟨d,hd⟩:∃d,P.underlying kt=some d:=by
  match hn:bY P kt with
  |0=>rw[hn]at z6;exact⟨_,z6⟩
  |1=>rw[hn]at z6;obtain⟨k,z6⟩:=z6;exact⟨_,z6⟩
  |2=>rw[hn]at z6;obtain⟨d,z6,_⟩:=z6;exact⟨_,z6⟩
  |n+3=>omega
 rcases cL (bY P kt) 2 with h2|h2
 ·have:=Scan.now hd h2 h 0;cases r with
  |none=>simp only at this |-;simp[Instr.findKey,run_underlying hd,this]
  |some i=>obtain⟨e,h1,h3⟩:=this;exact⟨e,h1,by simp[Instr.findKey,run_underlying hd,h3]⟩
 have B3:bY P kt=2:=aa;rw[B3]at z6;obtain⟨d',V',hnone⟩:=z6;rw[hd]at V';cases V';cases ms with
 |nil=>
  cases h
  simp[Instr.findKey,run_underlying hd,Instr.findNow]
 |cons e es=>
  have hn:Instr.findNow d v (e::es) 0=none:=by simp[Instr.findNow,hnone]
  have:=Scan.aaB (w:=w) B3 h 0;cases r with
  |none=>simp only at this |-;simp[Instr.findKey,run_underlying hd,hn,this]
  |some i=>obtain⟨e,h1,h3⟩:=this;exact⟨e,h1,by simp[Instr.findKey,run_underlying hd,hn,h3]⟩
def jk{kt:TypeId}{empty:Bool}{k:AV}(h:jw P empty kt k=some ()):bY P kt<=2:=by
 unfold jw at h;match hn:bY P kt with
 |0=>omega
 |1=>omega
 |2=>omega
 |n+3=>rw[hn]at h;cases h
def rE{kt:TypeId}{k:AV}{v:Value}(hk:AR β k v):∀{l:List cC}{ms:List MapEntry},ERs β l ms->∀{r:Option cC},mI P kt k l=some r ->
  ∃i,Scan P kt v ms i/\match r with|none=>i=none|some e=>∃j,i=some j/\l[j]?=some e
 |[],[],_,r,h=>by cases h;exact⟨none,.nil,rfl⟩
 |a::l,b::ms,hE,r,h=>by
  have h':aG (lM P kt k a.key) none (λb=>ifE b (some (some a)) (mI P kt k l))=some r:=h;obtain⟨q,hq,h'⟩:=fi h';have he:=JC hk hE.1.1 hq;rw[cW]at h';cases q with
  |true=>
   cases h'
   exact⟨some 0,.Q4 he,0,rfl,rfl⟩
  |false=>
   obtain⟨i,hs,hi⟩:=rE hk hE.2 h';refine⟨_,.miss he hs,?_⟩;cases r with
   |none=>simp only at hi |-;rw[hi];rfl
   |some e=>obtain⟨j,rfl,hj⟩:=hi;exact⟨j+1,rfl,by simpa using hj⟩
 |[],_::_,hE,_,_=>hE.elim
 |_::_,[],hE,_,_=>hE.elim
def ERs.at{l:List cC}{ms:List MapEntry}(h:ERs β l ms){i:Nat}{e:cC}{me:MapEntry}(h1:l[i]?=some e)(h2:ms[i]?=some me):
  AR β e.key me.key/\e.key.cE=true/\AR β e.val me.val/\e.val.cE=true/\me.born=e.born:=by
 induction l generalizing ms i with
 |nil=>simp at h1
 |cons a l ih=>
  cases ms with
  |nil=>exact h.elim
  |cons b ms=>
   cases i with
   |zero=>simp at h1 h2;subst h1 h2;exact h.1
   |succ i=>exact ih h.2 (by simpa using h1) (by simpa using h2)
def vd{v:AV}{u:Value}(h:AR β v u)(hn:v.cE=true):TR β (QO v) u:=by
 cases v with
 |one c=>exact h
 |agg l=>exact h
 |tup l=>cases hn
 |any=>cases hn
def mN(hR:Rel m β H w){ok:Bool}{v:AV}{u:Value}{b:Bool}(hv:AR β v u){r:Result Next}(hr:r=.ok (.value (if ok then .tuple #[u,.bool b]else u)) w):al P m β H w (bO H ok v b) r:=by
 cases ok with
 |false=>exact al.same hR hr hv
 |true=>refine al.guard λhn=>al.same hR hr ⟨[u,.bool b],⟨vd hv hn,rfl,trivial⟩,rfl⟩
def rD{kt:TypeId}(hkt:bY P kt=1)(n:Int):∀{es:List cC}{k:List (Int×AV)},ql es=some k->∃e,mI P kt (.one (.i .i64 n)) es=some e/\e.map cC.val=fq n k
 |[],k,h=>by cases h;exact⟨none,rfl,rfl⟩
 |e::l,k,h=>by
  unfold ql at h;split at h
  ·rename_i n' r hk hr
   cases h
   obtain⟨q,h1,h2⟩:=rD hkt n hr;have e0:mI P kt (.one (.i .i64 n)) (e::l)=aG (lM P kt (.one (.i .i64 n)) e.key) none λb=>ifE b (some (some e)) (mI P kt (.one (.i .i64 n)) l):=rfl;have e1:lM P kt (.one (.i .i64 n)) e.key=some (iEq n n'):=by unfold lM;rw[hkt,hk];rfl
   rw[e0,e1];show∃q,ifE (iEq n n') (some (some e)) (mI P kt (.one (.i .i64 n)) l)=some q/\q.map cC.val=if n=n' then some e.val else fq n r
   rw[pv];by_cases hn:n=n'
   ·rw[beq_iff_eq.2 hn,ad hn];exact⟨_,rfl,rfl⟩
   rw[aF hn,ab hn];exact⟨q,h1,h2⟩
  cases h
def Rw(hR:Rel m β H w){t kt et:TypeId}(ht:kg P t=some (kt,et)){z:Value}(hz:aW P et=some z){mp k:AV}{v u:Value}(hm:AR β mp v)(hk:AR β k u)(ok:Bool):
  al P m β H w (bR P H kt (ofValue z) mp k ok) ((do let y <-Instr.lookup t v u ok;pure (Next.value y):Sem Next).run P w):=by
 have hu:=GS ht;obtain⟨ho,z0,it,Q4,hiz⟩:=nf hz;unfold bR;split
 ·refine al.nd λ_ z7=>?_;have hc:=wz (P:=P) (w:=w) hk z7;have hv:v=.map none:=hm;subst hv;have hf:(Instr.findKey kt u []).run P w=.ok none w:=Scan.run .nil (jk z7);refine mN hR (u:=z) (fg ho) ?_;simp[Instr.lookup,run_underlying hu,hc,hf,fK hz]
 ·rename_i id
  obtain⟨p,hp,rfl⟩:=hm;split
  ·rename_i es clock hg
   obtain⟨ms,h1,h2⟩:=ta hR hg hp;refine al.nd λ_ z7=>?_;have hem:es.isEmpty=ms.isEmpty:=by have:=h2.length;cases es<;>cases ms<;>first|rfl|simp at this
   have hc:=wz (P:=P) (w:=w) hk z7;rw[hem]at hc;split
   ·rename_i e hf
    obtain⟨i,hs,j,rfl,hj⟩:=rE hk h2 hf;obtain⟨me,hme,L2⟩:=Scan.run (w:=w) hs (jk z7);refine mN hR (u:=me.val) (h2.at hj hme).2.2.1 ?_;simp[Instr.lookup,run_underlying hu,dV h1,hc,L2]
   ·rename_i hf
    obtain⟨i,hs,rfl⟩:=rE hk h2 hf;have L2:=Scan.run (w:=w) hs (jk z7);simp only at L2
    refine mN hR (u:=z) (fg ho) ?_;simp[Instr.lookup,run_underlying hu,dV h1,hc,L2,fK hz]
   exact trivial
  ·rename_i l hg
   obtain⟨q,hq,es,clock,ms,h1,h2,kl,hkl,G4⟩:=hR.obj _ _ hg;rw[hp]at hq;cases hq;refine al.guard λz6=>?_;have hkt:=aO z6;cases k with
   |one c=>
    cases c with
    |i kd n=>
     refine al.guard λhsk=>?_;have hkd:=kY hsk;subst hkd;obtain⟨e,L3,n_⟩:=rD (P:=P) hkt n hkl;have z7:jw P ms.isEmpty kt (.one (.i .i64 n))=some ():=by unfold jw;rw[hkt];rfl
     have hc:=wz (P:=P) (w:=w) hk z7;rw[G4]at n_;show al P m β H w (aG (fq n l) _ _) _;rw[<-n_];cases e with
     |some e=>obtain⟨i,hs,j,rfl,hj⟩:=rE hk h2 L3;obtain⟨me,hme,L2⟩:=Scan.run (w:=w) hs (jk z7);refine mN hR (u:=me.val) (h2.at hj hme).2.2.1 ?_;simp[Instr.lookup,run_underlying hu,dV h1,hc,L2]
     |none=>
      obtain⟨i,hs,rfl⟩:=rE hk h2 L3;have L2:=Scan.run (w:=w) hs (jk z7);simp only at L2
      refine mN hR (u:=z) (fg ho) ?_;simp[Instr.lookup,run_underlying hu,dV h1,hc,L2,fK hz]
    |b _=>exact trivial
    |o _=>exact trivial
   |agg _=>exact trivial
   |tup _=>exact trivial
   |any=>exact trivial
  exact trivial
 exact trivial
end
section
variable{P:Program}{m:Nat}{β:Pl}{H:Hp}{w:World}
def pP(hR:Rel m β H w)(hm:m<=m)(S0:H.nx<=m){id:Nat}{x:CK}(ho:H.get id=some (.oth x))(x':CK){p:Place}(hp:β id 0=some p)(w0:World)(h0:w0.heap=w.heap)(hos:w0.os=w.os)(a9:w0.tape=w.tape)(Z3:w0.output=w.output)
  (o:Obj) (hx:∀w':World,w'.heap[p.b]?=some o->Ar β w' p x'):
  Rel m β (H.mod id (.oth x')) { w0 with heap:=w0.heap.setIfInBounds p.b o }/\Ext β H w β (H.mod id (.oth x')) { w0 with heap:=w0.heap.setIfInBounds p.b o }:=by
 have B0:p.b<w.heap.size:=by obtain⟨q,hq,hqx⟩:=hR.obj id _ ho;rw[hp]at hq;cases hq;exact hqx.lt
 refine lX hR hm S0 ho (.oth x') (λ_ _ _ h=>h) (λ_ _ _=>rfl) (by simp[h0]) hos a9 Z3 ?_ ?_ ?_
 ·intro b hb hn;have:p.b≠b:=hn 0 p rfl hp;show(w0.heap.setIfInBounds p.b o)[b]?=_;rw[Array.getElem?_setIfInBounds_ne this,h0]
 ·refine⟨p,hp,hx _ ?_⟩;show(w0.heap.setIfInBounds p.b o)[p.b]?=_;rw[Array.getElem?_setIfInBounds_self,h0,ad B0]
 intro g q hg hq;have Q2:g=0:=hg;subst Q2;exact .inr ⟨0,p,rfl,hp,by rw[hp]at hq;cases hq;rfl⟩
def Hm(n:Nat)(x y:ByteArray):Instr.sameBits n (.string x) (.string y)=(x==y):=by cases n<;>rfl
def Hl(n:Nat)(k k':IntKind)(x y:Int):Instr.sameBits n (.int k x) (.int k' y)=(k==k'&&x==y):=by cases n<;>rfl
def Nd{kt:TypeId}{a b:AV}{v u:Value}(ha:AR β a v)(hb:AR β b u)(h:sameKey P kt a b=true):Instr.sameBits 10000 v u=true:=by
 unfold sameKey at h;match hn:bY P kt with
 |0=>rw[hn]at h;obtain⟨x,hx,h1⟩:=FG h;obtain⟨y,hy,h2⟩:=FG h1;subst hx hy;have ha':v=.string ⟨x.toArray⟩:=ha;have E8:u=.string ⟨y.toArray⟩:=hb;subst ha' E8;rw[Hm,bytes_beq,<-fF];exact h2
 |1=>rw[hn]at h;obtain⟨k,x,hx,h1⟩:=Es h;obtain⟨k',y,hy,h2⟩:=Es h1;subst hx hy;have ha':v=.int k x:=ha;have E8:u=.int k' y:=hb;subst ha' E8;obtain⟨h3,h4⟩:=an h2;have:=kY h3;subst this;rw[pv]at h4;rw[Hl];simpa using h4
 |n+2=>rw[hn]at h;obtain⟨x,hx,h1⟩:=EU h;obtain⟨y,hy,h2⟩:=EU h1;rw[AV.lY hx ha,AV.lY hy hb];exact h2
def PI{kt:TypeId}{k x:AV}{v u:Value}(hk:AR β k v)(X9:k.cE=true)(hx:AR β x u)(C8:x.cE=true):∀{l:List cC}{ms:List MapEntry},ERs β l ms->∀{r:Bool×List cC},se P kt k x l=some r ->
  match r.1 with
  |false=>Scan P kt v ms none
  |true=>∃i me,Scan P kt v ms (some i)/\ms[i]?=some me/\Instr.sameBits 10000 me.key v=true/\ERs β r.2 (ms.modify i λe=>{ e with key:=v,val:=u })
 |[],[],_,r,h=>by cases h;exact .nil
 |a::l,b::ms,hE,r,h=>by
  have h':aG (lM P kt k a.key) none (λb=>ifE b (ifE (sameKey P kt a.key k) (some (true,⟨k,x,a.born⟩::l)) none) (aG (se P kt k x l) none λr=>some (r.1,a::r.2)))=some r:=h;obtain⟨q,hq,h1⟩:=fi h';have he:=JC hk hE.1.1 hq;rw[cW]at h1;cases q with
  |true=>
   rw[ad rfl,cW]at h1;split at h1
   ·rename_i hs
    cases h1
    refine⟨0,b,.Q4 he,rfl,Nd hE.1.1 hk hs,?_⟩;exact⟨⟨hk,X9,hx,C8,hE.1.2.2.2.2⟩,hE.2⟩
   cases h1
  |false=>
   obtain⟨r',T3,h2⟩:=fi h1;cases h2
   have:=PI hk X9 hx C8 hE.2 T3;obtain⟨b1,l1⟩:=r';cases b1 with
   |false=>exact .miss he this
   |true=>obtain⟨i,me,h3,h4,h5,h6⟩:=this;refine⟨i+1,me,.miss he h3,by simpa using h4,h5,?_⟩;simp only[List.modify_succ_cons];exact⟨hE.1,h6⟩
 |[],_::_,hE,_,_=>hE.elim
 |_::_,[],hE,_,_=>hE.elim
def ERs.append{l l':List cC}{ms ms':List MapEntry}(h:ERs β l ms)(h':ERs β l' ms'):ERs β (l++l') (ms++ms'):=by
 induction l generalizing ms with
 |nil=>cases ms with|nil=>exact h'|cons=>exact h.elim
 |cons c l ih=>cases ms with|nil=>exact h.elim|cons v ms=>exact⟨h.1,ih h.2⟩
def wh(hR:Rel m β H w)(hm:m<=m){t kt et:TypeId}(ht:kg P t=some (kt,et)){mp k x:AV}{v u y:Value}(hmp:AR β mp v)(hk:AR β k u)(hx:AR β x y):
  al P m β H w (bE P H kt mp k x) ((do Instr.mapUpdate t v u y;pure Next.skip:Sem Next).run P w):=by
 have hu:=GS ht;unfold bE;split
 ·rename_i id
  obtain⟨p,hp,rfl⟩:=hmp;split
  ·rename_i es clock hg
   obtain⟨ms,h1,h2⟩:=ta hR hg hp;refine al.nd λ_ z7=>al.guard λz0=>al.nd λr hr=>?_;have hc:=wz (P:=P) (w:=w) hk z7;have S4:=PI hk (an z0).1 hx (an z0).2 h2 hr;obtain⟨b,l⟩:=r;cases b with
   |false=>
    have L2:=Scan.run (w:=w) S4 (jk z7);simp only at L2
    intro S0;have Y3:∀o,(setObj p.b o).run P w=_:=λo=>MapKept.run_setObj_map o h1;refine⟨undef,_,.inr ⟨?_,rfl⟩,Out.one ⟨[],trivial,rfl⟩ (pP hR hm S0 hg _ hp w rfl rfl rfl rfl (.map (ms.toArray.push { key:=u,val:=y,born:=clock }) (clock+1)) ?_)⟩
    ·simp[Instr.mapUpdate,run_underlying hu,dV h1,hc,L2,Y3]
    intro w' N4;refine⟨ms++[{ key:=u,val:=y,born:=clock }],by rw[N4];simp,?_⟩;exact h2.append ⟨⟨hk,(an z0).1,hx,(an z0).2,rfl⟩,trivial⟩
   |true=>
    obtain⟨i,me,h3,h4,h5,h6⟩:=S4;obtain⟨me',hme',L2⟩:=Scan.run (w:=w) h3 (jk z7);intro S0;have Y3:∀o,(setObj p.b o).run P w=_:=λo=>MapKept.run_setObj_map o h1;refine⟨undef,_,.inr ⟨?_,rfl⟩,Out.one ⟨[],trivial,rfl⟩ (pP hR hm S0 hg _ hp w rfl rfl rfl rfl (.map (ms.toArray.modify i λe=>{ e with key:=u,val:=y }) clock) ?_)⟩
    ·simp[Instr.mapUpdate,run_underlying hu,dV h1,hc,L2,h4,Instr.keyThatStays,h5,Y3]
    intro w' N4;exact⟨ms.modify i λe=>{ e with key:=u,val:=y },by rw[N4];simp,h6⟩
  exact trivial
 exact trivial
def Wo(hR:Rel m β H w)(hm:m<=m){t kt et:TypeId}(ht:kg P t=some (kt,et)){x:AV}{v:Value}(hx:AR β x v):
  al P m β H w (kE H x) ((do let y <-Instr.range t v;pure (Next.value y):Sem Next).run P w):=by
 have hu:=GS ht;unfold kE;split
 ·have hv:v=.map none:=hx;subst hv;intro S0;have a_:H.nx+1<=m:=S0;have L5:=pO hR hm aa (.oth (.iter none 0 [] 0)) ⟨w.heap.size,0,0,0⟩ (w':=w.alloc (.mapIter none 0 #[] 0)) (ai _) (by simp) rfl rfl rfl
   (λb hb=>RowKit.Below.heap_alloc w _ b hb) (λg hg=>hg) ⟨_,bm _ _ _ _,heap_alloc_new w _⟩
  refine⟨.pointer (some ⟨w.heap.size,0,none⟩),_,.inl ?_,Out.one ⟨_,bm _ _ _ _,rfl⟩ L5⟩;simp only[Sem.run_bind,run_range_nilMap w t kt et hu,Result.andThen_ok];rfl
 ·rename_i id
  obtain⟨p,hp,rfl⟩:=hx;split
  ·rename_i es clock hg
   obtain⟨ms,h1,h2⟩:=ta hR hg hp;intro S0;have a_:H.nx+1<=m:=S0;have Q0:¬(id=H.nx/\(0:Nat)=0):=by have:=hR.Uz hg;omega
   have L5:=pO hR hm aa (.oth (.iter (some id) clock [] clock)) ⟨w.heap.size,0,0,0⟩ (w':=w.alloc (.mapIter (some p.b) clock #[] clock)) (ai _) (by simp) rfl rfl rfl
    (λb hb=>RowKit.Below.heap_alloc w _ b hb) (λg hg=>hg) ⟨_,bm _ _ _ _,p,by rw[cD _ _ _ _ Q0];exact hp,heap_alloc_new w _⟩
   refine⟨.pointer (some ⟨w.heap.size,0,none⟩),_,.inl ?_,Out.one ⟨_,bm _ _ _ _,rfl⟩ L5⟩;simp only[Sem.run_bind,run_range_map w t kt et p.b ms.toArray clock hu h1,Result.andThen_ok];rfl
  exact trivial
 exact trivial
def ERs.filter{f:cC->Bool}{g:MapEntry->Bool}(hfg:∀e me,me.born=e.born->f e=g me):∀{l:List cC}{ms:List MapEntry},ERs β l ms->ERs β (l.filter f) (ms.filter g)
 |[],[],_=>trivial
 |a::l,b::ms,h=>by
  have h1:=hfg a b h.1.2.2.2.2;have ih:=ERs.filter hfg h.2;rw[List.filter_cons,List.filter_cons,h1];cases g b with
  |true=>exact⟨h.1,ih⟩
  |false=>exact ih
 |[],_::_,h=>h.elim
 |_::_,[],h=>h.elim
def ERs.all{f:cC->Bool}{g:MapEntry->Bool}(hfg:∀e me,me.born=e.born->f e=g me):∀{l:List cC}{ms:List MapEntry},ERs β l ms->l.all f=ms.all g
 |[],[],_=>rfl
 |a::l,b::ms,h=>by rw[List.all_cons,List.all_cons,hfg a b h.1.2.2.2.2,ERs.all hfg h.2]
 |[],_::_,h=>h.elim
 |_::_,[],h=>h.elim
def ERs.isEmpty{l:List cC}{ms:List MapEntry}(h:ERs β l ms):l.isEmpty=ms.isEmpty:=by have:=h.length;cases l<;>cases ms<;>first|rfl|simp at this
def BJ(hR:Rel m β H w){id:Nat}{mm:Option Nat}{since last:Nat}{seen:List Nat}(h:H.get id=some (.oth (.iter mm since seen last))){p:Place}(hp:β id 0=some p):
  match mm with
  |none=>w.heap[p.b]?=some (.mapIter none since seen.toArray last)
  |some i=>∃q,β i 0=some q/\w.heap[p.b]?=some (.mapIter (some q.b) since seen.toArray last):=by
 obtain⟨q,hq,h1⟩:=hR.obj id _ h;rw[hp]at hq;cases hq;cases mm with
 |none=>exact h1
 |some i=>exact h1
def tU{r b since last clock:Nat}{seen:List Nat}{ms:List MapEntry}(ty:TypeId)(h1:w.heap[r]?=some (.mapIter (some b) since seen.toArray last))(h2:w.heap[b]?=some (.map ms.toArray clock))
  (hc:(!seen.isEmpty&&!ms.isEmpty&&ms.all (λe=>decide (e.born>=last)))=false) (hold:∀e∈ms.filter (λe=>!seen.contains e.born),e.born<since):
  (ms.filter (λe=>!seen.contains e.born)=[]->(Instr.next (.pointer (some ⟨r,0,none⟩)) false ty).run P w=.ok (.tuple #[.bool false]) w) /\
  (ms.filter (λe=>!seen.contains e.born)≠[]->∃(j:Nat)(e:MapEntry)(w1:World),(ms.filter (λe=>!seen.contains e.born))[j]?=some e/\w1.heap=w.heap/\w1.os=w.os/\w1.tape=w.tape/\w1.output=w.output /\
   (Instr.next (.pointer (some ⟨r,0,none⟩)) false ty).run P w=.ok (.tuple #[.bool true,e.key,e.val]) { w1 with heap:=w1.heap.setIfInBounds r (.mapIter (some b) since (seen.toArray.push e.born) clock) }):=by
 have o_:(!seen.toArray.isEmpty&&!ms.toArray.isEmpty&&ms.toArray.all (λe=>decide (e.born>=last)))=false:=by simpa using hc
 have hf:ms.toArray.filter (λe=>!seen.toArray.contains e.born)=(ms.filter (λe=>!seen.contains e.born)).toArray:=by simp
 simp only[Instr.next,Sem.run_bind,lB h1,dV h2,Result.andThen_ok,o_,Bool.false_eq_true,if_false,hf];generalize ms.filter (λe=>!seen.contains e.born)=L at hold;have e1:L.toArray.filter (λx=>decide (x.born<since))=L.toArray:=Array.filter_eq_self.2 (λx hx=>by simpa using hold x (by simpa using hx));have e2:L.toArray.filter (λx=>decide (x.born>=since))=#[]:=by
  rw[Array.filter_eq_empty_iff];intro x hx;have:=hold x (by simpa using hx);simp
  omega
 simp only[e1,e2,Array.append_empty];refine⟨λh0=>?_,λh0=>?_⟩
 ·subst h0;simp[choose,Sem.run,Question.forced]
 have Q0:L.toArray.isEmpty=false:=by cases L with|nil=>exact absurd rfl h0|cons a l=>rfl
 have C5:0<L.length:=by cases L with|nil=>exact absurd rfl h0|cons a l=>simp
 simp only[Q0,Bool.false_eq_true,if_false,Array.empty_append,Array.size_map];have hch:∃(j:Nat)(w1:World),j<L.length/\w1.heap=w.heap/\w1.os=w.os/\w1.tape=w.tape/\w1.output=w.output/\(choose (Question.mapNext L.toArray.size)).run P w=.ok j w1:=by
  by_cases hf:L.length<=1
  ·exact⟨0,w,C5,rfl,rfl,rfl,rfl,by simp[choose,Sem.run,Question.forced,hf]⟩
  exact⟨_,w.drew,Nat.mod_lt _ C5,rfl,rfl,rfl,rfl,by simp only[choose,Sem.run,Question.forced,sA,bI,hf,if_false,Question.cut];rfl⟩
 obtain⟨j,w1,hj,a1,a2,a3,a4,L2⟩:=hch;refine⟨j,L[j],w1,aA hj,a1,a2,a3,a4,?_⟩;have Y3:∀o',(setObj r o').run P w1=.ok () { w1 with heap:=w1.heap.setIfInBounds r o' }:=λo'=>by simp only[setObj,Sem.run,a1,h1]
 simp only[L2,Result.andThen_ok];have D3:(L.toArray.map some)[j]?=some (some L[j]):=by simp[hj]
 simp only[D3,Sem.run_bind,Y3,Result.andThen_ok];rfl
def YY(hR:Rel m β H w)(hm:m<=m){x:AV}{v:Value}(hx:AR β x v)(ty:TypeId):
  al P m β H w (ib H x) ((do let y <-Instr.next v false ty;pure (Next.value y):Sem Next).run P w):=by
 unfold ib;split
 ·rename_i r
  obtain⟨p,hp,rfl⟩:=hx;split
  ·rename_i a b c hg
   have h1:=BJ hR hg hp;simp only at h1
   refine al.same hR (v:=.tuple #[.bool false]) ?_ ⟨[.bool false],⟨rfl,trivial⟩,rfl⟩;simp[Instr.next,lB h1]
  ·rename_i mi since seen last hg
   obtain⟨q,hq,h1⟩:=BJ hR hg hp;split
   ·rename_i es clock hgm
    obtain⟨ms,h2,hE⟩:=ta hR hgm hq;refine al.guard λhcond=>?_;have hc:(!seen.isEmpty&&!ms.isEmpty&&ms.all (λe=>decide (e.born>=last)))=false:=by
     rw[<-hE.isEmpty,<-ERs.all (f:=λe=>Nat.ble last e.born) (g:=λe=>decide (e.born>=last)) (λe me hb=>by rw[hb,ix];simp) hE];cases hq:(!seen.isEmpty&&!es.isEmpty&&es.all (λe=>Nat.ble last e.born))with
     |false=>rfl
     |true=>rw[hq]at hcond;cases hcond
    have hfE:ERs β (es.filter λe=>!seen.contains e.born) (ms.filter λe=>!seen.contains e.born):=hE.filter λe me hb=>by rw[hb]
    split
    ·rename_i F1
     rw[F1]at hfE;have hnil':ms.filter (λe=>!seen.contains e.born)=[]:=by
      cases hms:ms.filter (λe=>!seen.contains e.born)with
      |nil=>rfl
      |cons=>rw[hms]at hfE;exact hfE.elim
     refine al.same hR (v:=.tuple #[.bool false]) ?_ ⟨[.bool false],⟨rfl,trivial⟩,rfl⟩;have:=(tU (P:=P) ty h1 h2 hc (by rw[hnil'];intro e he;cases he)).1 hnil';simp only[Sem.run_bind,this,Result.andThen_ok];rfl
    rename_i e l hcons
    refine al.guard λhborn=>?_;rw[<-hcons]at hborn |-;intro S0;have hold:∀e∈ms.filter (λe=>!seen.contains e.born),e.born<since:=by have:=ERs.all (f:=λe=>Nat.blt e.born since) (g:=λe=>decide (e.born<since)) (λe me hb=>by rw[hb,ix,bI];exact⟨λh=>bA h,λh=>bU h⟩) hfE;rw[hborn]at this;intro e he;simpa using List.all_eq_true.1 this.symm e he
    have Q0:ms.filter (λe=>!seen.contains e.born)≠[]:=by intro h;rw[h,hcons]at hfE;exact hfE
    obtain⟨j,me,w1,hj,a1,a2,a3,a4,L2⟩:=(tU (P:=P) ty h1 h2 hc hold).2 Q0;have hjl:j<(es.filter λe=>!seen.contains e.born).length:=by rw[<-hfE.length];exact(List.getElem?_eq_some_iff.1 hj).1
    have hje:=aA hjl;obtain⟨b1,b2,b3,b4,b5⟩:=hfE.at hje hj;have D0:(sv ((es.filter λe=>!seen.contains e.born)[j]).key ((es.filter λe=>!seen.contains e.born)[j]).val,H.mod r (.oth (.iter (some mi) since (seen++[((es.filter λe=>!seen.contains e.born)[j]).born]) clock))) ∈
      (es.filter λe=>!seen.contains e.born).map (λe=>(sv e.key e.val,H.mod r (.oth (.iter (some mi) since (seen++[e.born]) clock)))):=List.mem_map.2 ⟨_,bW hjl,rfl⟩
    have a_:H.nx<=m:=S0 _ D0;refine⟨.tuple #[.bool true,me.key,me.val],_,by simp only[Sem.run_bind,L2,Result.andThen_ok];rfl,_,D0,β,⟨[.bool true,me.key,me.val],⟨rfl,vd b1 b2,vd b3 b4,trivial⟩,rfl⟩,?_⟩;refine pP hR hm a_ hg _ hp w1 a1 a2 a3 a4 _ λw' N4=>⟨q,hq,?_⟩;rw[N4,b5];simp
   exact trivial
  exact trivial
 exact trivial
def ERs.find{st:Nat}:∀{l:List cC}{ms:List MapEntry},ERs β l ms->∀{e:cC},l.find? (λe=>Nat.beq e.born st)=some e ->
  ∃me,ms.find? (λe=>e.born==st)=some me/\AR β e.key me.key/\e.key.cE=true/\AR β e.val me.val/\e.val.cE=true
 |[],[],_,e,h=>by cases h
 |a::l,b::ms,hE,e,h=>by
  rw[List.find?_cons]at h |-;have hb:(b.born==st)=Nat.beq a.born st:=by rw[hE.1.2.2.2.2,ix,jr,tH]
  rw[hb];cases hq:Nat.beq a.born st with
  |true=>
   rw[hq]at h;cases h
   exact⟨b,rfl,hE.1.1,hE.1.2.1,hE.1.2.2.1,hE.1.2.2.2.1⟩
  |false=>rw[hq]at h;exact ERs.find hE.2 h
 |[],_::_,hE,_,_=>hE.elim
 |_::_,[],hE,_,_=>hE.elim
def Ui(hR:Rel m β H w){x:AV}{v:Value}(hx:AR β x v):
  al P m β H w (kD H x) ((do let y <-Instr.entry v;pure (Next.value y):Sem Next).run P w):=by
 unfold kD;split
 ·rename_i r
  obtain⟨p,hp,rfl⟩:=hx;split
  ·rename_i mi since seen stepped hg
   obtain⟨q,hq,h1⟩:=BJ hR hg hp;split
   ·rename_i es clock hgm
    obtain⟨ms,h2,hE⟩:=ta hR hgm hq;split
    ·rename_i st R3
     refine al.guard λS1=>?_;have S1:clock=stepped:=aO S1;subst S1;split
     ·rename_i e hfe
      obtain⟨me,hme,b1,b2,b3,b4⟩:=hE.find hfe;refine al.same hR (v:=.tuple #[me.key,me.val]) ?_ ⟨[me.key,me.val],⟨vd b1 b2,vd b3 b4,trivial⟩,rfl⟩;simp[Instr.entry,lB h1,dV h2,R3,hme]
     exact trivial
    exact trivial
   exact trivial
  exact trivial
 exact trivial
end
section
variable{P:Program}{m:Nat}{β:Pl}{H:Hp}{w:World}{tm:PT AV}{r:Result Next}
def SF.nd{α:Type}{o:Option α}{s:String}{f:α->SF}(h:∀a,o=some a->al P m β H w ((f a).run tm H) r):al P m β H w ((ndF o s f).run tm H) r:=by
 cases o with
 |none=>exact trivial
 |some a=>exact h a rfl
def SF.ifE{b:Bool}{s:String}{f:SF}(h:b=true->al P m β H w (f.run tm H) r):al P m β H w ((ifE b f (oH s)).run tm H) r:=by
 cases b with
 |false=>exact trivial
 |true=>exact h rfl
def pR{α:Type}{a:Array α}{x y:α}(h:a.toList=[x,y]):a=#[x,y]:=by apply wV;simpa using h
def Pm{α γ:Type}(f:α->γ)(x y:α):(#[x,y]:Array α).map f=#[f x,f y]:=by simp
def YQ{α γ:Type}(f:α->γ)(x:α):(#[x]:Array α).map f=#[f x]:=by simp
def Cy{α:Type}{a:Array α}{x:α}(h:a.toList=[x]):a=#[x]:=by apply wV;simpa using h
def LZ(hR:Rel m β H w)(hm:m<=m){a:Act}(J1:∀t,AR β (aG (tm.get t) aQ λv=>v) (a.tmps.getD t undef))(o:Oper)(c:Call)(b:Builtin)(ho:o.op=.call c)(hc:c.callee=.builtin b):
  al P m β H w ((mA P o b c.args.toList c.argTypes.toList).run tm H) ((execOp a.eval o).run P w):=by
 obtain⟨cs,he⟩:∃cs,execOp a.eval o=builtin b c.argTypes o.type cs (c.args.map a.eval):=by
  refine⟨c.args.map λ|.const _=>true|_=>false,?_⟩;obtain⟨dst,op,type,pos,after,guard⟩:=o;cases ho
  cases c
  cases hc
  rfl
 have hp:=Kw (P:=P) hR J1 o (by intro cs bb h;rw[ho]at h;cases h);unfold mA;split
 ·rename_i s x t t2 h1 h2
  refine SF.ifE λhq=>?_;have:=aO hq;subst this;rw[he,pR h1,pR h2,Pm];exact Qx (P:=P) (t:=t) hR hm o.type (cQ J1 s) (cQ J1 x)
 ·rename_i d s t t2 h1 h2
  refine SF.ifE λhq=>?_;have:=aO hq;subst this;rw[he,pR h1,pR h2,Pm];exact Yp (P:=P) (t:=t) (ty:=o.type) hR hm (cQ J1 d) (cQ J1 s)
 ·rename_i x t h1 h2
  refine SF.nd λk hk=>?_;rw[he,Cy h1,Cy h2,YQ];exact abc (P:=P) (t:=t) (ty:=o.type) hR hk (cQ J1 x)
 ·exact hp
 ·exact hp
 exact trivial
def TP(hR:Rel m β H w)(hm:m<=m){a:Act}(J1:∀t,AR β (aG (tm.get t) aQ λv=>v) (a.tmps.getD t undef))(o:Oper)(c:Call)(ho:o.op=.call c):
  al P m β H w ((yg P o c).run tm H) ((execOp a.eval o).run P w):=by
 unfold yg;split
 ·rename_i f hc
  have he:execOp a.eval o=(do let d <-Deferred.ofValue (a.eval f) (c.args.toList.map a.eval).toArray;invoke d.target d.args):=by
   obtain⟨dst,op,type,pos,after,guard⟩:=o;cases ho
   cases c
   cases hc
   rw[<-Array.toList_map,HV];rfl
  rw[he];exact Yk (cQ J1 f) (Mm J1 c.args.toList)
 ·rename_i b hc
  exact LZ hR hm J1 o c b ho hc
 exact trivial
def ZI(hR:Rel m β H w)(hm:m<=m){a:Act}(J1:∀t,AR β (aG (tm.get t) aQ λv=>v) (a.tmps.getD t undef))(o:Oper):
  al P m β H w (VP P tm H o) ((execOp a.eval o).run P w):=by
 have hp:=λhs=>Kw (P:=P) hR J1 o hs;have S1:=λc hc=>TP (P:=P) hR hm J1 o c hc;obtain⟨dst,op,type,pos,after,guard⟩:=o;unfold VP;cases op with
 |move x=>exact Pp hR J1 x
 |assign x=>exact Pp hR J1 x
 |pick c x y=>exact Zo hR J1 c x y
 |alloc e=>exact SF.nd λz hz=>Tk hR hm hz
 |box e x=>exact aaM hR hm e (cQ J1 x)
 |build t parts=>exact SF.nd λz hz=>SF.nd λpl G9=>SF.nd λps k_=>TN hR J1 hz G9 k_
 |buildSlice t len parts=>exact SF.nd λes hes=>SF.nd λz hz=>SF.ifE λhg=>SF.nd λps k_=>CQ hR hm J1 hes hz (bA (an hg).1) (by rw[<-bZ];exact aO (an hg).2) k_
 |load t x=>exact SF.nd λp hl=>YP hR (a:=p.1) (n:=p.2) hl (cQ J1 x)
 |store t x y=>exact SF.nd λn hn=>Xb hR hm hn (cQ J1 y) (cQ J1 x)
 |nilCheck x=>exact Ke hR (cQ J1 x) _ rfl
 |binOp op t x y c=>exact aaJ hR (cQ J1 x) (cQ J1 y) (hp (by simp))
 |unOp op t x=>exact acG hR (cQ J1 x) (hp (by simp))
 |convert s d x=>exact hp (by simp)
 |fieldAddr s x f=>exact SF.nd λp hf=>Gu hR (ft:=p.2.1) hf (cQ J1 x)
 |field t x f=>exact SF.nd λp hf=>SF.nd λb hb=>Us hR (ft:=p.2.1) hf hb (cQ J1 x)
 |indexAddr t x i=>exact SF.nd λp hf=>GD hR (e:=p.1) hf (cQ J1 x) (cQ J1 i)
 |index t x i=>exact UL hR (cQ J1 x) (cQ J1 i) (hp (by simp))
 |slice t x lo hi mx=>
  cases mx with
  |some _=>exact trivial
  |none=>
   cases he:cG P t with
   |none=>
    have:bf P ⟨dst,.slice t x lo hi none,type,pos,after,guard⟩=.mk λtm h=>aD P tm h ⟨dst,.slice t x lo hi none,type,pos,after,guard⟩:=by simp[bf,he]
    rw[this];exact hp (by simp)
   |some p=>
    have:bf P ⟨dst,.slice t x lo hi none,type,pos,after,guard⟩=.mk λtm h=>eU h p.2 ((opF x).ev tm) (lo.map (ev tm)) (hi.map (ev tm)) (aD P tm h ⟨dst,.slice t x lo hi none,type,pos,after,guard⟩):=by simp[bf,he]
    rw[this];exact WQ hR J1 (e:=p.1) he (hp (by simp))
 |extract x i=>exact Mo hR (cQ J1 x) i
 |makeFunc fn first caps=>
  cases fn with
  |func f=>
   refine SF.ifE λhg=>?_;have:first=#[]:=by simpa using hg
   subst this;exact JT hR J1 f caps
  |_=>exact trivial
 |makeMap t r=>
  cases r with
  |some _=>exact trivial
  |none=>exact Mz hR hm t
 |makeSlice t l c=>exact GR hR hm (cQ J1 l) (cQ J1 c)
 |lookup t x k ok=>exact SF.nd λp ht=>SF.nd λz hz=>Rw hR (kt:=p.1) (et:=p.2) ht hz (cQ J1 x) (cQ J1 k) ok
 |mapUpdate t x k y=>exact SF.nd λp ht=>wh hR hm (kt:=p.1) (et:=p.2) ht (cQ J1 x) (cQ J1 k) (cQ J1 y)
 |insert t x k y=>exact SF.nd λp ht=>wh hR hm (kt:=p.1) (et:=p.2) ht (cQ J1 x) (cQ J1 k) (cQ J1 y)
 |range t x=>exact SF.nd λp ht=>Wo hR hm (kt:=p.1) (et:=p.2) ht (cQ J1 x)
 |next x b=>
  cases b with
  |true=>exact trivial
  |false=>exact YY hR hm (cQ J1 x) type
 |entry x=>exact Ui hR (cQ J1 x)
 |call c=>exact S1 c rfl
 |_=>exact trivial
end
def qF(β:Pl):List Nat->List Deferred->Prop
 |[],[]=>True
 |i::l,d::ds=>(∃p,β i 0=some p/\d={ target:=.collected p.b,args:=#[] })/\qF β l ds
 |_,_=>False
structure kL(β:Pl)(A:ag)(a:Act):Prop where
 tm:TmR β A.tm A.nt a.tmps
 df:qF β A.dfr a.defers
def pk(β:Pl)(r:Option Nat)(rB:Option Nat):Prop:=
 match r with
 |none=>rB=none
 |some l=>∃p,β l 0=some p/\rB=some p.b
def fen(rB:Option Nat):Fence:={ fn:=λ_=>True,depth:=none,alive:=false,round:=rB }
def XR:au->Exit->Prop
 |.normal,.normal=>True
 |.exit i,.exit j=>i=j
 |.ret,.ret=>True
 |_,_=>False
def gZ(m:Nat)(β:Pl)(H:Hp)(w:World)(outs:List (au×ag×Hp))(e:Exit)(a':Act)(w':World):Prop:=
 ∃x,x∈outs/\XR x.1 e/\∃β',kL β' x.2.1 a'/\Rel m β' x.2.2 w'/\Ext β H w β' x.2.2 w'
def NJ(m:Nat)(β:Pl)(H:Hp)(w:World)(outs:List (ag×Hp))(a':Act)(w':World):Prop:=
 ∃x,x∈outs/\∃β',kL β' x.1 a'/\Rel m β' x.2 w'/\Ext β H w β' x.2 w'
def oC(m:Nat)(β:Pl)(H:Hp)(w:World)(outs:List (AV×Hp))(e:Ending)(w':World):Prop:=∃v,e=.returned v/\Out m β H w outs v w'
structure FP(P:Program)(N:Nat)(rec:Rec):Prop where
 code:∀{m:Nat}{β:Pl}{H:Hp}{w:World}{r rB:Option Nat}{A:ag}{a:Act}{c:Code}{outs:List (au×ag×Hp)},m<=m->Rel m β H w->kL β A a->pk β r rB ->
  rec.code r c A H=.ok outs->(∀x∈outs,nE x<=m)->c.wpIn (fen rB) 0 P (gZ m β H w outs) a w/\∀x,c=.loop x->Code.roundsIn (fen rB) 0 P x (gZ m β H w outs) N a w
 call:∀{m:Nat}{β:Pl}{H:Hp}{w:World}{f:FuncId}{args:List AV}{vs:List Value}{outs:List (AV×Hp)},m<=m->Rel m β H w->ARs β args vs ->
  rec.call f args H=.ok outs->(∀x∈outs,nV x<=m)->CallsIn Fence.wide 0 P f vs.toArray w (oC m β H w outs)
structure uU(E:Env):Prop where
 name:∀(f:FuncId)(fn:Func),E.P.funcs[f]?=some fn->fn.body.isSome=true->(fn.name == "runtime.NumGoroutine")=false
 mixed:E.P.follows .mixedOrders=true
 fJ:∀(f:FuncId)(args:List AV)(v:AV),E.fJ f args=some v->∀(β:Pl)(vs:List Value)(w:World),ARs β args vs ->
  CallsIn Fence.wide 0 E.P f vs.toArray w λe w'=>∃u,e=.returned u/\AR β v u/\w'.os=w.os/\w'.tape=w.tape/\w'.output=w.output/\w.heap.size<=w'.heap.size/\∀b,b<w.heap.size->w'.heap[b]?=w.heap[b]?
 eN:∀{m:Nat}{β:Pl}{H:Hp}{w:World}(f:FuncId)(args:List AV)(x:AV×Nat×aX),E.eN f args H=some x->Rel m β H w->∀(vs:List Value),ARs β args vs->H.nx<=m ->
  CallsIn Fence.wide 0 E.P f vs.toArray w (oC m β H w [(x.1,H.mod x.2.1 x.2.2)])
def uU.of3{E:Env} (h1:∀(f:FuncId)(fn:Func),E.P.funcs[f]?=some fn->fn.body.isSome=true->(fn.name == "runtime.NumGoroutine")=false) (h2:E.P.follows .mixedOrders=true)
  (h3:∀(f:FuncId)(args:List AV)(v:AV),E.fJ f args=some v->∀(β:Pl)(vs:List Value)(w:World),ARs β args vs ->
   CallsIn Fence.wide 0 E.P f vs.toArray w λe w'=>∃u,e=.returned u/\AR β v u/\w'.os=w.os/\w'.tape=w.tape/\w'.output=w.output/\w.heap.size<=w'.heap.size/\∀b,b<w.heap.size->w'.heap[b]?=w.heap[b]?)
  (hH:∀f args H,E.eN f args H=none:=by intros;rfl):uU E:=
 ⟨h1,h2,h3,λf args x h=>by rw[hH]at h;cases h⟩
def qF.mono{β β':Pl}(hs:Sub β β'):∀{l:List Nat}{ds:List Deferred},qF β l ds->qF β' l ds
 |[],[],_=>trivial
 |_::_,_::_,h=>⟨by obtain⟨p,hp,hd⟩:=h.1;exact⟨p,hs _ _ _ hp,hd⟩,qF.mono hs h.2⟩
 |[],_::_,h=>h.elim
 |_::_,[],h=>h.elim
def kL.mono{β β':Pl}(hs:Sub β β'){A:ag}{a:Act}(h:kL β A a):kL β' A a:=⟨h.tm.mono hs,h.df.mono hs⟩
def pk.mono{β β':Pl}(hs:Sub β β'){r rB:Option Nat}(h:pk β r rB):pk β' r rB:=by
 cases r with
 |none=>exact h
 |some l=>obtain⟨p,hp,h⟩:=h;exact⟨p,hs _ _ _ hp,h⟩
def Rel.grown{m:Nat}{β:Pl}{H:Hp}{w w':World}(hR:Rel m β H w)(hw:∀b,b<w.heap.size->w'.heap[b]?=w.heap[b]?):Rel m β H w' where
 obj:=λid o ho=>ji.mono (λ_ _ _ h=>h) (hR.obj id o ho) (λ_=>rfl) λg p hg hp=>hw _ ((hR.obj id o ho).lt hg hp)
 sep:=hR.sep
 wf:=hR.wf
 free:=hR.free
def Ext.grown{β:Pl}{H:Hp}{w w':World}(h1:w'.os=w.os)(h2:w'.tape=w.tape)(h3:w'.output=w.output)(h4:w.heap.size<=w'.heap.size)(hw:∀b,b<w.heap.size->w'.heap[b]?=w.heap[b]?):Ext β H w β H w':=
 { Ext.refl β H w with size:=h4,os:=h1,tape:=h2,output:=h3,frame:=λb hb _=>hw b hb,far:=λ_ _ b hb _=>hw b hb,prov:=λid o g p a b c=>.inr ⟨o,g,p,a,b,c,rfl,rfl⟩ }
def TmR.put{β:Pl}{tm:PT AV}{nt:Nat}{tmps:Array Value}(h:TmR β tm nt tmps){d:Nat}(hd:d<nt){v:AV}{u:Value}(hv:AR β v u):TmR β (tm.set d v) nt (tmps.setIfInBounds d u):=by
 obtain⟨h1,h2,h3⟩:=h;refine⟨by simp[h1],h2,λt=>?_⟩;rw[PT.sV _ _ _ _ aa];by_cases ht:t=d
 ·subst ht;rw[ad rfl];have:(tmps.setIfInBounds t u).getD t undef=u:=by simp[h1,hd]
  rw[this];exact hv
 rw[ab ht];have:(tmps.setIfInBounds d u).getD t undef=tmps.getD t undef:=by simp only[uS];rw[Array.getElem?_setIfInBounds_ne (λh=>ht h.symm)]
 rw[this];exact h3 t
def kL.put{β:Pl}{A:ag}{a:Act}(h:kL β A a){v:AV}{u:Value}(hv:AR β v u){H:Hp}{dst:Option Tmp}{k:ag->Hp->R (ag×Hp)}{outs:List (ag×Hp)}(hk:jA A dst v H k=.ok outs):
  ∃A',k A' H=.ok outs/\kL β A' (a.put dst u):=by
 cases dst with
 |none=>exact⟨A,hk,h⟩
 |some d=>
  have X3:ifE (Nat.blt d A.nt) (k (A.put d v) H) (.bad "slot")=.ok outs:=hk
  rw[cW]at X3;split at X3
  ·rename_i hd
   exact⟨_,X3,h.tm.put (bA hd) hv,h.df⟩
  cases X3
def qy(β:Pl):AR β aQ undef:=⟨[],trivial,rfl⟩
section
variable{E:Env}(hE:uU E){N:Nat}{rec:Rec}(N0:FP E.P N rec)
theorem wH{P:Program} (hn:∀(f:FuncId)(fn:Func),P.funcs[f]?=some fn->fn.body.isSome=true->(fn.name == "runtime.NumGoroutine")=false) {f:FuncId} (hb:ao P f=true) (args:Array Value) (w:World):
  (callFunc f args).run P w=.ok (.enter f args) w:=by
 unfold ao at hb;cases hf:P.funcs[f]? with
 |none=>rw[hf]at hb;cases hb
 |some fn=>
  rw[hf]at hb;have E8:fn.body.isSome=true:=hb;have h1:=hn f fn hf E8;obtain⟨c,hq⟩:=Option.isSome_iff_exists.1 E8;have m7:fn.name ≠ "runtime.NumGoroutine" := by simpa using h1
  simp[callFunc,hf,m7,hq]
include hE N0
theorem Uf{m:Nat}{β:Pl}{H:Hp}{w:World}(hm:m<=m)(hR:Rel m β H w){f:FuncId}{args:List AV}{vs:List Value}(ha:ARs β args vs){outs:List (AV×Hp)}(h:rk E rec f args H=.ok outs)(hb:∀x∈outs,nV x<=m):
  CallsIn Fence.wide 0 E.P f vs.toArray w (oC m β H w outs):=by
 unfold rk at h;cases hp:E.fJ f args with
 |none=>
  rw[hp]at h;have h:aG (E.eN f args H) (rec.call f args H) (λx=>.ok [(x.1,H.mod x.2.1 x.2.2)])=.ok outs:=h;cases hq:E.eN f args H with
  |none=>rw[hq]at h;exact N0.call hm hR ha h hb
  |some x=>
   rw[hq]at h;cases h
   exact hE.eN f args x hq hR vs ha (hb _ (List.mem_singleton.2 rfl))
 |some v=>
  rw[hp]at h;cases h
  refine CallsIn.mono (hE.fJ f args v hp β vs w ha) λe w' he=>?_;obtain⟨u,rfl,hu,h1,h2,h3,h4,h5⟩:=he;exact⟨u,rfl,_,List.mem_singleton.2 rfl,β,hu,hR.grown h5,Ext.grown h1 h2 h3 h4 h5⟩
end
def RG.rR{α:Type}{k m:Nat}{nx:α->Nat}{r:R α}(h:RG k nx r){o outs:List α}(ho:r=.ok o)(hs:∀y∈o,y∈outs)(hb:∀x∈outs,nx x<=m):k<=m:=by
 obtain⟨h1,h2⟩:=h o ho;cases o with
 |nil=>exact absurd rfl h1
 |cons x l=>exact aS (h2 x (aT ..)) (hb x (hs x (aT ..)))
def NJ.ext{m:Nat}{β β':Pl}{H H':Hp}{w w':World}(hx:Ext β H w β' H' w'){outs outs':List (ag×Hp)}(hs:∀y∈outs,y∈outs'){a:Act}{w'':World}(h:NJ m β' H' w' outs a w''):NJ m β H w outs' a w'':=by obtain⟨x,O7,b,h1,h2,h3⟩:=h;exact⟨x,hs x O7,b,h1,h2,hx.trans h3⟩
def gZ.ext{m:Nat}{β β':Pl}{H H':Hp}{w w':World}(hx:Ext β H w β' H' w'){outs outs':List (au×ag×Hp)}(hs:∀y∈outs,y∈outs'){e:Exit}{a:Act}{w'':World}(h:gZ m β' H' w' outs e a w''):gZ m β H w outs' e a w'':=by obtain⟨x,O7,h0,b,h1,h2,h3⟩:=h;exact⟨x,hs x O7,h0,b,h1,h2,hx.trans h3⟩
def CB{β:Pl}{tm:PT AV}{nt:Nat}{tmps:Array Value}(J1:TmR β tm nt tmps){ops:Array Oper}{o:Oper}{yes no:R (ag×Hp)}{outs:List (ag×Hp)}(h:cJ tm (gOf ops.toList o.guard) yes no=.ok outs):
  (Region.wanted o (yielded ops tmps)=true/\yes=.ok outs)\/(Region.wanted o (yielded ops tmps)=false/\no=.ok outs):=by
 unfold Region.wanted;cases hg:o.guard with
 |none=>rw[hg]at h;exact .inl ⟨rfl,h⟩
 |some p=>
  obtain⟨j,want⟩:=p;rw[hg]at h;have key:∀y:Option Bool,yielded ops tmps j=y->(yielded ops tmps j==some want)=(y==some want):=λy hy=>by rw[hy]
  unfold gOf at h;simp only[oo]at h;cases hj:ops[j]? with
  |none=>rw[hj]at h;refine .inr ⟨?_,h⟩;show(yielded ops tmps j==some want)=false;rw[key none (by simp[yielded,hj])];rfl
  |some oj=>
   rw[hj]at h;cases hd:oj.dst with
   |none=>simp only[hd]at h;refine .inr ⟨?_,h⟩;show(yielded ops tmps j==some want)=false;rw[key none (by simp[yielded,hj,hd])];rfl
   |some t=>
    simp only[hd]at h;have hv:=J1.2.2 t;have hy:∀u,tmps.getD t undef=u->(∀b,u≠.bool b)->(yielded ops tmps j==some want)=false:=by
     intro u hu hb;rw[key none]
     ·rfl
     simp only[yielded,hj,hd,Option.bind_some];cases ht:tmps[t]? with
     |none=>rfl
     |some x=>
      have:x=u:=by rw[<-hu];simp[uS,ht]
      subst this;cases x<;>first|rfl|exact absurd rfl (hb _)
    have hyb:∀b,tmps.getD t undef=.bool b->(yielded ops tmps j==some want)=(b==want):=by
     intro b hb;rw[key (some b)]
     ·rfl
     simp only[yielded,hj,hd,Option.bind_some];cases ht:tmps[t]? with
     |none=>simp[uS,ht,undef]at hb
     |some x=>
      have:x=.bool b:=by rw[<-hb];simp[uS,ht]
      subst this;rfl
    show((yielded ops tmps j==some want)=true/\_)\/((yielded ops tmps j==some want)=false/\_);cases ht:tm.get t with
    |none=>
     rw[ht]at hv;have h':no=.ok outs:=by simpa [cJ,aG,ht]using h
     obtain⟨vs,_,hu⟩:=hv;exact .inr ⟨hy _ hu (by simp),h'⟩
    |some v=>
     rw[ht]at hv;have h':AV.rec (motive:=λ_=>R (ag×Hp)) (λc=>acE c (λb=>ifE b (ifE want yes no) (ifE want no yes)) (λ_ _=>no) (λ_=>.bad "guard")) (λ_=>no) (λ_=>no) (.bad "guard") v=.ok outs:=by simpa [cJ,aG,ht]using h
     cases v with
     |one c=>
      cases c with
      |b b=>rw[hyb b hv];cases b<;>cases want<;>first|exact .inl ⟨rfl,h'⟩|exact .inr ⟨rfl,h'⟩
      |i k n=>have I5:tmps.getD t undef=.int k n:=hv;exact .inr ⟨hy _ I5 (by simp),h'⟩
      |o q=>cases h'
     |agg l=>obtain⟨vs,_,hu⟩:=hv;exact .inr ⟨hy _ hu (by simp),h'⟩
     |tup l=>obtain⟨vs,_,hu⟩:=hv;exact .inr ⟨hy _ hu (by simp),h'⟩
     |any=>cases h'
def wK{β:Pl}{nt:Nat}:∀(ps:List Tmp)(args:List AV)(vs:List Value)(tm:PT AV)(tmps:Array Value),TmR β tm nt tmps->ARs β args vs->(∀p∈ps,p<nt)->args.length=ps.length ->
  TmR β (iM ps args tm) nt ((ps.zip vs).foldl (λtmps(t,a)=>tmps.setIfInBounds t a) tmps)
 |[],[],[],tm,tmps,h,_,_,_=>h
 |p::ps,x::args,v::vs,tm,tmps,h,ha,hp,hl=>by refine wK ps args vs _ _ (h.put (hp p (aT ..)) ha.1) ha.2 (λq hq=>hp q (aR _ hq)) (by simpa using hl)
 |_,[],_::_,_,_,_,ha,_,_=>ha.elim
 |_,_::_,[],_,_,_,ha,_,_=>ha.elim
 |[],_::_,_,_,_,_,_,_,hl=>by simp at hl
 |_::_,[],_,_,_,_,_,_,hl=>by simp at hl
def fZ{P:Program}{w:World}{l:Nat}{r:Loop}(h:w.heap[l]?=some (.loop r)):(Instr.getLoop l).run P w=.ok r w:=by simp[Instr.getLoop,getObj,Sem.run,h]
def kX{P:Program}{w:World}{l:Nat}{r:Loop}(o:Obj)(h:w.heap[l]?=some (.loop r)):(setObj l o).run P w=.ok () { w with heap:=w.heap.setIfInBounds l o }:=by simp[setObj,Sem.run,h]
def rU{m:Nat}{β:Pl}{H:Hp}{w:World}(hR:Rel m β H w){id:Nat}{st:LoopState}{pe:Option Code}{tm:PT AV}{nt:Nat}{ps:List Tmp}{as bo:Code}{d:Nat}(h:H.get id=some (.oth (.loop st pe tm nt ps as bo d))){p:Place}(hp:β id 0=some p):
  ∃q fn tmps,β d 0=some q/\TmR β tm nt tmps/\w.heap[p.b]?=some (.loop { state:=st,pending:=pe,fn:=fn,tmps:=tmps,params:=ps.toArray,assign:=as,body:=bo,defers:=q.b }):=by
 obtain⟨q,hq,h1⟩:=hR.obj id _ h;rw[hp]at hq;cases hq;exact h1
section
variable{E:Env}{N:Nat}{rec:Rec}(N0:FP E.P N rec)(I0:RecM rec)
include N0 I0
theorem Wy{m:Nat}{β:Pl}{H:Hp}{w:World}(hm:m<=m)(hR:Rel m β H w){id:Nat}{p:Place}{args:List AV}{vs:List Value}{outs:List (AV×Hp)}(rB:Option Nat)(hp:β id 0=some p)(ha:ARs β args vs)
  (h:jD rec id args H=.ok outs) (hb:∀x∈outs,nV x<=m):
  ∃fn tmps as bo,(Instr.yield p.b vs.toArray).run E.P w=.ok (.round p.b fn tmps as bo) w/\RoundIn (fen rB) 0 E.P p.b fn tmps as bo w (oC m β H w outs):=by
 unfold jD at h;split at h
 ·rename_i pe tm nt ps as bo d hg
  rw[cW]at h;split at h
  ·rename_i hc
   obtain⟨q,fn,tmps,hq,J1,hw⟩:=rU hR hg hp;have hlen:args.length=ps.length:=aO (an hc).1;have k_:∀t∈ps,t<nt:=λt ht=>bA (List.all_eq_true.1 (an hc).2 t ht);have Z1:vs.length=ps.length:=by rw[ha.length,hlen]
   obtain⟨l,hl,hmid⟩:=R.gi h;have Y6:∀x∈l,nE x<=m:=λx hx=>by obtain⟨o,ho,hs⟩:=hmid x hx;exact RG.rR (yP I0 (ai _)) ho hs hb
   refine⟨fn,(ps.zip vs).foldl (λtmps(t,a)=>tmps.setIfInBounds t a) tmps,as,bo,?_,?_⟩
   ·simp[Instr.yield,fZ hw,Z1]
   refine roundIn_of_wpIn trivial ?_;have htm':=wK ps args vs tm tmps J1 ha k_ hlen;have M8:kL β ⟨iM ps args tm,nt,[]⟩ { tmps:=(ps.zip vs).foldl (λtmps(t,a)=>tmps.setIfInBounds t a) tmps,defers:=[] }:=⟨htm',trivial⟩;have hround:pk β (some id) (some p.b):=⟨p,hp,rfl⟩;refine Go.wpIn_mono (N0.code hm hR M8 hround hl Y6).1 ?_;intro e a1 w1 M_;obtain⟨x,hx,N8,β1,hact1,l7,hext1⟩:=M_;obtain⟨o,ho,hs⟩:=hmid x hx;have hp1:=hext1.sub _ _ _ hp;unfold ir at ho;split at ho
   ·rename_i pe1 tm1 nt1 ps1 as1 bo1 d1 O0 U'
    have he:e=.normal:=by rw[O0]at N8;cases e<;>first|rfl|exact N8.elim
    subst he;obtain⟨q1,fn1,tmps1,hq1,htm1,c8⟩:=rU l7 U' hp1;obtain⟨l2,P6,M5⟩:=R.gi ho;have I_:∀y∈l2,nE y<=m:=λy hy=>by obtain⟨o2,ho2,L1⟩:=M5 y hy;exact RG.rR (yO (ai _)) ho2 (λz hz=>hs z (L1 z hz)) hb
    have N3:=pP l7 hm (Y6 x hx) U' (.loop .busy pe1 tm1 nt1 ps1 as1 bo1 d1) hp1 w1 rfl rfl rfl rfl (.loop { state:=.busy,pending:=pe1,fn:=fn1,tmps:=tmps1,params:=ps1.toArray,assign:=as1,body:=bo1,defers:=q1.b })
     (λw' N4=>⟨q1,fn1,tmps1,hq1,htm1,N4⟩)
    refine⟨_,by simp only[Instr.beginRound,Sem.run_bind,fZ c8,Result.andThen_ok,kX _ c8];rfl,?_⟩;have hround1:pk β1 (some id) (some p.b):=⟨p,hp1,rfl⟩;refine Go.wpIn_mono (N0.code hm N3.1 hact1 hround1 P6 I_).1 ?_;intro e2 a2 w2 hpost2;obtain⟨y,hy,hyr,β2,hact2,hR2,hext2⟩:=hpost2;obtain⟨o2,ho2,L1⟩:=M5 y hy;have u7:=hext2.sub _ _ _ hp1;have I1:=hext1.trans (N3.2.trans hext2);unfold mT at ho2;split at ho2
    ·rename_i st3 pe3 tm3 nt3 ps3 as3 bo3 d3 hd3 hg3
     obtain⟨q3,fn3,tmps3,hq3,htm3,O3⟩:=rU hR2 hg3 u7;have hny:nE y<=m:=I_ y hy;have fin:∀(st:LoopState)(pe:Option Code),Rel m β2 (y.2.2.mod id (.oth (.loop st pe tm3 nt3 ps3 as3 bo3 d3))) { w2 with heap:=w2.heap.setIfInBounds p.b (.loop { state:=st,pending:=pe,fn:=fn3,tmps:=tmps3,params:=ps3.toArray,assign:=as3,body:=bo3,defers:=q3.b }) } /\
       Ext β2 y.2.2 w2 β2 (y.2.2.mod id (.oth (.loop st pe tm3 nt3 ps3 as3 bo3 d3))) { w2 with heap:=w2.heap.setIfInBounds p.b (.loop { state:=st,pending:=pe,fn:=fn3,tmps:=tmps3,params:=ps3.toArray,assign:=as3,body:=bo3,defers:=q3.b }) }:=λst pe=>
      pP hR2 hm hny hg3 (.loop st pe tm3 nt3 ps3 as3 bo3 d3) u7 w2 rfl rfl rfl rfl _ (λw' N4=>⟨q3,fn3,tmps3,hq3,htm3,N4⟩)
     split at ho2
     ·rename_i J4
      cases ho2
      have n_:e2=.normal:=by rw[J4]at hyr;cases e2<;>first|rfl|exact hyr.elim
      subst n_;have hf:=fin .ready none;refine⟨.bool true,_,by simp only[Instr.endRound,Sem.run_bind,fZ O3,Result.andThen_ok,kX _ O3];rfl,?_⟩;exact⟨.bool true,rfl,_,hs _ (L1 _ (List.mem_singleton.2 rfl)),β2,rfl,hf.1,I1.trans hf.2⟩
     ·rename_i J4
      cases ho2
      have n_:e2=.ret:=by rw[J4]at hyr;cases e2<;>first|rfl|exact hyr.elim
      subst n_;have hf:=fin .done (some .ret);refine⟨.bool false,_,by simp only[Instr.endRound,Sem.run_bind,fZ O3,Result.andThen_ok,kX _ O3];rfl,?_⟩;exact⟨.bool false,rfl,_,hs _ (L1 _ (List.mem_singleton.2 rfl)),β2,rfl,hf.1,I1.trans hf.2⟩
     rename_i k J4
     cases ho2
     have n_:e2=.exit k:=by
      rw[J4]at hyr;cases e2 with
      |exit j=>have:k=j:=hyr;rw[this]
      |_=>exact hyr.elim
     subst n_;have hf:=fin .done (some (.exit k));refine⟨.bool false,_,by simp only[Instr.endRound,Sem.run_bind,fZ O3,Result.andThen_ok,kX _ O3];rfl,?_⟩;exact⟨.bool false,rfl,_,hs _ (L1 _ (List.mem_singleton.2 rfl)),β2,rfl,hf.1,I1.trans hf.2⟩
    cases ho2
   cases ho
  cases h
 cases h
end
def Xm(E:Env)(rec:Rec)(a:ag)(dst:Option Tmp)(h:Hp)(k:ag->Hp->R (ag×Hp))(n:ah):qs E rec a dst h k n=(mF E rec h n).bind λx=>jA a dst x.1 x.2 k:=by cases n<;>rfl
def Cu{P:Program}{o:Oper}{c:Call}(ho:o.op=.defer c):bf P o=oH "operation" := by
 obtain⟨dst,op,type,pos,after,guard⟩:=o;cases ho
 rfl
section
variable{E:Env}(hE:uU E){N:Nat}{rec:Rec}(N0:FP E.P N rec)(I0:RecM rec)
include hE N0 I0
theorem ZM{m:Nat}{β:Pl}{H:Hp}{w:World}(hm:m<=m)(hR:Rel m β H w){n:ah}{r:Result Next}(hn:al E.P m β H w n r){outs:List (AV×Hp)}(h:mF E rec H n=.ok outs)(hb:∀x∈outs,nV x<=m)
  {o:Oper} {a:Act} {rB:Option Nat} {next:Act->World->Prop} {Q:Exit->Act->World->Prop} (U1:∀v w',Out m β H w outs v w'->next (a.put o.dst v) w'):o.uponIn (fen rB) 0 E.P a next Q r:=by
 have R0:∀{e:Ending}{w':World},oC m β H w outs e w'->(match e,w' with
   |.returned v,w''=>next (a.put o.dst v) w''
   |.panicked chain,w''=>Q (.panic chain) a w''
   |.outgrown,_=>LetsOut Q):=by
  rintro e w' ⟨v,rfl,hv⟩;exact U1 v w' hv
 cases n with
 |val av H'=>
  cases h
  obtain⟨v,w',hr,ho⟩:=hn (hb _ (List.mem_singleton.2 rfl));rcases hr with rfl|⟨rfl,rfl⟩
  ·exact U1 v w' ho
  exact U1 undef w' ho
 |tN l=>
  cases h
  obtain⟨v,w',rfl,ho⟩:=hn hb;exact U1 v w' ho
 |enter f args=>obtain⟨vs,rfl,ha,Q_⟩:=hn;rw[wH hE.name Q_];refine⟨λh=>by simp[fen]at h,CallsIn.mono (Uf hE N0 hm hR ha h hb) λe w' he=>R0 he⟩
 |round id args=>obtain⟨p,vs,hp,ha,rfl⟩:=hn;obtain⟨fn,tmps,as,bo,hy,hround⟩:=Wy N0 I0 hm hR rB hp ha h hb;rw[hy];exact⟨λh=>by simp[fen]at h,RoundIn.mono hround λe w' he=>R0 he⟩
 |bad s=>cases h
theorem PD{m:Nat}{β:Pl}{H:Hp}{w:World}(hm:m<=m)(hR:Rel m β H w){A:ag}{a:Act}(hA:kL β A a){o:Oper}{outs:List (AV×Hp)}(h:mF E rec H ((bf E.P o).run A.tm H)=.ok outs)(hb:∀x∈outs,nV x<=m)
  {rB:Option Nat} {next:Act->World->Prop} {Q:Exit->Act->World->Prop} (U1:∀v w',Out m β H w outs v w'->next (a.put o.dst v) w'):o.wpIn (fen rB) 0 E.P a w next Q:=by
 refine⟨λ_ _=>trivial,?_⟩;have hs:o.semAt (fen rB).round a.eval=execOp a.eval o:=by refine Oper.semAt_eq _ _ _ λc hc=>?_;rw[Cu hc]at h;cases h
 rw[hs];exact ZM hE N0 I0 hm hR (ZI hR hm hA.tm.2.2 o) h hb U1
theorem MK{ops:Array Oper}{Q:Exit->Act->World->Prop}{rB:Option Nat}:∀(l pre:List Oper),ops.toList=pre++l->∀{m:Nat}{β:Pl}{H:Hp}{w:World}{A:ag}{a:Act}{outs:List (ag×Hp)},m<=m->Rel m β H w->kL β A a ->
  gm E rec (jH E.P ops.toList l) A H=.ok outs->(∀x∈outs,nA x<=m)->(∀a' w',NJ m β H w outs a' w'->Q .normal a' w')->wpOpsIn (fen rB) 0 E.P ops Q (List.range' pre.length l.length) a w
 |[],pre,U7,m,β,H,w,A,a,outs,hm,hR,hA,h,hb,hQ=>by
  cases h
  exact hQ a w ⟨_,List.mem_singleton.2 rfl,β,hA,hR,Ext.refl _ _ _⟩
 |o::l,pre,U7,m,β,H,w,A,a,outs,hm,hR,hA,h,hb,hQ=>by
  have ho:ops[pre.length]?=some o:=by rw[<-oo,U7,lE (ai _)];simp
  have S_:ops.toList=(pre++[o])++l:=by rw[U7];simp
  have hlen:(pre++[o]).length=pre.length+1:=by simp
  have h':cJ A.tm (gOf ops.toList o.guard) (qs E rec A o.dst H (gm E rec (jH E.P ops.toList l)) ((bf E.P o).run A.tm H)) (jA A o.dst aQ H (gm E rec (jH E.P ops.toList l)))=.ok outs:=h;rw[List.length_cons,List.range'_succ];unfold wpOpsIn;rw[ho];simp only
  rcases CB hA.tm h' with⟨hw,hy⟩|⟨hw,hy⟩
  ·rw[ad hw];rw[Xm]at hy;obtain⟨ys,hys,hk⟩:=R.gi hy;have hbys:∀x∈ys,nV x<=m:=λx hx=>by obtain⟨o',D4,hs⟩:=hk x hx;exact RG.rR (nO λa=>vE I0 l a x.2) D4 hs hb
   refine PD hE N0 I0 hm hR hA hys hbys λv w' hv=>?_;obtain⟨x,hx,β',I5,i',I1⟩:=hv;obtain⟨o',D4,hs⟩:=hk x hx;obtain⟨A',hA',M8⟩:=(hA.mono I1.sub).put I5 D4;have:=MK (rB:=rB) (Q:=Q) l (pre++[o]) S_ hm i' M8 hA' (λy hy=>hb y (hs y hy)) (λa' w'' hp=>hQ a' w'' (hp.ext I1 hs));rw[hlen]at this;exact this
  rw[ab (by rw[hw];exact zA8)];refine⟨λ_ _=>trivial,?_⟩;obtain⟨A',hA',M8⟩:=hA.put (qy β) hy;have:=MK (rB:=rB) (Q:=Q) l (pre++[o]) S_ hm hR M8 hA' hb hQ;rw[hlen]at this;exact this
theorem Sb{m:Nat}{β:Pl}{H:Hp}{w:World}(hm:m<=m)(hR:Rel m β H w){A:ag}{a:Act}(hA:kL β A a){id:Nat}{ops:Array Oper}{rB:Option Nat}{outs:List (au×ag×Hp)}
  (h:(gm E rec (uF E.P ops) A H).bind iJ=.ok outs) (hb:∀x∈outs,nE x<=m):(Code.region id ops false).wpIn (fen rB) 0 E.P (gZ m β H w outs) a w:=by
 obtain⟨l,hl,hk⟩:=R.gi h;have Y6:∀x∈l,nA x<=m:=λx hx=>by
  obtain⟨o,ho,hs⟩:=hk x hx;cases ho
  exact hb _ (hs _ (List.mem_singleton.2 rfl))
 refine wpIn_region ?_;have:=MK (Q:=gZ m β H w outs) (rB:=rB) hE N0 I0 ops.toList [] rfl hm hR hA hl Y6 (λa' w' hp=>?_)
 ·rw[List.range_eq_range'];simpa using this
 obtain⟨x,hx,β',h1,h2,h3⟩:=hp;obtain⟨o,ho,hs⟩:=hk x hx;cases ho
 exact⟨_,hs _ (List.mem_singleton.2 rfl),trivial,β',h1,h2,h3⟩
end
section scope
variable{P:Program}{b:Frame}{a:Act}{k:List Item}{cs:List Frame}{w:World}{F:Fence}{n:Nat}{Q:Exit->Act->World->Prop}
def jy{c:Code}:step P (lone (b.atR a (.code (.scope c)::k)) cs w)=.next (lone (b.atR a (.code c::.inScope c::k)) cs w):=
 step_lone_go (by simp[stepG,stepG.exec,Frame.atR])
def Dh{c:Code}:step P (lone (b.atR a (.inScope c::k)) cs w)=.next (lone (b.atR a k) cs w):=
 step_lone_go (by simp[stepG,stepG.exec,Frame.atR])
def Ny{c:Code}(h:c.wpIn F n P Q a w)(hg:∀l a w,¬Q (.goto l) a w):(Code.scope c).wpIn F n P Q a w:=by
 intro b k cs hro hb hr;have h0:(lone (b.atR a (.code (.scope c)::k)) cs w).fenced P F:=fenced_calm hb hr rfl;obtain⟨e,a₁,w₁,hq,harr⟩:=h b (.inScope c::k) cs hro hb hr;have hx:∀id,exitTo id (.inScope c::k)=exitTo id k:=λid=>by simp[exitTo]
 cases e with
 |normal=>exact⟨.normal,a₁,w₁,hq,.head h0 jy (StepsIn.trans harr (.one (fenced_calm hb hr rfl) Dh))⟩
 |exit id=>
  exact⟨.exit id,a₁,w₁,hq,λk' hk=>.head h0 jy (harr.1 k' (by rw[hx];exact hk)),
   λT3 hk=>let ⟨k₁,h1,h2⟩:=harr.2 T3 (by rw[hx];exact hk);⟨k₁,h1,.head h0 jy h2⟩⟩
 |goto l=>exact absurd hq (hg l _ _)
 |ret=>exact⟨_,a₁,w₁,hq,.of_steps (.one h0 jy) harr⟩
 |panic ch=>exact⟨_,a₁,w₁,hq,.of_steps (.one h0 jy) harr⟩
 |outgrown=>exact⟨_,a₁,w₁,hq,.of_steps (.one h0 jy) harr⟩
end scope
def gZ.noGoto{m:Nat}{β:Pl}{H:Hp}{w:World}{outs:List (au×ag×Hp)}(l:Nat)(a:Act)(w':World):¬gZ m β H w outs (.goto l) a w':=by rintro⟨x,_,hx,_⟩;cases h:x.1<;>rw[h]at hx<;>exact hx
section
variable{E:Env}(hE:uU E){N:Nat}{rec:Rec}(N0:FP E.P N rec)(I0:RecM rec)
theorem KH{m:Nat}{β β1:Pl}{H:Hp}{w:World}(hm:m<=m){A1:ag}{a1:Act}{l:Nat}{p:Place}{x:AV×Hp}{w3:World}(M8:kL β1 A1 a1)(hR:Rel m β1 x.2 w3)(hp:β1 l 0=some p)(S0:nV x<=m)(I1:Ext β H w β1 x.2 w3)
  {o outs:List (au×ag×Hp)} (ho:im l A1 x=.ok o) (hs:∀y∈o,y∈outs) (rB:Option Nat):
  ∃jump w4,(Instr.endLoop p.b).run E.P w3=.ok jump w4 /\
   (match jump with
    |none=>gZ m β H w outs .normal a1 w4
    |some c=>c.wpIn (fen rB) 0 E.P (gZ m β H w outs) a1 w4):=by
 unfold im at ho;split at ho
 ·rename_i st pe tm nt ps as bo d hg
  obtain⟨q,fn,tmps,hq,J1,hw⟩:=rU hR hg hp;have N3:=pP hR hm S0 hg (.loop .exhausted pe tm nt ps as bo d) hp w3 rfl rfl rfl rfl (.loop { state:=.exhausted,pending:=pe,fn:=fn,tmps:=tmps,params:=ps.toArray,assign:=as,body:=bo,defers:=q.b })
   (λw' N4=>⟨q,fn,tmps,hq,J1,N4⟩)
  have L2:st≠.busy->(Instr.endLoop p.b).run E.P w3=.ok pe { w3 with heap:=w3.heap.setIfInBounds p.b (.loop { state:=.exhausted,pending:=pe,fn:=fn,tmps:=tmps,params:=ps.toArray,assign:=as,body:=bo,defers:=q.b }) }:=by
   intro R3;have h1:(st==LoopState.busy)=false:=by cases st<;>first|rfl|exact absurd rfl R3
   simp only[Instr.endLoop,Sem.run_bind,fZ hw,Result.andThen_ok,h1,Bool.false_eq_true,if_false,kX _ hw];rfl
  split at ho
  ·cases ho
  rename_i R3
  have hst':st≠.busy:=λh=>R3 h;split at ho
  ·cases ho
   exact⟨none,_,L2 hst',_,hs _ (List.mem_singleton.2 rfl),trivial,β1,M8,N3.1,I1.trans N3.2⟩
  ·cases ho
   exact⟨some .ret,_,L2 hst',wpIn_ret ⟨_,hs _ (List.mem_singleton.2 rfl),trivial,β1,M8,N3.1,I1.trans N3.2⟩⟩
  ·rename_i k
   cases ho
   exact⟨some (.exit k),_,L2 hst',wpIn_exit ⟨_,hs _ (List.mem_singleton.2 rfl),rfl,β1,M8,N3.1,I1.trans N3.2⟩⟩
  cases ho
 cases ho
theorem De{m:Nat}{β:Pl}{H:Hp}{w:World}(hm:m<=m)(hR:Rel m β H w){A:ag}{a:Act}(hA:kL β A a){r rB:Option Nat}(hr:pk β r rB){d:Nat}{H1:Hp}{A1:ag}(h:pN r A H=some (d,H1,A1))(S0:H1.nx+1<=m)
  (ps:Array Tmp) (as bo:Code) (fn:FuncId):
  ∃(p:Place)(mark:List Deferred)(w1:World)(β1:Pl),(Instr.enterLoop fn a.tmps ps as bo rB).run E.P w=.ok (p.b,mark) w1/\β1 H1.nx 0=some p /\
   kL β1 A1 { a with defers:=mark++a.defers }/\Rel m β1 (H1.new (.oth (.loop .ready none A.tm A.nt ps.toList as bo d))) w1/\Ext β H w β1 (H1.new (.oth (.loop .ready none A.tm A.nt ps.toList as bo d))) w1:=by
 unfold pN at h;cases r with
 |none=>
  have T3:rB=none:=hr;subst T3;cases h
  have a_:H.nx+1+1<=m:=S0;have n1:=pO hR hm aa (.oth (.dfr true)) ⟨w.heap.size,0,0,0⟩ (w':=w.alloc (.deferred (some []))) (ai _) (by simp) rfl rfl rfl
   (λb hb=>RowKit.Below.heap_alloc w _ b hb) (λg hg=>hg) ⟨_,bm _ _ _ _,heap_alloc_new w _⟩
  have B2:(w.alloc (.deferred (some []))).heap.size=w.heap.size+1:=by simp
  have X8:kL (plus β H.nx 0 ⟨w.heap.size,0,0,0⟩) A a:=hA.mono n1.2.sub;have Q0:¬(H.nx=H.nx+1/\(0:Nat)=0):=aa;have n2:=pO n1.1 hm (show H.nx+1<m by omega) (.oth (.loop .ready none A.tm A.nt ps.toList as bo H.nx)) ⟨w.heap.size+1,0,0,0⟩
   (w':=(w.alloc (.deferred (some []))).alloc (.loop { state:=.ready,pending:=none,fn:=fn,tmps:=a.tmps,params:=ps,assign:=as,body:=bo,defers:=w.heap.size }))
   (by rw[B2];exact ai _) (by simp) rfl rfl rfl
   (λb hb=>RowKit.Below.heap_alloc _ _ b hb) (λg hg=>hg)
   ⟨_,bm _ _ _ _,⟨w.heap.size,0,0,0⟩,fn,a.tmps,(cD (plus β H.nx 0 ⟨w.heap.size,0,0,0⟩) (H.nx+1) 0 ⟨w.heap.size+1,0,0,0⟩ Q0).trans (bm _ _ _ _),(X8.mono (jG (n1.1.free _ 0 (ai _) (show H.nx+1<m by omega)))).tm,by rw[<-B2];simpa using heap_alloc_new (w.alloc (.deferred (some []))) (.loop { state:=.ready,pending:=none,fn:=fn,tmps:=a.tmps,params:=ps,assign:=as,body:=bo,defers:=w.heap.size })⟩
  have hA2:=X8.mono n2.2.sub;refine⟨⟨w.heap.size+1,0,0,0⟩,[{ target:=.collected w.heap.size,args:=#[] }],_,_,?_,bm _ _ _ _,⟨hA2.tm,⟨⟨w.heap.size,0,0,0⟩,n2.2.sub _ _ _ (bm _ _ _ _),rfl⟩,hA2.df⟩,n2.1,n1.2.trans n2.2⟩;rw[<-B2];rfl
 |some l=>
  obtain⟨pl,G9,rfl⟩:=hr;simp only at h
  split at h
  ·rename_i st pe tm nt ps0 as0 bo0 d0 hg
   cases h
   obtain⟨q,fn0,tmps0,hq,_,hw⟩:=rU hR hg G9;have Q0:¬(d=H.nx/\(0:Nat)=0):=by intro hh;have:=hR.free H.nx 0 (ai _) aa;rw[hh.1,this]at hq;cases hq
   have n2:=pO hR hm (show H.nx<m by omega) (.oth (.loop .ready none A.tm A.nt ps.toList as bo d)) ⟨w.heap.size,0,0,0⟩
    (w':=w.alloc (.loop { state:=.ready,pending:=none,fn:=fn,tmps:=a.tmps,params:=ps,assign:=as,body:=bo,defers:=q.b }))
    (ai _) (by simp) rfl rfl rfl
    (λb hb=>RowKit.Below.heap_alloc _ _ b hb) (λg hg=>hg)
    ⟨_,bm _ _ _ _,q,fn,a.tmps,by rw[cD _ _ _ _ Q0];exact hq,(hA.mono (jG (hR.free _ 0 (ai _) (show H.nx<m by omega)))).tm,by simpa using heap_alloc_new w _⟩
   have hA2:=hA.mono n2.2.sub;refine⟨⟨w.heap.size,0,0,0⟩,[],_,_,?_,bm _ _ _ _,hA2,n2.1,n2.2⟩;simp only[Instr.enterLoop,Sem.run_bind,fZ hw,Result.andThen_ok];rfl
  cases h
include hE N0 I0 in
theorem RZ{m:Nat}{β:Pl}{H:Hp}{w:World}(hm:m<=m)(hR:Rel m β H w){A:ag}{a:Act}(hA:kL β A a){r rB:Option Nat}(hr:pk β r rB){g:Operand}{ps:Array Tmp}{as bo:Code}{outs:List (au×ag×Hp)}
  (h:kG E rec r (opF g) ps.toList as bo A H=.ok outs) (hb:∀x∈outs,nE x<=m):(Code.rangeFunc g ps as bo).wpIn (fen rB) 0 E.P (gZ m β H w outs) a w:=by
 unfold kG at h;split at h
 ·cases h
 rename_i d H1 A1 hs
 split at h
 ·rename_i gf caps hg
  rw[cW]at h;split at h
  ·rename_i Q_
   obtain⟨l,hl,hk⟩:=R.gi h;have Y6:∀x∈l,nV x<=m:=λx hx=>by obtain⟨o,ho,hss⟩:=hk x hx;exact RG.rR (yN (ai _)) ho hss hb
   have S0:H1.nx+1<=m:=RG.rR (I0.call _ _ _) hl (λ_ h=>h) Y6;refine wpIn_rangeFunc λfn _=>?_;obtain⟨p,mark,w1,β1,he,hp,X8,l7,I1⟩:=De (E:=E) hm hR hA hr hs S0 ps as bo fn;have hgv:=(cQ hA.tm.2.2 g);have Q2:ev A.tm g=.one (.o (.clo gf caps)):=hg;rw[Q2]at hgv;obtain⟨cs,hgv,S1,S2⟩:=hgv;refine⟨p.b,mark,w1,{ target:=.fn (.func gf) cs.toArray,args:=#[.func (.yield p.b) #[] #[]] },w1,gf,(.func (.yield p.b) #[] #[]::cs).toArray,w1,he,?_,λ_ _=>trivial,?_,λh=>by simp[fen]at h,?_⟩
   ·have hcst:a.eval (.const (.func (.yield p.b) #[] #[]))=.func (.yield p.b) #[] #[]:=rfl;simp[resolve,hgv,Deferred.ofValue,hcst]
   ·have:=wH (w:=w1) hE.name Q_ (.func (.yield p.b) #[] #[]::cs).toArray;simpa [invoke]using this
   have E7:ARs β1 (.one (.o (.yl H1.nx))::iD caps) (.func (.yield p.b) #[] #[]::cs):=
    ⟨⟨p,hp,rfl⟩,(uq S1 S2).mono I1.sub⟩
   have R0:=N0.call hm l7 E7 hl Y6;refine CallsIn.mono R0 λe w3 he3=>?_;obtain⟨v,rfl,x,hx,β3,_,hR3,hext3⟩:=he3;obtain⟨o,ho,hss⟩:=hk x hx;exact KH (E:=E) hm (X8.mono hext3.sub) hR3 (hext3.sub _ _ _ hp) (Y6 x hx) (I1.trans hext3) ho hss rB
  cases h
 cases h
end
def By(f:Nat->Option aX)(id:Nat):∀n,(HE f n).get id=if id<n then f id else none
 |0=>by rw[ab (Nat.not_lt_zero _)];rfl
 |n+1=>by
  show(PT.put (f n) (HE f n) n).get id=_;rw[PT.vM,By f id n];by_cases h:id=n
  ·subst h;rw[ad rfl,ad (ba _)]
  rw[ab h];by_cases h2:id<n
  ·rw[ad h2,ad aa]
  rw[ab h2,ab aa]
def jY{H:Hp}{l:List (au×ag×Hp)}{t:PT aX}{id:Nat}:(vP H l t).get id=if id<wj l then vQ H.nx l t id else none:=By _ _ _
open Classical in
def uI{l:List (au×ag×Hp)}{tm:PT AV}{k:Nat}:∀n,pj (vR l tm n) k=if k<n then(if∀z∈l,pj z.2.1.tm k=pj tm k then pj tm k else .any)else aQ
 |0=>by rw[ab (Nat.not_lt_zero _)];rfl
 |n+1=>by
  have ih:=uI (l:=l) (tm:=tm) (k:=k) n;show aG (((vR l tm n).set n _).get k) aQ (λv=>v)=_;rw[PT.fE];by_cases h:k=n
  ·subst h;rw[ad rfl,ad (ba _)];rfl
  rw[ab h];by_cases h2:k<n
  ·rw[ad h2]at ih;rw[ad aa];exact ih
  rw[ab h2]at ih;rw[ab aa];exact ih
open Classical in
def BQ{n:Nat}{l:List (au×ag×Hp)}{t:PT aX}{id:Nat}:∀m,id∈Md n l t m↔id<m/\¬∀z∈l,dP n id (z.2.2.t.get id)=dP n id (t.get id)
 |0=>⟨λh=>absurd h List.not_mem_nil,λh=>absurd h.1 (Nat.not_lt_zero _)⟩
 |m+1=>by
  have ih:=BQ (n:=n) (l:=l) (t:=t) (id:=id) m;unfold Md;split
  ·rename_i hc
   rw[ih];refine⟨λh=>⟨aa,h.2⟩,λh=>⟨?_,h.2⟩⟩;rcases Nat.lt_succ_iff_lt_or_eq.1 h.1 with h1|h1
   ·exact h1
   subst h1;exact absurd hc h.2
  rename_i hc
  rw[List.mem_cons,ih];refine⟨λh=>h.elim (λe=>by subst e;exact⟨ba _,hc⟩) λh=>⟨aa,h.2⟩,λh=>?_⟩;rcases Nat.lt_succ_iff_lt_or_eq.1 h.1 with h1|h1
  ·exact .inr ⟨h1,h.2⟩
  exact .inl h1
def Wk2(o o':aX):Prop:=o=o'\/o=aaN o'\/(∃k es c k',o=.oth (.fmap k)/\o'=.oth (.map es c)/\ql es=some k'/\∀n,fq n k'=fq n k)\/∃x,o=.oth .lost/\o'=.oth x
def Ar.some{β:Pl}{w:World}{p:Place}{x:CK}(h:Ar β w p x):Ar β w p .lost:=⟨_,sx h.lt⟩
def Wk2.ro{o o':aX}(h:Wk2 o o'):o.oU=o'.oU:=by
 rcases h with rfl|rfl|⟨_,_,_,_,rfl,rfl,_⟩|⟨_,rfl,rfl⟩
 ·rfl
 ·cases o'<;>rfl
 ·rfl
 rfl
def Wk2.gen{o o':aX}{β:Pl}{w:World}{id g:Nat}(h:Wk2 o o')(hr:ji β w id o')(hg:fm o g):fm o' g:=by
 rcases h with rfl|rfl|⟨_,_,_,_,rfl,rfl,_⟩|⟨_,rfl,rfl⟩
 ·exact hg
 ·cases o' with
  |arr c e lo gen=>exact⟨aS hr.1 hg.1,hg.2⟩
  |oth x=>exact hg
  |ro c=>exact hg
 ·exact hg
 exact hg
def Wk2.obj{o o':aX}{β:Pl}{w:World}{id:Nat}(h:Wk2 o o')(hr:ji β w id o'):ji β w id o:=by
 rcases h with rfl|rfl|⟨k,es,c,k',rfl,rfl,h1,h2⟩|⟨x,rfl,rfl⟩
 ·exact hr
 ·cases o' with
  |arr c e lo gen=>obtain⟨h1,h2,h3,h4⟩:=hr;exact⟨ai _,λg a b=>h2 g (aS h1 a) b,λg g' p p' a b c=>h3 g g' p p' (aS h1 a) b c,h4⟩
  |oth x=>exact hr
  |ro c=>exact hr
 ·obtain⟨p,hp,ms,a,b⟩:=hr;exact⟨p,hp,es,c,ms,a,b,k',h1,h2⟩
 obtain⟨p,hp,a⟩:=hr;exact⟨p,hp,a.some⟩
def QP{n id:Nat}{x:Option aX}{o:aX}(h:dP n id x=some o):∃o',x=some o'/\Wk2 o o':=by
 unfold dP at h;split at h
 ·exact⟨o,h,.inl rfl⟩
 cases x with
 |none=>cases h
 |some o'=>exact⟨o',rfl,.inr (.inl (eh h).symm)⟩
def GP{H H':Hp}{l:List Nat}(h:H'.log=l++H.log):H'.log.take (H'.log.length-H.log.length)=l:=by rw[h,aI,Nat.add_sub_cancel,Am];rfl
open Classical in
def gZ.join{m:Nat}{β:Pl}{H:Hp}{w:World}(hR:Rel m β H w){l:List (au×ag×Hp)}{e:Exit}{a':Act}{w':World}(h:gZ m β H w l e a' w'):gZ m β H w (rO H l) e a' w':=by
 rcases rP H l with ej|⟨x,hx,hc,ej⟩
 ·rw[ej];exact h
 rw[ej];obtain⟨y,hy,N8,β',hA,i',z5⟩:=h;obtain⟨J4,hy2,hy3,hy4⟩:=hc y hy;have hmx:=pz hy;have hle:=z5.nx;have V1:∀id o,(vP H l x.2.2.t).get id=some o->∃o',y.2.2.get id=some o'/\Wk2 o o':=λid o ho=>by
  rw[jY]at ho;split at ho
  ·unfold vQ at ho;split at ho
   ·rename_i S3
    exact QP ((S3 y hy).trans ho)
   split at ho
   ·rename_i hk
    cases ho
    obtain⟨es,c,k',h1,h2,h3⟩:=hk.choose_spec y hy;exact⟨_,h1,.inr (.inr (.inl ⟨_,es,c,k',rfl,rfl,h2,h3⟩))⟩
   split at ho
   ·rename_i Z4
    cases ho
    obtain⟨o1,h1⟩:=Z4 y hy;exact⟨_,h1,.inr (.inr (.inr ⟨o1,rfl,rfl⟩))⟩
   cases ho
  cases ho
 have hold:∀id,id<H.nx->(∀z∈l,dP H.nx id (z.2.2.t.get id)=dP H.nx id (x.2.2.t.get id))->(vP H l x.2.2.t).get id=y.2.2.get id:=λid hid S3=>by have h1:=S3 y hy;rw[jY,ad (show id<wj l by omega)];unfold vQ;rw[ad S3,<-h1];show(if id<H.nx then y.2.2.t.get id else _)=_;rw[ad hid];rfl
 have J1:TmR β' (vR l x.2.1.tm x.2.1.nt) x.2.1.nt a'.tmps:=by
  refine⟨hy2▸hA.tm.1,hy2▸hA.tm.2.1,λt=>?_⟩;have h3:=hA.tm.2.2 t;show AR β' (pj (vR l x.2.1.tm x.2.1.nt) t) _;rw[uI];by_cases ht:t<x.2.1.nt
  ·rw[ad ht];by_cases S3:∀z∈l,pj z.2.1.tm t=pj x.2.1.tm t
   ·rw[ad S3,<-S3 y hy];exact h3
   rw[ab S3];exact trivial
  rw[ab ht];have B2:=hA.tm.1;have:a'.tmps.getD t undef=undef:=by rw[uS,Array.getElem?_eq_none aa];rfl
  rw[this];exact qy β'
 refine⟨_,List.mem_singleton.2 rfl,by rw[<-J4];exact N8,β',⟨J1,by rw[<-hy3];exact hA.df⟩,⟨λid o ho=>(let ⟨o',h1,h2⟩:=V1 id o ho;h2.obj (i'.obj id o' h1)),λid id' o o' g g' p p' h1 h2 h3 h4 h5 h6 h7=>(by obtain⟨o1,a1,a2⟩:=V1 id o h1;obtain⟨o2,b1,b2⟩:=V1 id' o' h2;rw[a2.ro,b2.ro];exact i'.sep id id' o1 o2 g g' p p' a1 b1 (a2.gen (i'.obj id o1 a1) h3) (b2.gen (i'.obj id' o2 b1) h4) h5 h6 h7),λid hid=>?_,λid g h1 h2=>i'.free id g (aS hmx h1) h2⟩,?_⟩
 ·have hid2:¬id<wj l:=Nat.not_lt.2 hid;rw[jY,ab hid2]
 refine{ sub:=z5.sub,loc:=λid g p hp=>?_,size:=z5.size,os:=z5.os,tape:=z5.tape,output:=z5.output,frame:=z5.frame,prov:=λid o g p h1 h2 h3=>(by
       obtain⟨o1,a1,a2⟩:=V1 id o h1;rw[a2.ro];exact z5.prov id o1 g p a1 (a2.gen (i'.obj id o1 a1) h2) h3),nx:=aS hle hmx,
         log:=⟨_,rfl,λid hid hn=>?_⟩,dom:=λid o ho=>?_,old:=λid o ho=>?_,far:=λl' W9 b hb hn=>?_ }
 ·rcases z5.loc id g p hp with h1|h1|h1
  ·exact .inl h1
  ·exact .inr (.inl ⟨h1.1,ax h1.2 hmx⟩)
  exact .inr (.inr h1)
 ·have S3:∀z∈l,dP H.nx id (z.2.2.t.get id)=dP H.nx id (x.2.2.t.get id):=fL λhh=>hn (dC _ ((BQ _).2 ⟨aa,hh⟩));rw[hold id hid S3];obtain⟨l2,e2,f2⟩:=z5.log;refine f2 id hid λhm=>hn ?_;exact du _ (List.mem_flatMap.2 ⟨y,hy,by rw[GP e2];exact hm⟩)
 ·have hid:id<H.nx:=by
   rcases cL id H.nx with hh|hh
   ·exact hh
   rw[hR.wf id hh]at ho;cases ho
  obtain⟨o',D4⟩:=z5.dom id o ho;by_cases S3:∀z∈l,dP H.nx id (z.2.2.t.get id)=dP H.nx id (x.2.2.t.get id)
  ·exact⟨o',by rw[hold id hid S3];exact D4⟩
  have B0:id<wj l:=aa;by_cases hk:∃k,Ay l id k
  ·refine⟨.oth (.fmap hk.choose),?_⟩;show(vP H l x.2.2.t).get id=_;rw[jY,ad B0];unfold vQ;rw[ab S3,dif_pos hk]
  have Z4:∀z∈l,Dq z id:=fL λhh=>S3 λz hz=>congrArg (dP H.nx id) (((hc z hz).2.2.2 id hid).resolve_right λh=>h.elim hk hh);refine⟨.oth .lost,?_⟩;show(vP H l x.2.2.t).get id=_;rw[jY,ad B0];unfold vQ;rw[ab S3,dif_neg hk,ad Z4]
 ·obtain⟨o1,a1,a2⟩:=V1 id o ho;rcases z5.old id o1 a1 with h1|h1
  ·exact .inl h1
  exact .inr ⟨h1.1,ax h1.2 hmx⟩
 obtain⟨l2,e2,f2⟩:=z5.log;have e3:l'=Md H.nx l x.2.2.t (wj l)++abd H l:=by have:(Md H.nx l x.2.2.t (wj l)++abd H l)++H.log=l'++H.log:=W9;exact(xQ this).symm
 subst e3;exact z5.far l2 e2 b hb λid o g p hid=>hn id o g p (du _ (List.mem_flatMap.2 ⟨y,hy,by rw[GP e2];exact hid⟩))
def SA(E:Env):Prop:=
 ∀(N:Nat)(rec:Rec),FP E.P N rec->RecM rec->∀{m:Nat}{β:Pl}{H:Hp}{w:World}{A:ag}{a:Act}{id:Nat}{ops:Array Oper}{rB:Option Nat}{outs:List (au×ag×Hp)},m<=m->Rel m β H w->kL β A a->iu ops=true ->
  (eG E rec (uF E.P ops) 0 (gR [] 0 ops.toList) [] A H).bind iJ=.ok outs->(∀x∈outs,nE x<=m)->(Code.region id ops true).wpIn (fen rB) 0 E.P (gZ m β H w outs) a w
section
variable{E:Env}(hE:uU E)(hD:SA E){N:Nat}{rec:Rec}(N0:FP E.P N rec)(I0:RecM rec)
theorem QM{k id:Nat}{z:au×ag×Hp}(hz:k<=nE z):RG k nE (nT id z):=
 rz (RG.one hz) (λ_=>RG.ifE (RG.one (x:=(au.normal,z.2)) hz) (RG.one hz)) (RG.one hz)
theorem sR{e:au}{n r:R (au×ag×Hp)}{x:Nat->R (au×ag×Hp)}{o:List (au×ag×Hp)}(h:exE e n x r=.ok o):
  (e=.normal/\n=.ok o)\/(∃i,e=.exit i/\x i=.ok o)\/(e=.ret/\r=.ok o):=by
 cases e with
 |normal=>exact .inl ⟨rfl,h⟩
 |exit i=>exact .inr (.inl ⟨i,rfl,h⟩)
 |ret=>exact .inr (.inr ⟨rfl,h⟩)
theorem XR.normal{x:au}{e:Exit}(h:XR x e)(hx:x=.normal):e=.normal:=by subst hx;cases e<;>first|rfl|exact h.elim
theorem XR.exit{x:au}{e:Exit}{i:Nat}(h:XR x e)(hx:x=.exit i):e=.exit i:=by
 subst hx;cases e with
 |exit j=>have:i=j:=h;rw[this]
 |_=>exact h.elim
theorem XR.ret{x:au}{e:Exit}(h:XR x e)(hx:x=.ret):e=.ret:=by subst hx;cases e<;>first|rfl|exact h.elim
theorem tT{F:Fence}{n:Nat}{P:Program}{c:Code}{Q Q':Exit->Act->World->Prop}(hq:∀e a w,Q e a w->Q' e a w):∀{k:Nat}{a:Act}{w:World},Code.roundsIn F n P c Q k a w->Code.roundsIn F n P c Q' k a w
 |0,_,_,h=>h.elim
 |k+1,a,w,h=>by
  rw[roundsIn_succ]at h |-;refine Go.wpIn_mono h λe a1 w1 h1=>?_;cases e with
  |normal=>exact tT hq h1
  |exit _=>exact hq _ _ _ h1
  |goto _=>exact hq _ _ _ h1
  |ret=>exact hq _ _ _ h1
  |panic _=>exact hq _ _ _ h1
  |outgrown=>exact hq _ _ _ h1
include hE hD N0 I0
theorem vB:∀(c:Code){m:Nat}{β:Pl}{H:Hp}{w:World}{r rB:Option Nat}{A:ag}{a:Act}{outs:List (au×ag×Hp)},m<=m->Rel m β H w->kL β A a->pk β r rB ->
  (codeF E c).run rec r A H=.ok outs->(∀x∈outs,nE x<=m)->c.wpIn (fen rB) 0 E.P (gZ m β H w outs) a w/\∀x,c=.loop x->Code.roundsIn (fen rB) 0 E.P x (gZ m β H w outs) (N+1) a w:=by
 intro c;induction c with
 |skip=>
  intro m β H w r rB A a outs hm hR hA hr h hb;cases h
  exact⟨wpIn_skip ⟨_,List.mem_singleton.2 rfl,trivial,β,hA,hR,Ext.refl _ _ _⟩,λx hx=>by cases hx⟩
 |region id ops draw=>
  intro m β H w r rB A a outs hm hR hA hr h hb;refine⟨?_,λx hx=>by cases hx⟩;cases draw with
  |false=>exact Sb hE N0 I0 hm hR hA h hb
  |true=>
   have h':(Eng.ifE (iu ops) (CF.mk λrec _ a h=>(eG E rec (uF E.P ops) 0 (gR [] 0 ops.toList) [] a h).bind iJ) (CF.mk λ_ _ _ _=>.bad "draw - slots")).run rec r A H=.ok outs:=h
   cases hs:iu ops with
   |false=>rw[hs]at h';cases h'
   |true=>rw[hs]at h';exact hD N rec N0 I0 hm hR hA hs h' hb
 |seq x y hx hy=>
  intro m β H w r rB A a outs hm hR hA hr h hb;refine⟨?_,λx hx=>by cases hx⟩;obtain⟨l,hl,hk⟩:=R.gi (r:=(codeF E x).run rec r A H) (f:=xI (codeF E y) rec r) h;have hkr:∀z:au×ag×Hp,RG (nE z) nE (xI (codeF E y) rec r z):=λz=>rz (vC I0 y r _ _) (λ_=>RG.one (ai _)) (RG.one (ai _));have Y6:∀z∈l,nE z<=m:=λz hz=>by obtain⟨o,ho,hs⟩:=hk z hz;exact RG.rR (hkr z) ho hs hb
  refine wpIn_seq (Go.wpIn_mono (hx hm hR hA hr hl Y6).1 λe a1 w1 hp=>?_);obtain⟨z,hz,N8,β1,X8,l7,I1⟩:=hp;obtain⟨o,ho,hs⟩:=hk z hz;rcases sR ho with⟨U6,h1⟩|⟨i,U6,h1⟩|⟨U6,h1⟩
  ·rw[N8.normal U6];exact Go.wpIn_mono (hy hm l7 X8 (hr.mono I1.sub) h1 (λq hq=>hb q (hs q hq))).1 λe a2 w2 u7=>u7.ext I1 hs
  ·cases h1
   rw[N8.exit U6];exact⟨z,hs z (List.mem_singleton.2 rfl),by rw[U6];rfl,β1,X8,l7,I1⟩
  cases h1
  rw[N8.ret U6];exact⟨z,hs z (List.mem_singleton.2 rfl),by rw[U6];trivial,β1,X8,l7,I1⟩
 |cond c x y hx hy=>
  intro m β H w r rB A a outs hm hR hA hr h hb;refine⟨?_,λx hx=>by cases hx⟩;have h':gj (ev A.tm c) (.bad "cond") (λb=>Eng.ifE b ((codeF E x).run rec r A H) ((codeF E y).run rec r A H))=.ok outs:=h
  have hv:=cQ hA.tm.2.2 c;cases hc:ev A.tm c with
  |one q=>
   rw[hc]at h' hv;cases q with
   |b t=>
    have I5:a.eval c=.bool t:=hv;refine wpIn_cond I5 ?_;cases t with
    |true=>exact(hx hm hR hA hr h' hb).1
    |false=>exact(hy hm hR hA hr h' hb).1
   |i _ _=>cases h'
   |o _=>cases h'
  |agg _=>rw[hc]at h';cases h'
  |tup _=>rw[hc]at h';cases h'
  |any=>rw[hc]at h';cases h'
 |block id x hx=>
  intro m β H w r rB A a outs hm hR hA hr h hb;refine⟨?_,λx hx=>by cases hx⟩;obtain⟨o0,hb0,hj⟩:=Jy h;have Z3:(∀x∈o0,nE x<=m)/\∀e a' w',gZ m β H w o0 e a' w'->gZ m β H w outs e a' w':=by
   rcases hj with rfl|rfl
   ·exact⟨hb,λ_ _ _ h=>h⟩
   exact⟨UT hb,λ_ _ _ h=>h.join hR⟩
  obtain⟨hb,Z3⟩:=Z3;obtain⟨l,hl,hk⟩:=R.gi (r:=(codeF E x).run rec r A H) (f:=nT id) hb0;have Y6:∀z∈l,nE z<=m:=λz hz=>by obtain⟨o,ho,hs⟩:=hk z hz;exact RG.rR (QM (ai _)) ho hs hb
  refine wpIn_block (Go.wpIn_mono (hx hm hR hA hr hl Y6).1 λe a1 w1 hp=>?_);obtain⟨z,hz,N8,β1,X8,l7,I1⟩:=hp;obtain⟨o,ho,hs⟩:=hk z hz;rcases sR ho with⟨U6,h1⟩|⟨i,U6,h1⟩|⟨U6,h1⟩
  ·cases h1
   rw[N8.normal U6];exact Z3 _ _ _ ⟨z,hs z (List.mem_singleton.2 rfl),by rw[U6];trivial,β1,X8,l7,I1⟩
  ·rw[N8.exit U6];rw[cW]at h1;show if i=id then _ else _;split at h1
   ·rename_i hi
    cases h1
    rw[ad (aO hi)];exact Z3 _ _ _ ⟨_,hs _ (List.mem_singleton.2 rfl),trivial,β1,X8,l7,I1⟩
   rename_i hi
   cases h1
   rw[ab (λhh=>hi (by rw[hh];exact cZ _))];exact Z3 _ _ _ ⟨z,hs z (List.mem_singleton.2 rfl),by rw[U6];rfl,β1,X8,l7,I1⟩
  cases h1
  rw[N8.ret U6];exact Z3 _ _ _ ⟨z,hs z (List.mem_singleton.2 rfl),by rw[U6];trivial,β1,X8,l7,I1⟩
 |loop x hx=>
  intro m β H w r rB A a outs hm hR hA hr h hb;obtain⟨l,hl,hk⟩:=R.gi (r:=(codeF E x).run rec r A H) (f:=BP rec r x) h;have Y6:∀z∈l,nE z<=m:=λz hz=>by obtain⟨o,ho,hs⟩:=hk z hz;exact RG.rR (k:=nE z) (nx:=nE) (rz (I0.code _ _ _ _) (λ_=>RG.one (ai _)) (RG.one (ai _))) ho hs hb
  have hone:=(hx hm hR hA hr hl Y6).1;have hrounds:Code.roundsIn (fen rB) 0 E.P x (gZ m β H w outs) (N+1) a w:=by
   rw[roundsIn_succ];refine Go.wpIn_mono hone λe a1 w1 hp=>?_;obtain⟨z,hz,N8,β1,X8,l7,I1⟩:=hp;obtain⟨o,ho,hs⟩:=hk z hz;rcases sR ho with⟨U6,h1⟩|⟨i,U6,h1⟩|⟨U6,h1⟩
   ·rw[N8.normal U6];have:=(N0.code hm l7 X8 (hr.mono I1.sub) h1 (λq hq=>hb q (hs q hq))).2 x rfl;exact tT (λe a2 w2 u7=>u7.ext I1 hs) this
   ·cases h1
    rw[N8.exit U6];exact⟨z,hs z (List.mem_singleton.2 rfl),by rw[U6];rfl,β1,X8,l7,I1⟩
   cases h1
   rw[N8.ret U6];exact⟨z,hs z (List.mem_singleton.2 rfl),by rw[U6];trivial,β1,X8,l7,I1⟩
  exact⟨wpIn_loop_rounds _ hrounds,λy hy=>by cases hy;exact hrounds⟩
 |rangeFunc f ps as bo _ _=>intro m β H w r rB A a outs hm hR hA hr h hb;exact⟨RZ hE N0 I0 hm hR hA hr h hb,λx hx=>by cases hx⟩
 |exit id=>
  intro m β H w r rB A a outs hm hR hA hr h hb;cases h
  exact⟨wpIn_exit ⟨_,List.mem_singleton.2 rfl,rfl,β,hA,hR,Ext.refl _ _ _⟩,λx hx=>by cases hx⟩
 |scope x hx=>intro m β H w r rB A a outs hm hR hA hr h hb;exact⟨Ny (hx hm hR hA hr h hb).1 λl a w=>gZ.noGoto l a w,λx hx=>by cases hx⟩
 |label l=>
  intro m β H w r rB A a outs hm hR hA hr h hb;cases h
  exact⟨wpIn_label ⟨_,List.mem_singleton.2 rfl,trivial,β,hA,hR,Ext.refl _ _ _⟩,λx hx=>by cases hx⟩
 |goto l=>intro m β H w r rB A a outs hm hR hA hr h hb;cases h
 |ret=>
  intro m β H w r rB A a outs hm hR hA hr h hb;cases h
  exact⟨wpIn_ret ⟨_,List.mem_singleton.2 rfl,trivial,β,hA,hR,Ext.refl _ _ _⟩,λx hx=>by cases hx⟩
 |refuse x=>intro m β H w r rB A a outs hm hR hA hr h hb;cases h
end
section
variable{P:Program}{m:Nat}{β:Pl}{H:Hp}{w:World}
def PN{v:AV}{u:Value}(hv:AR β v u){x:Bool×List AC}(h:mS v=some x):TR β x u:=by
 cases v with
 |one c=>cases h;exact hv
 |agg l=>cases h;exact hv
 |tup l=>cases h
 |any=>cases h
def Wg{x:AV}{f:Nat->Nat->Nat->Nat->ah}{s:String}{y:AV}{H':Hp}(h:xF x (.bad s) f=.val y H'):∃a b c d,x=.one (.o (.ptr a b c d))/\f a b c d=.val y H':=by
 cases x with
 |one c=>
  cases c with
  |o q=>cases q<;>first|exact⟨_,_,_,_,rfl,h⟩|cases h
  |b _=>cases h
  |i _ _=>cases h
 |agg _=>cases h
 |tup _=>cases h
 |any=>cases h
def Vw(hR:Rel m β H w){t:TypeId}{a:Bool}{n:Nat}(ht:loadT P t=some (a,n)){x:AV}{v:Value}(hx:AR β x v){y:AV}{H':Hp}(h:eu H a n x=.val y H'):
  ∃u,(do loadVar t (<-asAddr v):Sem Value).run P w=.ok u w/\AR β y u:=by
 obtain⟨ha,hn⟩:=JR ht;obtain⟨id,g,off,lim,rfl,h1⟩:=Wg h;obtain⟨p,hp,Y5,rfl⟩:=hx;cases hc:iS H id g off lim n with
 |none=>rw[hc]at h1;cases h1
 |some c=>
  rw[hc]at h1;obtain⟨cells,hD,e3,e4,rfl⟩:=th hc;have hr:=hD hR hp;obtain⟨vs,Z1,Q3,M1⟩:=mU hr off n aa;cases a with
  |true=>
   cases h1
   refine⟨.agg vs.toArray,?_,vs,Q3,rfl⟩;have hl:=run_loadCells_list (P:=P) w ⟨p.b,p.o+off,none⟩ vs M1;rw[Z1]at hl;simp[asAddr,loadVar,iL ha,dW hn,hl]
  |false=>
   cases M3:(cells.drop off).take n with
   |nil=>rw[M3]at h1;cases h1
   |cons z l=>
    rw[M3]at Q3 h1;cases vs with
    |nil=>exact Q3.elim
    |cons u us=>
     cases h1
     refine⟨u,?_,Q3.1⟩;have h0:=M1 0 u rfl;have:(⟨p.b,p.o+off,none⟩:Addr).add 0=⟨p.b,p.o+off,none⟩:=rfl;rw[this]at h0;simp[asAddr,loadVar,iL ha,run_load,h0]
def Hi(tmps:Array Value):ResultVar->Sem Value
 |.tmp t=>pure (tmps.getD t undef)
 |.cell a t=>do loadVar t (<-asAddr (tmps.getD a undef))
def ZB(hR:Rel m β H w){tm:PT AV}{tmps:Array Value}(J1:∀t,AR β (aG (tm.get t) aQ λv=>v) (tmps.getD t undef)){x:ResultVar}{y:Bool×List AC}(h:ph P x tm H=some y):
  ∃u,(Hi tmps x).run P w=.ok u w/\TR β y u:=by
 cases x with
 |tmp t=>have h':aG (tm.get t) none mS=some y:=h;obtain⟨v,hv,hy⟩:=fi h';have:=J1 t;rw[hv]at this;exact⟨_,rfl,PN this hy⟩
 |cell a t=>
  cases hp:loadT P t with
  |none=>
   have:ph P (.cell a t)=λ_ _=>none:=by simp[ph,hp]
   rw[this]at h;cases h
  |some p=>
   have:ph P (.cell a t)=λtm h=>aG (tm.get a) none λv=>ah.rec (motive:=λ_=>Option (Bool×List AC)) (λv _=>mS v) (λ_=>none) (λ_ _=>none) (λ_ _=>none) (λ_=>none) (eu h p.1 p.2 v):=by simp[ph,hp]
   rw[this]at h;obtain⟨v,hv,hy⟩:=fi h;have hav:=J1 a;rw[hv]at hav;cases hd:eu H p.1 p.2 v with
   |val y' H'=>rw[hd]at hy;obtain⟨u,hu,hr⟩:=Vw (P:=P) hR (a:=p.1) (n:=p.2) hp hav hd;exact⟨u,hu,PN hr hy⟩
   |tN l=>rw[hd]at hy;cases hy
   |enter f l=>rw[hd]at hy;cases hy
   |round i l=>rw[hd]at hy;cases hy
   |bad s=>rw[hd]at hy;cases hy
def Fl(hR:Rel m β H w){tm:PT AV}{tmps:Array Value}(J1:∀t,AR β (aG (tm.get t) aQ λv=>v) (tmps.getD t undef)):∀{l:List ResultVar}{ys:List (Bool×List AC)},dq P l tm H=some ys ->
  ∃us:List Value,(l.mapM (Hi tmps)).run P w=.ok us w/\TRs β ys us
 |[],ys,h=>by cases h;exact⟨[],rfl,trivial⟩
 |x::l,ys,h=>by
  have h':aG (ph P x tm H) none (λx=>aG (dq P l tm H) none λl=>some (x::l))=some ys:=h;obtain⟨y,hy,h1⟩:=fi h';obtain⟨ys',hys,h2⟩:=fi h1;cases h2
  obtain⟨u,hu,hr⟩:=ZB hR J1 hy;obtain⟨us,J',hrs⟩:=Fl hR J1 hys;refine⟨u::us,?_,hr,hrs⟩;simp[List.mapM_cons,hu,J']
def TRs.length:∀{l:List (Bool×List AC)}{vs:List Value},TRs β l vs->vs.length=l.length
 |[],[],_=>rfl
 |_::_,_::_,h=>by simp[TRs.length h.2]
 |[],_::_,h=>h.elim
 |_::_,[],h=>h.elim
def Xq{ys:List (Bool×List AC)}{us:List Value}(h:TRs β ys us):AR β (gT ys) (if h:us.toArray.size=1 then us.toArray[0]else .tuple us.toArray):=by
 match ys,us,h with
 |[],[],h=>exact⟨[],trivial,rfl⟩
 |[(true,l)],[u],h=>exact h.1
 |[(false,[c])],[u],h=>exact h.1
 |a::b::l,u::v::us,h=>
  have:¬(u::v::us).toArray.size=1:=by simp
  rw[dif_neg this];have e:gT (a::b::l)=.tup (a::b::l):=by unfold gT;split<;>first|rfl|(rename_i h;cases h)
  rw[e];exact⟨_,h,rfl⟩
 |[(false,[])],[u],h=>exact h.1.elim
 |[(false,_::_::_)],[u],h=>exact h.1.elim
end
def mP{sub:PT aX}{n:Nat}{i:Nat}:∀{l:List Nat},i∈fk sub n l↔i∈l/\i<n/\∃o,sub.get i=some o
 |[]=>⟨λh=>(by cases h),λh=>(by cases h.1)⟩
 |x::l=>by
  show i∈ifE (Nat.blt x n) (aG (sub.get x) (fk sub n l) λ_=>x::fk sub n l) (fk sub n l)↔_;have ih:=mP (sub:=sub) (n:=n) (i:=i) (l:=l);rw[cW];split
  ·rename_i hb
   have hx:x<n:=bA hb;cases hg:sub.get x with
   |none=>
    rw[RN,ih];refine⟨λh=>⟨aR _ h.1,h.2⟩,λh=>⟨?_,h.2⟩⟩;rcases List.mem_cons.1 h.1 with rfl|h1
    ·obtain⟨o,ho⟩:=h.2.2;rw[hg]at ho;cases ho
    exact h1
   |some o=>
    rw[ET,List.mem_cons,ih];refine⟨λh=>?_,λh=>?_⟩
    ·rcases h with rfl|h
     ·exact⟨aT ..,hx,o,hg⟩
     exact⟨aR _ h.1,h.2⟩
    rcases List.mem_cons.1 h.1 with h1|h1
    ·exact .inl h1
    exact .inr ⟨h1,h.2⟩
  rename_i hb
  rw[ih];refine⟨λh=>⟨aR _ h.1,h.2⟩,λh=>⟨?_,h.2⟩⟩;rcases List.mem_cons.1 h.1 with rfl|h1
  ·exact absurd (bU h.2.1:Nat.blt i n=true) hb
  exact h1
def pG{i:Nat}:∀{n a:Nat},i∈dK a n↔a<=i/\i<a+n
 |0,a=>⟨λh=>(by cases h),λh=>aa⟩
 |n+1,a=>by show i∈a::dK (Nat.add a 1) n↔_;rw[List.mem_cons,pG];have:Nat.add a 1=a+1:=rfl;rw[this];omega
def wk{i:Nat}:∀{l:List Nat},Rx l i=true↔i∈l
 |[]=>⟨λh=>(by cases h),λh=>(by cases h)⟩
 |x::l=>by
  unfold Rx;cases h:Nat.beq x i with
  |true=>have:=aO h;subst this;simp
  |false=>
   have Q0:x≠i:=λe=>by subst e;rw[cZ]at h;cases h
   rw[List.mem_cons];simp only[cond_false,wk];exact⟨.inr,λh=>h.resolve_left λe=>Q0 e.symm⟩
def mJ{src:PT aX}{id:Nat}:∀{l:List Nat}{t:PT aX},(∀i∈l,i<i+1)->(dh t src l).get id=if id∈l then src.get id else t.get id
 |[],t,_=>by simp[dh]
 |i::l,t,h=>by
  unfold dh;rw[mJ λj hj=>h j (aR _ hj)];by_cases hl:id∈l
  ·rw[ad hl,ad (aR _ hl)]
  rw[ab hl,PT.zq _ _ _ _ (h i (aT ..))];by_cases hi:id=i
  ·subst hi;rw[ad rfl,ad (aT ..)]
  rw[ab hi,ab λhh=>(List.mem_cons.1 hh).elim hi hl]
def uw{id:Nat}:∀{l:List Nat}{t:PT aX},(∀i∈l,i<i+1)->(rf t l).get id=if id∈l then none else t.get id
 |[],t,_=>by simp[rf]
 |i::l,t,h=>by
  unfold rf;rw[uw λj hj=>h j (aR _ hj)];by_cases hl:id∈l
  ·rw[ad hl,ad (aR _ hl)]
  rw[ab hl];show(PT.put none t i).get id=_;rw[PT.zq _ _ _ _ (h i (aT ..))];by_cases hi:id=i
  ·subst hi;rw[ad rfl,ad (aT ..)]
  rw[ab hi,ab λhh=>(List.mem_cons.1 hh).elim hi hl]
def dJ{m:Nat}{u:Did}:∀{l:List Did},u∈bk m l↔u∈l/\Nat.testBit m u.idx=false
 |[]=>⟨λh=>(by cases h),λh=>(by cases h.1)⟩
 |x::l=>by
  show u∈ifE (Nat.testBit m x.idx) (bk m l) (x::bk m l)↔_;rw[cW];split
  ·rename_i hb
   rw[dJ];refine⟨λh=>⟨aR _ h.1,h.2⟩,λh=>⟨?_,h.2⟩⟩;rcases List.mem_cons.1 h.1 with rfl|h1
   ·rw[hb]at h;cases h.2
   exact h1
  rename_i hb
  rw[List.mem_cons,dJ,List.mem_cons];refine⟨λh=>?_,λh=>?_⟩
  ·rcases h with rfl|h
   ·exact⟨.inl rfl,by simpa using hb⟩
   exact⟨.inr h.1,h.2⟩
  rcases h.1 with rfl|h1
  ·exact .inl rfl
  exact .inr ⟨h1,h.2⟩
def Bu{U2:PT aX}:∀{wr:List Nat},yr U2 wr=true->∀i∈wr,U2.get i=none
 |[],_,i,hi=>by cases hi
 |x::wr,h,i,hi=>by
  have h':aG (U2.get x) (yr U2 wr) (λ_=>false)=true:=h;cases hg:U2.get x with
  |some o=>rw[hg]at h';cases h'
  |none=>
   rw[hg]at h';rcases List.mem_cons.1 hi with rfl|hi
   ·exact hg
   exact Bu (wr:=wr) h' i hi
def vK{wr:List Nat}:∀{us:List Did},iH us wr=true->∀u∈us,∀i∈wr,u.U2.get i=none
 |[],_,u,hu=>by cases hu
 |x::us,h,u,hu=>by
  have h':both (yr x.U2 wr) (iH us wr)=true:=h;rw[er,aV]at h';rcases List.mem_cons.1 hu with rfl|hu
  ·exact Bu h'.1
  exact vK h'.2 u hu
def pS{u:Did}{i:Nat}:de u i=true↔i∈u.wr\/(u.c0<=i/\i<u.c1):=by
 unfold de;rw[iZ,wk,aV];refine or_congr Iff.rfl (and_congr ?_ ?_)
 ·exact⟨bA,bU⟩
 exact⟨λh=>bA h,λh=>bU h⟩
def uD{u:Did}{i:Nat}(h:u.c0<=u.c1):i∈ia u↔de u i=true:=by rw[pS];show i∈u.wr++dK u.c0 (u.c1-u.c0)↔_;rw[iU,pG];have:u.c0+(u.c1-u.c0)=u.c1:=aa;rw[this]
def rV{acc:List Nat}{j i:Nat}:∀{es:List Edge},Nat.testBit (mO acc j es) i=true->∃e∈es,jq e=true/\e.on<j/\(i=e.on\/Nat.testBit (acc.getD e.on 0) i=true)
 |[],h=>by simp[mO]at h
 |e::es,h=>by
  unfold mO at h;cases hc:jq e&&Nat.blt e.on j with
  |false=>rw[hc]at h;obtain⟨e',he',r⟩:=rV (es:=es) h;exact⟨e',aR _ he',r⟩
  |true=>
   rw[hc]at h;rw[aV]at hc;have B0:e.on<j:=bA hc.2;have h':Nat.testBit ((1 <<< e.on ||| acc.getD e.on 0) ||| mO acc j es) i=true:=h;rw[Nat.testBit_or,Nat.testBit_or,iZ,iZ]at h';rcases h' with(h'|h')|h'
   ·rw[Nat.one_shiftLeft,Nat.testBit_two_pow]at h';exact⟨e,aT ..,hc.1,B0,.inl (by simpa using h'.symm:e.on=i).symm⟩
   ·exact⟨e,aT ..,hc.1,B0,.inr h'⟩
   obtain⟨e',he',r⟩:=rV (es:=es) h';exact⟨e',aR _ he',r⟩
def EI:∀(l:List Oper)(acc:List Nat)(j k:Nat),k<acc.length->(gR acc j l).getD k 0=acc.getD k 0
 |[],_,_,_,_=>rfl
 |o::l,acc,j,k,h=>by unfold gR;rw[EI l _ _ k (by simp;omega)];simp only[bt];rw[iw h]
def uB:∀(l:List Oper)(acc:List Nat)(j:Nat),acc.length=j->∀k o,l[k]?=some o->∀i,Nat.testBit ((gR acc j l).getD (j+k) 0) i=true ->
  ∃e∈o.after.toList,jq e=true/\e.on<j+k/\(i=e.on\/Nat.testBit ((gR acc j l).getD e.on 0) i=true)
 |[],_,_,_,k,o,h,_,_=>by simp at h
 |x::l,acc,j,hj,0,o,h,i,hi=>by
  simp at h
  subst h;unfold gR at hi |-;have U7:=λk hk=>EI l (acc++[mO acc j x.after.toList]) (Nat.add j 1) k hk;rw[U7 (j+0) (by simp;omega)]at hi;have he:(acc++[mO acc j x.after.toList]).getD (j+0) 0=mO acc j x.after.toList:=by simp[<-hj]
  rw[he]at hi;obtain⟨e,he,h1,h2,h3⟩:=rV hi;refine⟨e,he,h1,h2,h3.imp id λh3=>?_⟩;rw[U7 e.on (by simp;omega)];simp only[bt]at h3 |-;rw[iw aa];exact h3
 |x::l,acc,j,hj,k+1,o,h,i,hi=>by
  unfold gR at hi |-;have ih:=uB l (acc++[mO acc j x.after.toList]) (Nat.add j 1) (by simp[hj]) k o (by simpa using h) i;have e1:Nat.add j 1+k=j+(k+1):=by show j+1+k=_;omega
  rw[e1]at ih;exact ih hi
def tW{ops:Array Oper}{m:Nat}{y:Oper}:∀{l:List Oper}{i0:Nat},ss ops m y i0 l=true->∀k x,l[k]?=some x->Nat.testBit m (i0+k)=true\/DJ ops x y=false
 |[],_,_,k,x,h=>by simp at h
 |z::l,i0,h,0,x,hx=>by
  simp at hx
  subst hx;unfold ss at h;rw[aV,iZ]at h;exact h.1.imp id λh=>by simpa using h
 |z::l,i0,h,k+1,x,hx=>by
  unfold ss at h;rw[aV]at h;have:=tW (l:=l) (i0:=Nat.add i0 1) h.2 k x (by simpa using hx);have e1:Nat.add i0 1+k=i0+(k+1):=by show i0+1+k=_;omega
  rw[e1]at this;exact this
def wN{ops:Array Oper}:∀{l pre:List Oper}{ms:List Nat},tq ops pre l ms=true->∀k o,l[k]?=some o->∀i x,i<pre.length+k->(pre++l)[i]?=some x->Nat.testBit (ms.getD k 0) i=true\/DJ ops x o=false
 |[],_,_,_,k,o,h,_,_,_,_=>by simp at h
 |o::l,pre,[],h,_,_,_,_,_,_,_=>by unfold tq at h;cases h
 |o::l,pre,m::ms,h,0,o',ho,i,x,hi,hx=>by
  simp at ho
  subst ho;unfold tq at h;rw[aV]at h;have z5:pre[i]?=some x:=by rw[iw (by simpa using hi)]at hx;exact hx
  have:=tW h.1 i x z5;simpa using this
 |o::l,pre,m::ms,h,k+1,o',ho,i,x,hi,hx=>by unfold tq at h;rw[aV]at h;have:=wN h.2 k o' (by simpa using ho) i x (by simp;omega) (by simpa using hx);simpa using this
def mE:∀{l:List Oper}{j:Nat},oM j l=true->∀k o,l[k]?=some o->∀e∈o.after.toList,jq e=true->e.on<j+k
 |[],_,_,k,o,h,_,_,_=>by simp at h
 |x::l,j,h,0,o,ho,e,he,hu=>by
  simp at ho
  subst ho;unfold oM at h;rw[aV,om]at h;have:=h.1 e he;rw[hu]at this;simp at this
  exact this
 |x::l,j,h,k+1,o,ho,e,he,hu=>by
  unfold oM at h;rw[aV]at h;have:=mE h.2 k o (by simpa using ho) e he hu;have e1:Nat.add j 1+k=j+(k+1):=by show j+1+k=_;omega
  rw[e1]at this;exact this
def uu{ops:Array Oper}{x y:Oper}(h:DJ ops x y=false):(∀d,x.dst=some d->d∉slotsOf ops y/\y.dst≠some d)/\∀d,y.dst=some d->d∉slotsOf ops x:=by
 unfold DJ at h;rw[tF]at h;refine⟨λd hd=>?_,λd hd hm=>?_⟩
 ·have h1:=h.1;rw[hd]at h1;simp only[tF]at h1;refine⟨λhm=>?_,λhy=>?_⟩
  ·rw[wk.2 hm]at h1;cases h1.1
  rw[hy]at h1;have:=h1.2;simp only[cZ]at this;cases this
 have h2:=h.2;rw[hd]at h2;simp only at h2
 rw[wk.2 hm]at h2;cases h2
def EK{H H':Hp}{l:List Nat}(h:H'.log=l++H.log):BU H H'=l:=by unfold BU;rw[h,aI,Nat.add_sub_cancel,Am];rfl
def Bx{src:PT aX}{n id:Nat}:∀{l:List Nat}{t:PT aX},(∀i∈l,i<i+1)->(xG n t src l).get id=if id∈l then dP n id (src.get id)else t.get id
 |[],t,_=>by simp[xG]
 |i::l,t,h=>by
  unfold xG;rw[Bx λj hj=>h j (aR _ hj)];by_cases hl:id∈l
  ·rw[ad hl,ad (aR _ hl)]
  rw[ab hl,PT.zq _ _ _ _ (h i (aT ..))];by_cases hi:id=i
  ·subst hi;rw[ad rfl,ad (aT ..)]
  rw[ab hi,ab λhh=>(List.mem_cons.1 hh).elim hi hl]
open Classical in
def xy{H:Hp}{l:List (AV×Hp)}{t:PT aX}{id:Nat}:(Jz H l t).get id=if id<rW l/\∀x∈l,dP H.nx id (x.2.t.get id)=dP H.nx id (t.get id)then dP H.nx id (t.get id)else none:=by
 show(xG H.nx .leaf t ((dK 0 (rW l)).filter (vh H.nx l t))).get id=_;rw[Bx λi _=>ba i];have e:id∈(dK 0 (rW l)).filter (vh H.nx l t)↔id<rW l/\∀x∈l,dP H.nx id (x.2.t.get id)=dP H.nx id (t.get id):=by rw[xP,pG];unfold vh;rw[decide_eq_true_iff];exact⟨λh=>⟨aa,h.2⟩,λh=>⟨aa,h.2⟩⟩
 by_cases hc:id<rW l/\∀x∈l,dP H.nx id (x.2.t.get id)=dP H.nx id (t.get id)
 ·rw[ad hc,ad (e.2 hc)]
 rw[ab hc,ab λh=>hc (e.1 h)];rfl
def Wk(o o':aX):Prop:=o=o'\/o=aaN o'
def Wk.ro{o o':aX}(h:Wk o o'):o.oU=o'.oU:=by
 rcases h with rfl|rfl
 ·rfl
 cases o'<;>rfl
def Wk.gen{o o':aX}{β:Pl}{w:World}{id g:Nat}(h:Wk o o')(hr:ji β w id o')(hg:fm o g):fm o' g:=by
 rcases h with rfl|rfl
 ·exact hg
 cases o' with
 |arr c e lo gen=>exact⟨aS hr.1 hg.1,hg.2⟩
 |oth x=>exact hg
 |ro c=>exact hg
def Wk.obj{o o':aX}{β:Pl}{w:World}{id:Nat}(h:Wk o o')(hr:ji β w id o'):ji β w id o:=by
 rcases h with rfl|rfl
 ·exact hr
 cases o' with
 |arr c e lo gen=>obtain⟨h1,h2,h3,h4⟩:=hr;exact⟨ai _,λg a b=>h2 g (aS h1 a) b,λg g' p p' a b c=>h3 g g' p p' (aS h1 a) b c,h4⟩
 |oth x=>exact hr
 |ro c=>exact hr
def TQ{n id:Nat}{x:Option aX}{o:aX}(h:dP n id x=some o):∃o',x=some o'/\Wk o o':=by
 unfold dP at h;split at h
 ·exact⟨o,h,.inl rfl⟩
 cases x with
 |none=>cases h
 |some o'=>exact⟨o',rfl,.inr (eh h).symm⟩
def KQ{P:Program}{fn:Func}{tmps:Array Value}{w:World}{us:List Value}(h:(fn.results.toList.mapM (Hi tmps)).run P w=.ok us w):
  (results fn tmps).run P w=.ok (if h:us.toArray.size=1 then us.toArray[0]else .tuple us.toArray) w:=by
 have e:results fn tmps=(do let vs <-fn.results.mapM (Hi tmps);pure (if h:vs.size=1 then vs[0]else .tuple vs)):=by unfold results;congr 1
 rw[e,Array.mapM_eq_mapM_toList];simp[h]
section
variable{E:Env}{m:Nat}
def IQ(hm:m<=m){fn:Func}{tmps:Array Value}{R:Ending->World->Prop}:∀{ids:List Nat}{ds:List Deferred}{β:Pl}{H H2:Hp}{w:World},Rel m β H w->H.nx<=m->qF β ids ds->closeAll H ids=some H2 ->
  (∀w2,Rel m β H2 w2->Ext β H w β H2 w2->LeavesInM Fence.wide 0 E.P fn tmps R [] .returning w2)->LeavesInM Fence.wide 0 E.P fn tmps R ds .returning w
 |[],[],β,H,H2,w,hR,S0,_,h,hk=>by cases h;exact hk w hR (Ext.refl _ _ _)
 |i::ids,d::ds,β,H,H2,w,hR,S0,hM,h,hk=>by
  unfold closeAll at h;split at h
  ·rename_i hg
   obtain⟨p,hp,rfl⟩:=hM.1;obtain⟨q,hq,hw⟩:=hR.obj i _ hg;rw[hp]at hq;cases hq;have N4:w.heap[p.b]?=some (.deferred (some [])):=hw;have N3:=pP hR hm S0 hg (.dfr false) hp w rfl rfl rfl rfl (.deferred none) (λw' N4=>N4);refine⟨by simp,.inl ⟨p.b,{ w with heap:=w.heap.setIfInBounds p.b (.deferred none) },rfl,?_,?_⟩⟩
   ·simp[Instr.takeDeferred,getObj,setObj,Sem.run,N4]
   exact IQ hm N3.1 S0 hM.2 h λw2 h2 h3=>hk w2 h2 (N3.2.trans h3)
  cases h
 |[],_::_,_,_,_,_,_,_,hM,_,_=>hM.elim
 |_::_,[],_,_,_,_,_,_,hM,_,_=>hM.elim
end
def Cp{β:Pl}{nt:Nat}(h20:nt<=1048576):∀(args:List AV)(vs:List Value)(k:Nat)(tm:PT AV)(tmps:Array Value),ARs β args vs->TmR β tm nt tmps->k+vs.length<=nt ->
  TmR β (setArgs args k tm) nt ((tmps.toList.take k++vs++tmps.toList.drop (k+vs.length)).toArray)
 |[],[],k,tm,tmps,_,h,_=>by show TmR β tm nt _;simpa using h
 |x::args,v::vs,k,tm,tmps,ha,h,hk=>by
  have X3:k<nt:=by simp at hk;omega
  have ih:=Cp h20 args vs (k+1) (tm.set k x) (tmps.setIfInBounds k v) ha.2 (h.put X3 ha.1) (by simp at hk;omega);have B2:=h.1;have e:=list_seg_step tmps.toList k v vs (by simp at hk |-;omega);rw[HK]at ih;rw[e]at ih;have hl:k+1+vs.length=k+(v::vs).length:=by simp;omega
  exact ih
 |[],_::_,_,_,_,ha,_,_=>ha.elim
 |_::_,[],_,_,_,ha,_,_=>ha.elim
def Of{β:Pl}{nt:Nat}(h20:nt<=1048576){args:List AV}{vs:List Value}(ha:ARs β args vs)(hl:args.length<=nt):TmR β (setArgs args 0 .leaf) nt (vs.toArray++Array.replicate (nt-vs.toArray.size) undef):=by
 have h0:TmR β (.leaf:PT AV) nt (Array.replicate nt undef):=by
  refine⟨by simp,h20,λt=>?_⟩;have:(Array.replicate nt undef).getD t undef=undef:=by simp only[uS,Array.getElem?_replicate];split<;>rfl
  rw[this];exact qy β
 have Z1:=ha.length;have:=Cp h20 args vs 0 .leaf (Array.replicate nt undef) ha h0 aa;have e:((Array.replicate nt undef).toList.take 0++vs++(Array.replicate nt undef).toList.drop (0+vs.length)).toArray=vs.toArray++Array.replicate (nt-vs.toArray.size) undef:=by apply wV;simp
 rw[e]at this;exact this
section
variable{E:Env}(hE:uU E)(hD:SA E)
include hE hD
omit hE hD in
theorem AN{m:Nat}{β β1:Pl}{H:Hp}{w w1:World}(hm:m<=m){fn:Func}{x:au×ag×Hp}{a1:Act}{e:Exit}(hx:XR x.1 e)(hA:kL β1 x.2.1 a1)(hR:Rel m β1 x.2.2 w1)(I1:Ext β H w β1 x.2.2 w1)(S0:nE x<=m)
  {o outs:List (AV×Hp)} (ho:aK E fn.results.toList x=.ok o) (hs:∀y∈o,y∈outs) {R:Ending->World->Prop} (hQ:∀e w',oC m β H w outs e w'->R e w'):bodyPostM Fence.wide 0 E.P fn R e a1 w1:=by
 have key:∀{o:List (AV×Hp)},(aG (closeAll x.2.2 x.2.1.dfr) (.bad "marks") λh2=>aG (dq E.P fn.results.toList x.2.1.tm h2) (.bad "results") λl=>.ok [(gT l,h2)])=Eng.R.ok o->(∀y∈o,y∈outs) ->
   LeavesInM Fence.wide 0 E.P fn a1.tmps R a1.defers .returning w1:=by
  intro o ho hs;cases hc:closeAll x.2.2 x.2.1.dfr with
  |none=>rw[hc]at ho;cases ho
  |some h2=>
   rw[hc]at ho;have D4:aG (dq E.P fn.results.toList x.2.1.tm h2) (.bad "results") (λl=>Eng.R.ok [(gT l,h2)])=Eng.R.ok o:=ho
   refine IQ hm hR S0 hA.df hc λw2 hR2 hext2=>?_;cases hr:dq E.P fn.results.toList x.2.1.tm h2 with
   |none=>rw[hr]at D4;cases D4
   |some l=>
    rw[hr]at D4;cases D4
    obtain⟨us,J',G6⟩:=Fl (P:=E.P) hR2 hA.tm.2.2 hr;exact⟨_,KQ J',hQ _ _ ⟨_,rfl,_,hs _ (List.mem_singleton.2 rfl),β1,Xq G6,hR2,I1.trans hext2⟩⟩
 unfold aK at ho;cases O0:x.1 with
 |normal=>rw[O0]at ho;rw[hx.normal O0];exact key ho hs
 |exit i=>rw[O0]at ho;cases ho
 |ret=>rw[O0]at ho;rw[hx.ret O0];exact key ho hs
omit hE hD in
theorem oC.join{m:Nat}{β:Pl}{H:Hp}{w:World}(hR:Rel m β H w){l:List (AV×Hp)}{e:Ending}{w':World}(h:oC m β H w l e w'):oC m β H w (BK H l) e w':=by
 rcases rQ H l with ej|⟨x,hx,hc,ej⟩
 ·rw[ej];exact h
 rw[ej];obtain⟨v,rfl,y,hy,β',hv,i',z5⟩:=h;obtain⟨J4,hy2⟩:=hc y hy;have hmx:=vY hy;have hle:=z5.nx;have V1:∀id o,(Jz H l x.2.t).get id=some o->∃o',y.2.get id=some o'/\Wk o o':=λid o ho=>by
  rw[xy]at ho;by_cases hh:id<rW l/\∀z∈l,dP H.nx id (z.2.t.get id)=dP H.nx id (x.2.t.get id)
  ·rw[ad hh]at ho;exact TQ ((hh.2 y hy).trans ho)
  rw[ab hh]at ho;cases ho
 have hold:∀id,id<H.nx->(Jz H l x.2.t).get id=y.2.get id:=λid hid=>by rw[xy,ad ⟨aa,λz hz=>congrArg _ ((hc z hz).2 id hid)⟩];show(if id<H.nx then x.2.t.get id else _)=_;rw[ad hid];exact(hy2 id hid).symm
 refine⟨v,rfl,_,List.mem_singleton.2 rfl,β',by rw[<-J4];exact hv,⟨λid o ho=>(let ⟨o',h1,h2⟩:=V1 id o ho;h2.obj (i'.obj id o' h1)),λid id' o o' g g' p p' h1 h2 h3 h4 h5 h6 h7=>(by obtain⟨o1,a1,a2⟩:=V1 id o h1;obtain⟨o2,b1,b2⟩:=V1 id' o' h2;rw[a2.ro,b2.ro];exact i'.sep id id' o1 o2 g g' p p' a1 b1 (a2.gen (i'.obj id o1 a1) h3) (b2.gen (i'.obj id' o2 b1) h4) h5 h6 h7),λid hid=>?_,λid g h1 h2=>i'.free id g (aS hmx h1) h2⟩,?_⟩
 ·rw[xy,ab λhh=>absurd hh.1 (Nat.not_lt.2 hid)]
 refine{ sub:=z5.sub,loc:=λid g p hp=>?_,size:=z5.size,os:=z5.os,tape:=z5.tape,output:=z5.output,frame:=z5.frame,prov:=λid o g p h1 h2 h3=>(by
       obtain⟨o1,a1,a2⟩:=V1 id o h1;rw[a2.ro];exact z5.prov id o1 g p a1 (a2.gen (i'.obj id o1 a1) h2) h3),nx:=aS hle hmx,
         log:=⟨_,rfl,λid hid hn=>?_⟩,dom:=λid o ho=>?_,old:=λid o ho=>?_,far:=λl' W9 b hb hn=>?_ }
 ·rcases z5.loc id g p hp with h1|h1|h1
  ·exact .inl h1
  ·exact .inr (.inl ⟨h1.1,ax h1.2 hmx⟩)
  exact .inr (.inr h1)
 ·rw[hold id hid];obtain⟨l2,e2,f2⟩:=z5.log;refine f2 id hid λhm=>hn ?_;exact List.mem_flatMap.2 ⟨y,hy,by rw[EK e2];exact hm⟩
 ·have hid:id<H.nx:=by
   rcases cL id H.nx with hh|hh
   ·exact hh
   rw[hR.wf id hh]at ho;cases ho
  obtain⟨o',D4⟩:=z5.dom id o ho;exact⟨o',by rw[hold id hid];exact D4⟩
 ·obtain⟨o1,a1,a2⟩:=V1 id o ho;rcases z5.old id o1 a1 with h1|h1
  ·exact .inl h1
  exact .inr ⟨h1.1,ax h1.2 hmx⟩
 obtain⟨l2,e2,f2⟩:=z5.log;have e3:l'=l.flatMap λz=>BU H z.2:=by have:l.flatMap (λz=>BU H z.2)++H.log=l'++H.log:=W9;exact(xQ this).symm
 subst e3;exact z5.far l2 e2 b hb λid o g p hid=>hn id o g p (List.mem_flatMap.2 ⟨y,hy,by rw[EK e2];exact hid⟩)
theorem Ra{N:Nat}{rec:Rec}(N0:FP E.P N rec)(I0:RecM rec){m:Nat}{β:Pl}{H:Hp}{w:World}{f:FuncId}{args:List AV}{vs:List Value}{outs:List (AV×Hp)}(hm:m<=m)(hR:Rel m β H w)(ha:ARs β args vs)
  (h:nX E rec f args H=.ok outs) (hb:∀x∈outs,nV x<=m):CallsIn Fence.wide 0 E.P f vs.toArray w (oC m β H w outs):=by
 unfold nX Uv at h;cases hf:E.P.funcs[f]? with
 |none=>rw[hf]at h;cases h
 |some fn=>
  cases hb0:fn.body with
  |none=>rw[hf]at h;simp only[hb0]at h;cases h
  |some c=>
   rw[hf]at h;simp only[hb0]at h;have h':ifE (both (Nat.ble (vZ args) fn.ntmps) (Nat.ble fn.ntmps 1048576)) (yy H (((codeF E c).run rec none ⟨setArgs args 0 .leaf,fn.ntmps,[]⟩ H).bind (aK E fn.results.toList))) (.bad "too many arguments")=R.ok outs:=h
   rw[cW]at h';split at h'
   ·rename_i hc
    obtain⟨l0,I6,rfl⟩:=JA h';replace hb:=UW hb;obtain⟨l,hl,hk⟩:=R.gi I6;have Y6:∀x∈l,nE x<=m:=λx hx=>by obtain⟨o,ho,hs⟩:=hk x hx;exact RG.rR (um (ai _)) ho hs hb
    have J1:=Of (bA (an hc).2) ha (bA (an hc).1);have hA:kL β ⟨setArgs args 0 .leaf,fn.ntmps,[]⟩ { tmps:=vs.toArray++Array.replicate (fn.ntmps-vs.toArray.size) undef,defers:=[] }:=⟨J1,trivial⟩;refine callsIn_of_wp_marks hf hb0 trivial ?_;refine Go.wpIn_mono (vB hE hD N0 I0 c (r:=none) (rB:=none) hm hR hA rfl hl Y6).1 λe a1 w1 hp=>?_;obtain⟨x,hx,N8,β1,X8,l7,I1⟩:=hp;obtain⟨o,ho,hs⟩:=hk x hx;exact AN hm N8 X8 l7 I1 (Y6 x hx) ho hs λ_ _ h=>oC.join hR h
   cases h'
theorem vG:∀n,FP E.P n (eval E n)
 |0=>{ code:=λ_ _ _ _ h=>(by cases h),call:=λ_ _ _ h=>(by cases h) }
 |n+1=>
  { code:=λ{_ _ _ _ _ _ _ _ c _}hm hR hA hr h hb=>vB hE hD (vG n) (pq E n) c hm hR hA hr h hb,
    call:=λhm hR ha h hb=>Ra hE hD (vG n) (pq E n) hm hR ha h hb }
end
end Go.Eng
