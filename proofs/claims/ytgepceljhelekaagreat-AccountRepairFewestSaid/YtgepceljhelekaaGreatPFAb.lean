/- A part of the proof: EngOps4, EngOps5, EngOps6, EngOps7, EngOps8, EngStep, EngSound1, EngSound2, EngSound3, EngSound4, EngSound5, EngSound6, EngSound7, EngDraw1, EngSound8. No conditions. -/
import Derived.Test.YtgepceljhelekaaGreatPFAa
import Derived.Orders
import Derived.Laws.MakeOwn
import Derived.LoopNIn
set_option maxRecDepth 100000
set_option maxHeartbeats 64000000
set_option linter.all false
namespace Go.Eng
open Go
section
variable{P:Program}{m:Nat}{β:Pl}{H:Hp}{w:World}
theorem Yc(hR:Rel m β H w){sz:Nat}{x:AV}{v:Value}(hx:AR β x v){n:Nat}{c:List AC}(h:jt H sz x=some (n,c)):
  (n=0∧c=[]∧v=.slice none 0 0)∨∃(o':Addr)(cap:Nat)(vs:List Value),v=.slice (some o') n cap∧vs.length=n*sz∧CRs β c vs ∧
   ∀w':World,(∀b,b<w.heap.size->w'.heap[b]?=w.heap[b]?)->∀j u,vs[j]?=some u->w'.cell? (o'.add j)=some u:=by
 unfold jt at h;split at h
 ·rename_i id g off len sz'
  split at h
  ·rename_i c' L1 p_
   cases h
   have hs:sz'=sz:=zA3 L1;subst hs;obtain⟨p,cap,o',hp,hlen,k8,rfl,hex⟩:=hx
   obtain⟨cells,hD,h3,h4,rfl⟩:=nK p_
   have hr:=hD hR hp;obtain⟨vs,I1,V3,N3⟩:=iT hr off (Nat.mul n sz') hlen
   refine .inr ⟨o',cap,vs,rfl,I1,V3,λw' Y3 j u hu=>?_⟩;have hb:p.b<w.heap.size:=by obtain⟨cc,_,_,X3,_⟩:=hr;exact cD X3
   have C0:=(List.getElem?_eq_some_iff.1 hu).1;have hj:j<n*sz':=by rw[I1]at C0;exact C0
   have D4:0<n:=by
    rcases Nat.eq_zero_or_pos n with h0|h0
    ·rw[h0]at hj;omega
    exact h0
   have D3:o'=⟨p.b,p.o+off,none⟩:=by
    rcases hex with h|h
    ·omega
    exact h.1
   subst D3;have:=N3 j u hu;rw[<-this];have e:((⟨p.b,p.o+off,none⟩:Addr).add j).block=p.b:=by unfold Addr.add;split<;>rfl
   exact World.cell?_of_block (by rw[e];exact Y3 p.b hb)
  cases h
 ·cases h
  exact .inl ⟨rfl,rfl,hx⟩
 cases h
theorem fG{sz n:Nat}{o':Addr}{cap:Nat}{vs:List Value}{w':World}(hl:vs.length=n*sz)(h:∀j u,vs[j]?=some u->w'.cell? (o'.add j)=some u)(len:Nat):
  (Builtin.firstCells sz n (.slice (some o') len cap)).run P w'=.ok vs.toArray w':=run_firstCells_some (P:=P) w' sz n o' len cap vs hl h
theorem xb{cells:List AC}{e:TypeId}{p:Place}(h:fV β w cells e p){c:List AC}{vs:List Value}(hc:CRs β c vs){pre:List AC}(k0:Nat)(Q3:k0+pre.length≤p.hi)(u6:pre=(cells.drop k0).take pre.length)
  (J3:p.o+k0+pre.length+c.length≤p.n):
  ∃cur:Array Value,w.heap[p.b]?=some (.cells cur e (0,0))∧p.o+k0+pre.length+vs.length≤cur.size ∧
   fV β (w.setRow p.b (cur.toList.take (p.o+k0+pre.length)++vs++cur.toList.drop (p.o+k0+pre.length+vs.length)).toArray) (pre++c) e ⟨p.b,p.o+k0,p.n,pre.length+c.length⟩:=by
 obtain⟨cur,h1,h2,h3,h4,h5⟩:=h
 have hl:=hc.length;refine⟨cur,h1,by omega,?_⟩
 have hfit':p.o+k0+pre.length+vs.length≤cur.toList.length:=by simp;omega
 refine⟨_,setRow_heap w p.b cur _ e _ h1,?_,?_,?_,?_⟩
 ·rw[List.append_assoc,List.size_toArray,fj _ _ _ hfit'];simpa using h2
 ·show p.o+k0+(pre.length+c.length)≤p.n;omega
 ·show pre.length+c.length≤(pre++c).length;simp
 intro k x hk hx;have O3:k<pre.length+c.length:=hk;show∃v,(List.toArray (cur.toList.take (p.o+k0+pre.length)++vs++cur.toList.drop (p.o+k0+pre.length+vs.length)))[p.o+k0+k]?=some v∧CR β x v
 rw[List.append_assoc,List.getElem?_toArray,gj _ _ _ _ hfit'];by_cases a1:k<pre.length
 ·rw[List.getElem?_append_left a1]at hx;rw[zB0 (by omega)];have U3:cells[k0+k]?=some x:=by
   have e1:((cells.drop k0).take pre.length)[k]?=some x:=by rw[<-u6];exact hx
   rw[List.getElem?_take,zB0 a1,List.getElem?_drop]at e1;exact e1
  obtain⟨v,hv,hr⟩:=h5 (k0+k) x (by omega) U3
  exact⟨v,by rw[Array.getElem?_toList,Nat.add_assoc];exact hv,hr⟩
 rw[List.getElem?_append_right (by omega)]at hx;rw[zB1 (by omega),zB0 (by omega)];have C0:k-pre.length<vs.length:=by omega
 refine⟨vs[k-pre.length],?_,hc.get _ x _ hx (zB4 C0)⟩
 rw[show p.o+k0+k-(p.o+k0+pre.length)=k-pre.length from by omega,zB4 C0]
theorem yG{pre c:List AC}{us vs:List Value}(hp:CRs β pre us)(hc:CRs β c vs)(e:TypeId)(tail:Array Value)(w0:World)(hw:w0.heap=w.heap):
  fV β { w0 with heap:=w0.heap.push (.cells (us.toArray++vs.toArray++tail) e) } (pre++c) e ⟨w.heap.size,0,us.length+vs.length+tail.size,pre.length+c.length⟩:=by
 have h1:=hp.length;have h2:=hc.length;refine⟨us.toArray++vs.toArray++tail,?_,by simp,?_,?_,?_⟩
 ·show(w0.heap.push _)[w.heap.size]?=_
  rw[<-hw,Array.getElem?_push_size]
 ·show 0+(pre.length+c.length)≤us.length+vs.length+tail.size;omega
 ·show pre.length+c.length≤(pre++c).length;simp
 intro k x hk hx;have O3:k<pre.length+c.length:=hk;have X3:=(hp.append hc);have C0:k<(us++vs).length:=by simp;omega
 refine⟨(us++vs)[k],?_,X3.get k x _ hx (zB4 C0)⟩
 show(us.toArray++vs.toArray++tail)[0+k]?=_
 rw[Nat.zero_add,Array.getElem?_append_left (by simp;simp at C0;omega)];rw[<-Array.getElem?_toList,Array.toList_append,zB4]
theorem xC(t ty e:TypeId)(i:TypeInfo)(ht:P.underlying t=some (.slice e))(hi:P.info? e=some i)
  (g o sLen sCap:Nat) (cur:Array Value) (hg:w.heap[g]?=some (.cells cur e (0,0)))
  (v:Value) (m:Nat) (news:List Value) (hv:(Builtin.lenOf v).run P w=.ok m w) (hn:(Builtin.firstCells i.size m v).run P w=.ok news.toArray w) (h1:∀u∈news,u.oneCell'=true)
  (L4:sLen+m≤sCap) (J3:o+sLen*i.size+news.length≤cur.size):
  (Builtin.append_ #[t,t] ty #[.slice (some ⟨g,o,none⟩) sLen sCap,v]).run P w =
   .ok (.slice (some ⟨g,o,none⟩) (sLen+m) sCap) (w.setRow g (cur.toList.take (o+sLen*i.size)++news++cur.toList.drop (o+sLen*i.size+news.length)).toArray):=by
 have Y2:=run_storeCells_at P g (o+sLen*i.size) e news 0 cur w hg (by simpa using J3) h1;simp only[Nat.add_zero]at Y2;simp[Builtin.append_,run_underlying ht,sizeOf,typeInfo,hi,hv,L4,hn,re,Y2]
theorem lN(t ty e:TypeId)(i:TypeInfo)(z:Value)(ht:P.underlying t=some (.slice e))(hi:P.info? e=some i)(hz:i.zero=some z)
  (s:Option Addr) (sLen sCap:Nat) (olds:List Value) (ho:(Builtin.firstCells i.size sLen (.slice s sLen sCap)).run P w.drew=.ok olds.toArray w.drew)
  (v:Value) (m:Nat) (news:List Value) (hv:(Builtin.lenOf v).run P w=.ok m w) (hn:(Builtin.firstCells i.size m v).run P w.drew=.ok news.toArray w.drew)
  (hg:sCap<sLen+m) (hb:(sLen+m)*i.bytes≤140737488355328) (h63:sLen+m≤140737488355328):
  (Builtin.append_ #[t,t] ty #[.slice s sLen sCap,v]).run P w =
   .ok (.slice (some ⟨w.heap.size,0,none⟩) (sLen+m) (grownCap w (sLen+m) sCap e))
    (w.drew.alloc (.cells (olds.toArray++news.toArray++Builtin.zeroCells z.cells (grownCap w (sLen+m) sCap e-(sLen+m))) e)):=by
 have D9:¬(sLen+m≤sCap):=by omega
 have h63':¬(9223372036854775807<((sLen:Int)+(m:Int))):=by omega
 have h48':¬(281474976710656<Builtin.nextslicecap (sLen+m) sCap*i.bytes):=by have:=growslice_fits hg hb;omega
 simp[Builtin.append_,run_underlying ht,sizeOf,typeInfo,zeroValue,hi,hz,hv,D9,h63',h48',Question.forced,hn,ho,Go.newRow,grownCap];congr 2
 apply Array.ext'
 simp[List.append_assoc]
theorem UF{cells:List AC}{e:TypeId}{p:Place}(h:fV β w cells e p)(c:List AC):fV β w (cells++c) e p:=by
 obtain⟨cc,r1,r2,r3,r4,r5⟩:=h
 refine⟨cc,r1,r2,r3,by rw[List.length_append];omega,λj y hj hy=>?_⟩
 rw[List.getElem?_append_left (by omega)]at hy;exact r5 j y hj hy
theorem Pw{cells:List AC}{e:TypeId}{p q:Place}(h:fV β w cells e q){cur:Array Value}(hcur:w.heap[p.b]?=some (.cells cur e (0,0)))(vs:List Value)(k:Nat)(hk:k+vs.length≤cur.size)
  (hq:q.b=p.b->q.o+q.hi≤k):fV β (w.setRow p.b (cur.toList.take k++vs++cur.toList.drop (k+vs.length)).toArray) cells e q:=by
 obtain⟨cc,r1,r2,r3,r4,r5⟩:=h
 by_cases hb:q.b=p.b
 ·rw[hb,hcur]at r1;cases r1;have J3:k+vs.length≤cur.toList.length:=by simpa using hk
  have I8:=hq hb;refine⟨_,by rw[hb];exact setRow_heap w p.b cur _ e _ hcur,?_,r3,r4,λj y hj hy=>?_⟩
  ·rw[List.append_assoc,List.size_toArray,fj _ _ _ J3];simpa using r2
  obtain⟨v',Z3,E3⟩:=r5 j y hj hy
  refine⟨v',?_,E3⟩
  rw[List.append_assoc,List.getElem?_toArray,gj _ _ _ _ J3,zB0 (by omega),Array.getElem?_toList];exact Z3
 exact⟨cc,by rw[setRow_other _ _ _ _ hb];exact r1,r2,r3,r4,r5⟩
theorem DC{w':World}{id:Nat}{cells c:List AC}{e:TypeId}{lo gen:Nat}(h:fk β w id (.arr cells e lo gen)){q:Place}(hr:fV β w' (cells++c) e q)(hq:q.hi=(cells++c).length)
  (hold:∀k p,lo≤k->k≤gen->β id k=some p->fV β w' cells e p∧(p.b=q.b->p.o=q.o)):fk (plus β id (gen+1) q) w' id (.arr (cells++c) e lo (gen+1)):=by
 obtain⟨h1,h2,h3,h4⟩:=h
 have hs:Sub β (plus β id (gen+1) q):=fQ (h4 _ (by omega));refine⟨by omega,?_,?_,?_⟩
 ·intro k U4 R2;by_cases hk:k=gen+1
  ·subst hk;exact⟨_,aN _ _ _ _,fV.mono hs hr rfl,λ_=>hq⟩
  obtain⟨p,hp,_,_⟩:=h2 k U4 (by omega)
  exact⟨p,hs _ _ _ hp,fV.mono hs (UF (hold k p U4 (by omega) hp).1 c) rfl,λh=>absurd h hk⟩
 ·intro k k' p p' U4 R2 hk3 hp I7;by_cases O3:k'=gen+1
  ·subst O3;rw[aN]at I7;cases I7;by_cases hk:k=gen+1
   ·subst hk;rw[aN]at hp;cases hp;exact⟨zA1 _,λ_=>rfl⟩
   rw[bw _ _ _ _ (by omega)]at hp;obtain⟨r,M3⟩:=(hold k p U4 (by omega) hp)
   obtain⟨cc,_,_,_,r4,_⟩:=r
   exact⟨by rw[hq,List.length_append];omega,M3⟩
  rw[bw _ _ _ _ (by omega)]at hp I7;exact h3 k k' p p' U4 R2 (by omega) hp I7
 intro k hk;rw[bw _ _ _ _ (by omega)];exact h4 k (by omega)
theorem nP{w':World}{id:Nat}{cells cells':List AC}{e:TypeId}{lo gen:Nat}(h:fk β w id (.arr cells e lo gen)){q:Place}(hr:fV β w' cells' e q)(hq:q.hi=cells'.length):
  fk (plus β id (gen+1) q) w' id (.arr cells' e (gen+1) (gen+1)):=by
 obtain⟨h1,h2,h3,h4⟩:=h
 have hs:Sub β (plus β id (gen+1) q):=fQ (h4 _ (by omega));refine⟨by omega,?_,?_,?_⟩
 ·intro k U4 R2;have hk:k=gen+1:=by omega
  subst hk;exact⟨_,aN _ _ _ _,fV.mono hs hr rfl,λ_=>hq⟩
 ·intro k k' p p' U4 R2 hk3 hp I7;have hk:k=gen+1:=by omega
  have O3:k'=gen+1:=by omega
  subst hk;subst O3;rw[hp]at I7;cases I7;exact⟨zA1 _,λ_=>rfl⟩
 intro k hk;rw[bw _ _ _ _ (by omega)];exact h4 k (by omega)
theorem pd(z:Value)(n:Nat):(Builtin.zeroCells z.cells n).size=n*z.cells.size:=by simp[Builtin.zeroCells]
theorem OO(hR:Rel m β H w)(hm:m≤m){t:TypeId}(ty:TypeId){x y:AV}{v u:Value}(hx:AR β x v)(hy:AR β y u):
  ah P m β H w (bh P H t x y) ((do let r <-Builtin.append_ #[t,t] ty #[v,u];pure (Next.value r):Sem Next).run P w):=by
 unfold bh;refine ah.nd λes hes=>ah.nd λby_ hby=>ah.nd λz hz=>ah.guard λU6=>ah.nd λnc hnc=>?_;obtain⟨e,sz⟩:=es
 obtain⟨n,c⟩:=nc
 obtain⟨hu,hs⟩:=jO hes
 obtain⟨ho,A0,it,S3,hiz⟩:=iG hz
 obtain⟨it2,T9,L1⟩:=iu hs
 obtain⟨it3,S9,hbs⟩:=oy hby
 simp only at S3 T9 S9
 rw[S3]at T9 S9;cases T9;cases S9
 have q8:CRs β (ofValue z).cells z.cells.toList:=(cZ ho).cells (mB A0);have G5:bq (ofValue z).cells=sz:=zA3 (ag U6).2;have hz2:sz≠0:=by
  have:=(ag U6).1;intro h0;simp only at this
  rw[h0]at this;cases this
 have hzs:z.cells.size=it.size:=by rw[L1,<-G5,bj];simpa using q8.length
 have Q9:=Yc hR hy hnc;show ah P m β H w (dp H e sz by_ n c x) _;have S6:(Builtin.lenOf u).run P w=.ok n w:=by
  rcases Q9 with⟨rfl,_,rfl⟩|⟨o',cap,vs,rfl,_⟩<;>rfl
 obtain⟨vs,I1,W2,E5⟩:∃vs:List Value,vs.length=n*sz∧CRs β c vs∧∀w':World,(∀b,b<w.heap.size->w'.heap[b]?=w.heap[b]?)->(Builtin.firstCells it.size n u).run P w'=.ok vs.toArray w':=by
  rcases Q9 with⟨rfl,rfl,rfl⟩|⟨o',cap,vs,rfl,h1,h2,h3⟩
  ·exact⟨[],by simp,trivial,λw' _=>by simp[Builtin.firstCells]⟩
  exact⟨vs,h1,h2,λw' Y3=>fG (by rw[L1];exact h1) (h3 w' Y3) _⟩
 have J1:c.length=n*sz:=by rw[<-I1];exact W2.length.symm
 unfold dp;split
 ·
  have U3:v=.slice none 0 0:=hx;subst U3;rw[bL];split
  ·rename_i h0
   have J2:n=0:=zA3 h0;subst J2;have hz0:(Builtin.firstCells it.size 0 u).run P w=.ok #[] w:=by
    have:=E5 w (λ_ _=>rfl);have hv0:vs=[]:=List.eq_nil_of_length_eq_zero (by simpa using I1);rw[hv0]at this;exact this
   refine ah.same hR (v:=.slice none 0 0) ?_ rfl;simp[Builtin.append_,run_underlying hu,sizeOf,typeInfo,S3,S6,hz0]
  rename_i h0
  have J2:n≠0:=λh=>h0 (by rw[h];rfl);refine ah.guard λhb=>?_;have Z2:n≤140737488355328:=zA4 (ag hb).1;have hb2:n*by_≤140737488355328:=zA4 (ag hb).2;intro V0;have Z7:H.nx+1≤m:=V0;have Q1:=lN (P:=P) (w:=w) t ty e it z hu S3 hiz none 0 0 [] (by simp[Builtin.firstCells]) u n vs S6 (E5 w.drew (λ_ _=>rfl)) (by omega) (by rw[hbs];simpa using hb2) (by omega);simp only[Nat.zero_add,Array.empty_append]at Q1;have B4:=tU hR hm (by omega) c vs.toArray e (by simpa using W2) w.drew rfl rfl rfl rfl (Builtin.zeroCells z.cells (grownCap w n 0 e-n));refine⟨_,_,.inl (by simp only[Sem.run_bind,Q1,Result.andThen_ok];rfl),Out.one ?_ B4⟩
  refine⟨_,grownCap w n 0 e,_,aN _ _ _ _,?_,grownCap_ge w n 0 e,rfl,.inr ⟨rfl,?_⟩⟩
  ·show 0+n*sz≤c.length;omega
  show 0+0+grownCap w n 0 e*sz≤vs.toArray.size+(Builtin.zeroCells z.cells _).size;have hge:=grownCap_ge w n 0 e;rw[pd,hzs,L1,List.size_toArray,I1,<-Nat.add_mul];have:n+(grownCap w n 0 e-n)=grownCap w n 0 e:=by omega
  rw[this];omega
 ·
  rename_i id g off len sz'
  obtain⟨p,cap,o',hp,hlen,k8,rfl,hex⟩:=hx
  unfold nh;cases Y4:H.get id with
  |none=>exact trivial
  |some ob=>
   cases ob with
   |oth q=>exact trivial
   |ro q=>exact trivial
   |arr cells e' lo gen=>
    refine ah.guard λhc=>?_;have c1:sz'=sz:=zA3 (ag hc).1;have c2:e'=e:=zA3 (ag (ag hc).2).1;have c3:lo≤g:=zA4 (ag (ag (ag hc).2).2).1;have c4:g≤gen:=zA4 (ag (ag (ag (ag hc).2).2).2).1;have c5:off+len*sz≤bq cells:=zA4 (ag (ag (ag (ag (ag hc).2).2).2).2).1;have c6:len+n≤140737488355328:=zA4 (ag (ag (ag (ag (ag (ag hc).2).2).2).2).2).1;have c7:(len+n)*by_≤140737488355328:=zA4 (ag (ag (ag (ag (ag (ag hc).2).2).2).2).2).2;subst c1 c2;rw[bj]at c5;rw[bL];split
    ·
     rename_i h0
     have J2:n=0:=zA3 h0;subst J2;have hz0:(Builtin.firstCells it.size 0 u).run P w=.ok #[] w:=by
      have:=E5 w (λ_ _=>rfl);have hv0:vs=[]:=List.eq_nil_of_length_eq_zero (by simpa using I1);rw[hv0]at this;exact this
     refine ah.same hR (v:=.slice (some o') len cap) ?_ ⟨p,cap,o',hp,hlen,k8,rfl,hex⟩;simp[Builtin.append_,run_underlying hu,sizeOf,typeInfo,S3,S6,k8,hz0,storeCells]
    rename_i h0
    have J2:n≠0:=λh=>h0 (by rw[h];rfl);obtain⟨P0,I9⟩:=jj hR Y4 c3 c4 hp
    have hgenp:∃pg,β id gen=some pg∧fV β w cells e' pg∧pg.hi=cells.length:=by
     obtain⟨hle,hrows,_,_⟩:=hR.obj id _ Y4
     obtain⟨q,hq,hr,hh⟩:=hrows gen (by omega) (zA1 _)
     exact⟨q,hq,hr,hh rfl⟩
    obtain⟨us,O4,z',o8⟩:=iT P0.d off (len*sz') hlen
    have u6:(cut cells off (Nat.mul len sz')).length=len*sz':=by rw[<-O4,jz];exact z'.length.symm
    have B4:β id (gen+1)=none:=(hR.obj id _ Y4).2.2.2 (gen+1) (by omega);have U0:∀q,Sub β (plus β id (gen+1) q):=λq=>fQ B4;have hways:(∃cur:Array Value,len+n≤cap∧o'=⟨p.b,p.o+off,none⟩∧p.o+off+len*sz'+c.length≤p.n∧w.heap[p.b]?=some (.cells cur e' (0,0))∧p.o+off+len*sz'+vs.length≤cur.size ∧
      (Builtin.append_ #[t,t] ty #[.slice (some o') len cap,u]).run P w=.ok (.slice (some ⟨p.b,p.o+off,none⟩) (len+n) cap) (w.setRow p.b (cur.toList.take (p.o+off+len*sz')++vs++cur.toList.drop (p.o+off+len*sz'+vs.length)).toArray)∧p.o+off+cap*sz'≤p.n) ∨
      (cap<len+n∧∃(tail:Array Value)(ncap:Nat),len+n≤ncap∧us.length+vs.length+tail.size=ncap*sz' ∧
       (Builtin.append_ #[t,t] ty #[.slice (some o') len cap,u]).run P w=.ok (.slice (some ⟨w.heap.size,0,none⟩) (len+n) ncap) (w.drew.alloc (.cells (us.toArray++vs.toArray++tail) e'))):=by
     by_cases L4:len+n≤cap
     ·left;have hex':o'=⟨p.b,p.o+off,none⟩∧p.o+off+cap*sz'≤p.n:=by
       rcases hex with h|h
       ·omega
       exact h
      have hmul:(len+n)*sz'≤cap*sz':=Nat.mul_le_mul_right _ L4;rw[Nat.add_mul]at hmul;obtain⟨cur,h1,h2,h3,h4,h5⟩:=P0
      have J3:p.o+off+len*sz'+vs.length≤cur.size:=by omega
      have Q1:=xC (P:=P) (w:=w) t ty e' it hu S3 p.b (p.o+off) len cap cur h1 u n vs S6 (E5 w (λ_ _=>rfl)) W2.gG L4 (by rw[L1];exact J3);rw[L1]at Q1;rw[hex'.1];exact⟨cur,L4,rfl,by omega,h1,J3,Q1,hex'.2⟩
     right;refine⟨by omega,Builtin.zeroCells z.cells (grownCap w (len+n) cap e'-(len+n)),grownCap w (len+n) cap e',grownCap_ge w (len+n) cap e',?_,?_⟩
     ·have hge:=grownCap_ge w (len+n) cap e';rw[pd,hzs,L1,O4,I1,<-Nat.add_mul,<-Nat.add_mul];congr 1
      omega
     have hold:(Builtin.firstCells it.size len (.slice (some o') len cap)).run P w.drew=.ok us.toArray w.drew:=by
      refine fG (by rw[L1];exact O4) (λj q hj=>?_) len;have C0:=(List.getElem?_eq_some_iff.1 hj).1;have D3:o'=⟨p.b,p.o+off,none⟩:=by
       rcases hex with h|h
       ·have R_:len=0:=by omega
        rw[O4,R_]at C0;omega
       exact h.1
      rw[D3];exact o8 j q hj
     exact lN (P:=P) (w:=w) t ty e' it z hu S3 hiz (some o') len cap us hold u n vs S6 (E5 w.drew (λ_ _=>rfl)) (by omega) (by rw[hbs];exact c7) (by omega)
    have hcell':cut cells off (Nat.mul len sz')=(cells.drop off).take (cut cells off (Nat.mul len sz')).length:=by rw[u6,jz];rfl
    rw[bL];split
    ·
     rename_i b8
     have d1:g=gen:=zA3 (ag b8).1;have d2:off=0:=zA3 (ag (ag b8).2).1;have d3:len*sz'=bq cells:=zA3 (ag (ag b8).2).2;rw[bj]at d3;subst d1 d2;intro V0;have hcut:cut cells 0 (Nat.mul len sz')=cells:=by
      rw[jz,List.drop_zero];exact List.take_of_length_le (by show cells.length≤len*sz';omega)
     rw[hcut]at u6 hcell';have O8:CRs β cells us:=by
      have:=z';rw[List.drop_zero,List.take_of_length_le (by omega)]at this;exact this
     rw[gE];have hhi':=I9 rfl;rcases hways with⟨cur,w1,w2,w3,w4,w5,w6,w7⟩|⟨w1,tail,ncap,w2,w3,w4⟩
     ·
      obtain⟨cur',V8,_,O2⟩:=xb P0 W2 (pre:=cells) 0 (by omega) (by rw[List.drop_zero,List.take_length]) (by omega)
      rw[w4]at V8;cases V8;simp only[Nat.add_zero]at O2 w6 w2 w3 w7;rw[show len*sz'=cells.length from d3]at w6;have P2:=ik hR hm V0 Y4 (.arr (cells++c) e' lo (g+1)) (β':=plus β id (g+1) ⟨p.b,p.o,p.n,cells.length+c.length⟩) (w':=w.setRow p.b (cur.toList.take (p.o+cells.length)++vs++cur.toList.drop (p.o+cells.length+vs.length)).toArray)
       (U0 _) (λi hi k=>bw _ _ _ _ (λh=>hi h.1)) (by simp) (by simp) (by simp) (by simp)
       (λb _ hb=>setRow_other w p.b b _ (λhh=>hb g p ⟨c3,zA1 _⟩ hp hh.symm))
       (DC (hR.obj id _ Y4) O2 (by simp) λk q U4 R2 hq=>by
        have T7:=(hR.obj id _ Y4).2.2.1 k g q p U4 R2 (zA1 _) hq hp;obtain⟨hr,_⟩:=jj hR Y4 U4 R2 hq
        exact⟨Pw hr w4 vs _ (by omega) (λhb=>by rw[T7.2 hb];omega),T7.2⟩)
       (λk q hk hq=>.inr (by
        by_cases O3:k=g+1
        ·subst O3;rw[aN]at hq;cases hq;exact⟨g,p,⟨c3,zA1 _⟩,hp,rfl⟩
        rw[bw _ _ _ _ (by omega)]at hq;exact⟨k,q,⟨hk.1,by have:=hk.2;omega⟩,hq,rfl⟩))
      refine⟨_,_,.inl (by simp only[Sem.run_bind,w6,Result.andThen_ok];rfl),Out.one ?_ P2⟩
      refine⟨_,cap,_,aN _ _ _ _,?_,w1,rfl,.inr ⟨rfl,?_⟩⟩
      ·show 0+(len+n)*sz'≤cells.length+c.length;rw[Nat.add_mul];omega
      show p.o+0+cap*sz'≤p.n;omega
     
     have O2:=yG (w:=w) O8 W2 e' tail w.drew rfl;have P2:=ik hR hm V0 Y4 (.arr (cells++c) e' lo (g+1)) (β':=plus β id (g+1) ⟨w.heap.size,0,us.length+vs.length+tail.size,cells.length+c.length⟩) (w':=w.drew.alloc (.cells (us.toArray++vs.toArray++tail) e'))
      (U0 _) (λi hi k=>bw _ _ _ _ (λh=>hi h.1)) (by simp) rfl rfl rfl
      (λb hb _=>RowKit.Below.heap_alloc w.drew _ b hb)
      (DC (hR.obj id _ Y4) O2 (by simp) λk q U4 R2 hq=>by
       obtain⟨hr,_⟩:=jj hR Y4 U4 R2 hq
       have C0:q.b<w.heap.size:=by obtain⟨cc,X3,_⟩:=hr;exact cD X3
       exact⟨fV.mono (λ_ _ _ h=>h) hr (RowKit.Below.heap_alloc w.drew _ _ C0),λhb=>by have q7:q.b=w.heap.size:=hb;omega⟩)
      (λk q hk hq=>by
       by_cases O3:k=g+1
       ·subst O3;rw[aN]at hq;cases hq;exact .inl (zA1 _)
       rw[bw _ _ _ _ (by omega)]at hq;exact .inr ⟨k,q,⟨hk.1,by have:=hk.2;omega⟩,hq,rfl⟩)
     refine⟨_,_,.inl (by simp only[Sem.run_bind,w4,Result.andThen_ok];rfl),Out.one ?_ P2⟩
     refine⟨_,ncap,_,aN _ _ _ _,?_,w2,rfl,.inr ⟨rfl,?_⟩⟩
     ·show 0+(len+n)*sz'≤cells.length+c.length;rw[Nat.add_mul];omega
     show 0+0+ncap*sz'≤us.length+vs.length+tail.size;omega
    
    intro V0;obtain⟨pg,hpg,hrowg,hhig⟩:=hgenp
    have O8:CRs β (cut cells off (Nat.mul len sz')) us:=by rw[jz];exact z'
    rw[gE];rcases hways with⟨cur,w1,w2,w3,w4,w5,w6,w7⟩|⟨w1,tail,ncap,w2,w3,w4⟩
    ·obtain⟨cur',V8,_,O2⟩:=xb P0 W2 (pre:=cut cells off (Nat.mul len sz')) off (by omega) hcell' (by omega)
     rw[w4]at V8;cases V8;rw[u6]at O2;have P2:=ik hR hm V0 Y4 (.arr (cut cells off (Nat.mul len sz')++c) e' (gen+1) (gen+1)) (β':=plus β id (gen+1) ⟨p.b,p.o+off,p.n,len*sz'+c.length⟩)
      (w':=w.setRow p.b (cur.toList.take (p.o+off+len*sz')++vs++cur.toList.drop (p.o+off+len*sz'+vs.length)).toArray)
      (U0 _) (λi hi k=>bw _ _ _ _ (λh=>hi h.1)) (by simp) (by simp) (by simp) (by simp)
      (λb _ hb=>setRow_other w p.b b _ (λhh=>hb g p ⟨c3,c4⟩ hp hh.symm))
      (nP (hR.obj id _ Y4) O2 (by rw[List.length_append,u6]))
      (λk q hk hq=>.inr (by
       have O3:k=gen+1:=by have:=hk.1;have:=hk.2;omega
       subst O3;rw[aN]at hq;cases hq;exact⟨g,p,⟨c3,c4⟩,hp,rfl⟩))
     refine⟨_,_,.inl (by simp only[Sem.run_bind,w6,Result.andThen_ok];rfl),Out.one ?_ P2⟩
     refine⟨_,cap,_,aN _ _ _ _,?_,w1,rfl,.inr ⟨rfl,?_⟩⟩
     ·show 0+(len+n)*sz'≤len*sz'+c.length;rw[Nat.add_mul];omega
     show p.o+off+0+cap*sz'≤p.n;omega
    have O2:=yG (w:=w) O8 W2 e' tail w.drew rfl;have P2:=ik hR hm V0 Y4 (.arr (cut cells off (Nat.mul len sz')++c) e' (gen+1) (gen+1)) (β':=plus β id (gen+1) ⟨w.heap.size,0,us.length+vs.length+tail.size,(cut cells off (Nat.mul len sz')).length+c.length⟩)
     (w':=w.drew.alloc (.cells (us.toArray++vs.toArray++tail) e'))
     (U0 _) (λi hi k=>bw _ _ _ _ (λh=>hi h.1)) (by simp) rfl rfl rfl
     (λb hb _=>RowKit.Below.heap_alloc w.drew _ b hb)
     (nP (hR.obj id _ Y4) O2 (by rw[List.length_append]))
     (λk q hk hq=>.inl (by
      have O3:k=gen+1:=by have:=hk.1;have:=hk.2;omega
      subst O3;rw[aN]at hq;cases hq;exact zA1 _))
    refine⟨_,_,.inl (by simp only[Sem.run_bind,w4,Result.andThen_ok];rfl),Out.one ?_ P2⟩
    refine⟨_,ncap,_,aN _ _ _ _,?_,w2,rfl,.inr ⟨rfl,?_⟩⟩
    ·show 0+(len+n)*sz'≤(cut cells off (Nat.mul len sz')).length+c.length;rw[Nat.add_mul];omega
    show 0+0+ncap*sz'≤us.length+vs.length+tail.size;omega
 exact trivial
end
section
variable{P:Program}{m:Nat}{β:Pl}{H:Hp}{w:World}
theorem Gt(hR:Rel m β H w){tm:PT AV}{a:Act}(R0:∀t,AR β (aw (tm.get t) aD λv=>v) (a.tmps.getD t undef))(o:Oper)(hs:∀cs b,o.op≠.select cs b):
  ah P m β H w (aq P tm H o) ((execOp a.eval o).run P w):=by
 unfold aq;refine ah.guard λhg=>?_;have he:execOp (λx=>bk (ev tm x)) o=execOp a.eval o:=by
  refine execOp_congr o hs λx hx=>?_;have h1:=List.all_eq_true.1 hg x (by simpa using hx);have h2:=bG R0 x;cases hv:(ev tm x).val? with
  |none=>rw[hv]at h1;cases h1
  |some v=>
   show bk (ev tm x)=_;unfold bk;rw[hv];exact(AV.ij hv h2).symm
 rw[he];split
 ·rename_i v hv
  refine ah.guard λhk=>?_;exact ah.same hR (oL hv w) (cZ hk)
 exact trivial
theorem vq(a b:Int):iLe a b=decide (a≤b):=by
 cases a with
 |ofNat m=>
  cases b with
  |ofNat n=>
   show Nat.ble m n=_;rw[Bool.eq_iff_iff];simp
  |negSucc n=>
   show false=_;symm
   rw[decide_eq_false_iff_not,Int.ofNat_eq_natCast];omega
 |negSucc m=>
  cases b with
  |ofNat n=>
   show true=_;symm
   rw[decide_eq_true_eq,Int.ofNat_eq_natCast];omega
  |negSucc n=>
   show Nat.ble n m=_;rw[Bool.eq_iff_iff];simp
   omega
theorem kU(a b:Int):iEq a b=(a==b):=by
 cases a with
 |ofNat m=>
  cases b with
  |ofNat n=>
   show Nat.beq m n=_;rw[Bool.eq_iff_iff,Nat.beq_eq,beq_iff_eq];exact⟨λh=>by rw[h],λh=>Int.ofNat.inj h⟩
  |negSucc n=>
   show false=_;symm
   rw[beq_eq_false_iff_ne,Int.ofNat_eq_natCast];omega
 |negSucc m=>
  cases b with
  |ofNat n=>
   show false=_;symm
   rw[beq_eq_false_iff_ne,Int.ofNat_eq_natCast];omega
  |negSucc n=>
   show Nat.beq m n=_;rw[Bool.eq_iff_iff,Nat.beq_eq,beq_iff_eq];exact⟨λh=>by rw[h],λh=>Int.negSucc.inj h⟩
theorem gQ{a b:IntKind}(h:sameKind a b=true):a=b:=by
 cases a<;>cases b<;>first|rfl|cases h
theorem pQ(k:IntKind)(n:Int):qo k n=k.wrap n:=by
 unfold qo;rw[bL];split
 ·rename_i hk
  have O3:k=.i64:=by cases k<;>first|rfl|cases hk
  subst O3;cases n with
  |ofNat m=>
   show ifE (Nat.ble 9223372036854775808 m) _ _=_;rw[bL];split
   ·rfl
   rename_i h
   have h':m<9223372036854775808:=by
    rcases Nat.lt_or_ge m 9223372036854775808 with h1|h1
    ·exact h1
    exact absurd (zA5 h1) h
   rw[IntKind.wrap_i64];have e:Int.ofNat m=(m:Int):=rfl;rw[e];omega
  |negSucc m=>
   show ifE (Nat.ble 9223372036854775808 m) _ _=_;rw[bL];split
   ·rfl
   rename_i h
   have h':m<9223372036854775808:=by
    rcases Nat.lt_or_ge m 9223372036854775808 with h1|h1
    ·exact h1
    exact absurd (zA5 h1) h
   rw[IntKind.wrap_i64];omega
 rfl
theorem Tb(a b:UInt8):bEq a b=(a==b):=by
 rw[Bool.eq_iff_iff,beq_iff_eq];unfold bEq;rw[Nat.beq_eq];exact⟨λh=>UInt8.toNat_inj.1 h,λh=>by rw[h]⟩
theorem fF:∀(x y:List UInt8),lEq x y=(x==y)
 |[],[]=>rfl
 |[],_::_=>rfl
 |_::_,[]=>rfl
 |a::x,b::y=>by
  show both (bEq a b) (lEq x y)=_;rw[cF,Tb,fF x y];rfl
theorem HZ:∀(x y:List UInt8),oA x y=Op.bytesLess x y
 |[],[]=>rfl
 |[],_::_=>rfl
 |_::_,[]=>rfl
 |a::x,b::y=>by
  show ifE (Nat.blt a.toNat b.toNat) true (both (bEq a b) (oA x y))=(decide (a<b)||(a==b&&Op.bytesLess x y));rw[bL,cF,Tb,HZ x y];have:Nat.blt a.toNat b.toNat=decide (a<b):=by
   rw[Bool.eq_iff_iff,decide_eq_true_eq,UInt8.lt_iff_toNat_lt];exact⟨λh=>zA4 h,λh=>zA5 h⟩
  rw[this];cases decide (a<b)<;>rfl
theorem mY(op:BinOp)(t:TypeId)(x y:Operand)(a b:Value)(h1:a≠.nilIface)(h2:∀cs,a≠.agg cs):(eqGuard op t x y a b).run P w=.ok () w:=by
 unfold eqGuard;cases a<;>first|exact absurd rfl h1|exact absurd rfl (h2 _)|(cases op<;>rfl)
theorem Jc(a b:Int):decide (a<b)=!decide (b≤a):=by
 rw[Bool.eq_iff_iff];simp
theorem Ow(hR:Rel m β H w){op:BinOp}{t:TypeId}{x y:Operand}{k k':IntKind}{a b:Int}{alt:ab}
  (halt:ah P m β H w alt ((do let z <-(do eqGuard op t x y (.int k a) (.int k' b);binOp op t (.int k a) (.int k' b));pure (Next.value z):Sem Next).run P w)):
  ah P m β H w (kD H (dX op) k a k' b alt) ((do let z <-(do eqGuard op t x y (.int k a) (.int k' b);binOp op t (.int k a) (.int k' b));pure (Next.value z):Sem Next).run P w):=by
 unfold kD;rw[bL];split
 ·rename_i hk
  have hk:=gQ hk;subst hk;have hg:=mY (P:=P) (w:=w) op t x y (.int k a) (.int k b) (by simp) (by simp);cases op<;>first
   |exact halt
   |(refine ah.same hR (v:=.int k (qo k _)) ?_ rfl
     rw[pQ];simp only[Sem.run_bind,hg,Result.andThen_ok];simp[binOp,Op.intArith];try rfl)
   |(refine ah.same hR (v:=.bool _) ?_ rfl
     simp only[Sem.run_bind,hg,Result.andThen_ok];simp[binOp,Op.intCmp,vq,kU];try first|rfl|exact Jc _ _)
 exact halt
theorem Pu(hR:Rel m β H w){op:BinOp}{t:TypeId}{x y:Operand}{a b:List UInt8}{alt:ab}
  (halt:ah P m β H w alt ((do let z <-(do eqGuard op t x y (.string ⟨a.toArray⟩) (.string ⟨b.toArray⟩);binOp op t (.string ⟨a.toArray⟩) (.string ⟨b.toArray⟩));pure (Next.value z):Sem Next).run P w)):
  ah P m β H w (aw (Za op) alt λf=>.val (.one (.b (f a b))) H)
   ((do let z <-(do eqGuard op t x y (.string ⟨a.toArray⟩) (.string ⟨b.toArray⟩);binOp op t (.string ⟨a.toArray⟩) (.string ⟨b.toArray⟩));pure (Next.value z):Sem Next).run P w):=by
 have hg:=mY (P:=P) (w:=w) op t x y (.string ⟨a.toArray⟩) (.string ⟨b.toArray⟩) (by simp) (by simp);cases op<;>first
  |exact halt
  |(refine ah.same hR (v:=.bool _) ?_ rfl
    simp only[Sem.run_bind,hg,Result.andThen_ok];simp[binOp,Op.stringOp,fF,HZ];try rfl)
def Aof(k:Nat)(v:Value):Prop:=
 match k with
 |0=>∃a,v=.pointer (some a)
 |1=>∃a n c,v=.slice (some a) n c
 |2=>∃b,v=.map (some b)
 |3=>∃f c,v=.func f #[] c
 |_=>True
def Nof(k:Nat)(v:Value):Prop:=
 match k with
 |0=>v=.pointer none
 |1=>v=.slice none 0 0
 |2=>v=.map none
 |3=>v=.nilFunc
 |_=>True
theorem Au{x:AO}{v:Value}(hx:CRO β x v):Aof (vY x) v:=by
 cases x<;>first
  |exact trivial
  |(obtain⟨p,_,_,h⟩:=hx;exact⟨_,h⟩)
  |(obtain⟨p,_,_,_,_,_,h,_⟩:=hx;exact⟨_,_,_,h⟩)
  |(obtain⟨p,_,h⟩:=hx;exact⟨_,h⟩)
  |(obtain⟨cs,h,_⟩:=hx;exact⟨_,_,h⟩)
theorem yw{x:AO}{v:Value}(hx:CRO β x v):Nof (vu x) v:=by
 cases x<;>first|exact trivial|exact hx
theorem Ta{t:TypeId}:
  match aR P t with
  |0=>∃e,P.underlying t=some (.pointer e)
  |1=>∃e,P.underlying t=some (.slice e)
  |2=>∃k e,P.underlying t=some (.map k e)
  |3=>∃a b c,P.underlying t=some (.func a b c)
  |_=>True:=by
 unfold aR;cases P.underlying t with
 |none=>exact trivial
 |some d=>cases d<;>first|exact trivial|exact⟨_,rfl⟩|exact⟨_,_,rfl⟩|exact⟨_,_,_,rfl⟩
theorem tJ(d:Nat){t:TypeId}{k:Nat}(hk:aR P t=k)(h4:k<4){v u:Value}(h:(Aof k v∧Nof k u)∨(Nof k v∧Aof k u)):(Op.equalIn (d+1) t v u).run P w=.ok false w:=by
 have ht:=Ta (P:=P) (t:=t);rw[hk]at ht;match k,h4 with
 |0,_=>
  obtain⟨e,ht⟩:=ht
  rcases h with⟨⟨a,rfl⟩,h⟩|⟨h,⟨a,rfl⟩⟩<;>cases h<;>simp[Op.equalIn,run_underlying ht]
 |1,_=>
  obtain⟨e,ht⟩:=ht
  rcases h with⟨⟨a,n,c,rfl⟩,h⟩|⟨h,⟨a,n,c,rfl⟩⟩<;>cases h<;>simp[Op.equalIn,run_underlying ht]
 |2,_=>
  obtain⟨e,e',ht⟩:=ht
  rcases h with⟨⟨a,rfl⟩,h⟩|⟨h,⟨a,rfl⟩⟩<;>cases h<;>simp[Op.equalIn,run_underlying ht]
 |3,_=>
  obtain⟨e,e',e'',ht⟩:=ht
  rcases h with⟨⟨a,c,rfl⟩,h⟩|⟨h,⟨a,c,rfl⟩⟩<;>cases h<;>simp[Op.equalIn,run_underlying ht]
theorem JH{t:TypeId}{k:Nat}(h4:k<4){v u:Value}(h:(Aof k v∧Nof k u)∨(Nof k v∧Aof k u)):
  v≠.nilIface∧(∀cs,v≠.agg cs)∧binOp .eql t v u=(do let z <-Op.equal t v u;pure (.bool z))∧binOp .neq t v u=(do let z <-Op.equal t v u;pure (.bool (!z))):=by
 match k,h4 with
 |0,_=>rcases h with⟨⟨a,rfl⟩,h⟩|⟨h,⟨a,rfl⟩⟩<;>cases h<;>exact⟨by simp,by simp,rfl,rfl⟩
 |1,_=>rcases h with⟨⟨a,n,c,rfl⟩,h⟩|⟨h,⟨a,n,c,rfl⟩⟩<;>cases h<;>exact⟨by simp,by simp,rfl,rfl⟩
 |2,_=>rcases h with⟨⟨a,rfl⟩,h⟩|⟨h,⟨a,rfl⟩⟩<;>cases h<;>exact⟨by simp,by simp,rfl,rfl⟩
 |3,_=>rcases h with⟨⟨a,c,rfl⟩,h⟩|⟨h,⟨a,c,rfl⟩⟩<;>cases h<;>exact⟨by simp,by simp,rfl,rfl⟩
theorem Qq{t:TypeId}{x y:AV}{v u:Value}(hx:AR β x v)(hy:AR β y u){b:Bool}(h:Lo (aR P t) x y=some b):
  b=false∧aR P t<4∧((Aof (aR P t) v∧Nof (aR P t) u)∨(Nof (aR P t) v∧Aof (aR P t) u)):=by
 unfold Lo at h;split at h
 ·rename_i a b'
  cases hc:(Nat.blt (aR P t) 4&&((Nat.beq (vY a) (aR P t)&&Nat.beq (vu b') (aR P t))||(Nat.beq (vu a) (aR P t)&&Nat.beq (vY b') (aR P t))))with
  |false=>rw[hc]at h;cases h
  |true=>
   rw[hc]at h;cases h
   simp only[Bool.and_eq_true,Bool.or_eq_true]at hc;refine⟨rfl,zA4 hc.1,?_⟩
   rcases hc.2 with⟨h1,h2⟩|⟨h1,h2⟩
   ·have a1:=zA3 h1;have a2:=zA3 h2;exact .inl ⟨by rw[<-a1];exact Au hx,by rw[<-a2];exact yw hy⟩
   have a1:=zA3 h1;have a2:=zA3 h2;exact .inr ⟨by rw[<-a1];exact yw hx,by rw[<-a2];exact Au hy⟩
 cases h
theorem Yv(hR:Rel m β H w){op:BinOp}{t:TypeId}{x y:Operand}{a b:AV}{v u:Value}(hx:AR β a v)(hy:AR β b u){alt:ab}
  (halt:ah P m β H w alt ((do let z <-(do eqGuard op t x y v u;binOp op t v u);pure (Next.value z):Sem Next).run P w)):
  ah P m β H w (bp H (aR P t) op (dX op) a b alt) ((do let z <-(do eqGuard op t x y v u;binOp op t v u);pure (Next.value z):Sem Next).run P w):=by
 cases a with
 |agg _=>exact halt
 |tup _=>exact halt
 |any=>exact halt
 |one c=>
  cases c with
  |b _=>exact halt
  |i k n=>
   show ah P m β H w (dY b alt λk' b'=>kD H (dX op) k n k' b' alt) _;refine pS hy halt λk' n' hu=>?_;have hv:v=.int k n:=hx;subst hu hv;exact Ow hR halt
  |o q=>
   show ah P m β H w (jV H (aR P t) op (.one (.o q)) b alt) _;unfold jV;refine tN hx ?_ λs hs=>?_
   ·unfold nS;split
    ·rename_i b' hn
     obtain⟨rfl,h4,hh⟩:=Qq hx hy hn
     have h1:(Op.equal t v u).run P w=.ok false w:=tJ 9999 rfl h4 hh;obtain⟨h2,h3,h5,h6⟩:=JH (t:=t) h4 hh
     have hg:=mY (P:=P) (w:=w) op t x y v u h2 h3;split
     ·refine ah.same hR (v:=.bool false) ?_ rfl;simp[Sem.run_bind,hg,h5,h1]
     ·refine ah.same hR (v:=.bool true) ?_ rfl;simp[Sem.run_bind,hg,h6,h1]
     exact trivial
    exact halt
   refine tN hy halt λs' z9=>?_;subst hs z9;exact Pu hR halt
theorem ZG(hR:Rel m β H w){op:UnOp}{x:AV}{v:Value}(hx:AR β x v){alt:ab}(halt:ah P m β H w alt ((do let z <-Op.unary op v;pure (Next.value z):Sem Next).run P w)):
  ah P m β H w (JE H op x alt) ((do let z <-Op.unary op v;pure (Next.value z):Sem Next).run P w):=by
 cases op<;>first
  |exact halt
  |(refine Fe hx halt λb hb=>?_
    subst hb;exact ah.same hR (v:=.bool (!b)) rfl rfl)
theorem Uv(hR:Rel m β H w){t:TypeId}{x i:AV}{v u:Value}(hx:AR β x v)(hi:AR β i u){alt:ab}(halt:ah P m β H w alt ((do let z <-Instr.index t v u;pure (Next.value z):Sem Next).run P w)):
  ah P m β H w (ir H (lO P t) x i alt) ((do let z <-Instr.index t v u;pure (Next.value z):Sem Next).run P w):=by
 unfold ir;rw[bL];split
 ·rename_i ht
  have hu:P.underlying t=some .string:=by
   unfold lO at ht;split at ht
   ·assumption
   cases ht
  refine tN hx halt λs hs=>pS hi halt λk n hn=>ah.nd λj hj=>ah.nd λb hb=>?_;have hj:=mN hj;subst hs hn hj;rw[KK]at hb;refine ah.same hR (v:=.int .u8 b.toNat) ?_ rfl;have C0:j<s.length:=(List.getElem?_eq_some_iff.1 hb).1;have hg:(ByteArray.mk s.toArray)[j]?=some b:=by
   have h1:j<(ByteArray.mk s.toArray).size:=by show j<s.toArray.size;simpa using C0
   rw[getElem?_pos (ByteArray.mk s.toArray) j h1];have:(ByteArray.mk s.toArray)[j]=s.toArray[j]'(by simpa using C0):=rfl;rw[this];rw[zB4 C0]at hb;simpa using hb
  simp[Instr.index,asIntOf,run_underlying hu,hg]
 exact halt
theorem Vb{t:TypeId}:
  match eR P t with
  |none=>True
  |some 0=>P.underlying t=some .string
  |some 1=>∃e,P.underlying t=some (.slice e)
  |some (_+2)=>∃k e,P.underlying t=some (.map k e):=by
 unfold eR;cases h:P.underlying t with
 |none=>exact trivial
 |some d=>cases d<;>first|exact trivial|exact⟨_,rfl⟩|exact⟨_,_,rfl⟩|rfl
theorem Pm{x:AV}{v:Value}(hx:AR β x v)(h:SQ x=true):v=.slice none 0 0:=by
 cases x with
 |one c=>
  cases c with
  |o q=>cases q<;>first|exact hx|cases h
  |b _=>cases h
  |i _ _=>cases h
 |agg _=>cases h
 |tup _=>cases h
 |any=>cases h
theorem ERs.length{l:List bu}{ms:List MapEntry}(h:ERs β l ms):ms.length=l.length:=(ERs.get h).symm
theorem nW(hR:Rel m β H w){id:Nat}{es:List bu}{clock:Nat}(h:H.get id=some (.oth (.map es clock))){p:Place}(hp:β id 0=some p):
  ∃ms:List MapEntry,w.heap[p.b]?=some (.map ms.toArray clock)∧ERs β es ms:=by
 obtain⟨q,hq,ms,h1,h2⟩:=hR.obj id _ h
 rw[hp]at hq;cases hq;exact⟨ms,h1,h2⟩
theorem cu{b:Nat}{es:Array MapEntry}{c:Nat}(h:w.heap[b]?=some (.map es c)):(getObj b).run P w=.ok (.map es c) w:=by
 simp[getObj,Sem.run,h]
theorem gV{b:Nat}{m:Option Nat}{s t:Nat}{a:Array Nat}(h:w.heap[b]?=some (.mapIter m s a t)):(getObj b).run P w=.ok (.mapIter m s a t) w:=by
 simp[getObj,Sem.run,h]
theorem Ye(hR:Rel m β H w){t ty:TypeId}{k:Nat}(ht:eR P t=some k){x:AV}{v:Value}(hx:AR β x v):
  ah P m β H w (cW H k x) ((do let z <-Builtin.len_ #[t] ty #[v];pure (Next.value z):Sem Next).run P w):=by
 have hu:=Vb (P:=P) (t:=t);rw[ht]at hu;match k with
 |0=>
  refine tN hx ⟨⟩ λs hs=>?_;subst hs;rw[Br];refine ah.same hR (v:=.int .i64 s.length) ?_ rfl;have:(ByteArray.mk s.toArray).size=s.length:=by show s.toArray.size=_;simp
  simp[Builtin.len_,run_underlying hu,goInt,this]
 |1=>
  obtain⟨e,hu⟩:=hu
  refine JD hx (ah.guard λhn=>?_) λid g off len sz p cap o' _ _ _ _ hv _=>?_
  ·have:=Pm hx hn;subst this;refine ah.same hR (v:=.int .i64 0) ?_ rfl;simp[Builtin.len_,run_underlying hu,goInt]
  subst hv;refine ah.same hR (v:=.int .i64 len) ?_ rfl;simp[Builtin.len_,run_underlying hu,goInt]
 |k+2=>
  obtain⟨a,e,hu⟩:=hu
  show ah P m β H w (dK H x) _;unfold dK;split
  ·have hv:v=.map none:=hx;subst hv;refine ah.same hR (v:=.int .i64 0) ?_ rfl;simp[Builtin.len_,run_underlying hu,goInt]
  ·rename_i id
   obtain⟨p,hp,rfl⟩:=hx
   split
   ·rename_i es clock hg
    obtain⟨ms,h1,h2⟩:=nW hR hg hp
    refine ah.same hR (v:=.int .i64 es.length) ?_ rfl;simp[Builtin.len_,run_underlying hu,goInt,cu h1,h2.length]
   exact trivial
  exact trivial
theorem Lf(hR:Rel m β H w){tm:PT AV}{a:Act}(R0:∀t,AR β (aw (tm.get t) aD λv=>v) (a.tmps.getD t undef))(x:Operand):ah P m β H w ((TJ (opF x)).run tm H) ((pure (Next.value (a.eval x)):Sem Next).run P w):=by
 have h:=bG R0 x;cases x<;>exact ah.same hR rfl h
theorem VD(hR:Rel m β H w){tm:PT AV}{a:Act}(R0:∀t,AR β (aw (tm.get t) aD λv=>v) (a.tmps.getD t undef))(c x y:Operand):
  ah P m β H w ((Xv (opF c) (opF x) (opF y)).run tm H) ((do pure (Next.value (if <-asBool (a.eval c)then a.eval x else a.eval y)):Sem Next).run P w):=by
 refine Fe (bG R0 c) trivial λb hb=>?_;refine ah.same hR (v:=if b=true then a.eval x else a.eval y) ?_ ?_
 ·simp[hb,asBool]
 rw[bL];cases b
 ·exact bG R0 y
 exact bG R0 x
theorem Hi(hR:Rel m β H w){ρ:Operand->Value}{y:Operand}{x:AV}(hx:AR β x (ρ y))(o:Oper)(ho:o.op=.nilCheck y):ah P m β H w (ga H x) ((execOp ρ o).run P w):=by
 obtain⟨dst,op,type,pos,after,guard⟩:=o
 cases ho
 generalize hv:ρ y=v at hx;cases x with
 |one c=>
  cases c with
  |o q=>
   cases q<;>first
    |exact trivial
    |(obtain⟨p,h1,h2,h3⟩:=hx
      subst h3;exact ah.same hR (v:=.pointer (some _)) (by simp only[execOp,hv];rfl) ⟨p,h1,h2,rfl⟩)
    |(obtain⟨cs,h1,h2⟩:=hx
      subst h1;exact ah.same hR (v:=.func _ #[] _) (by simp only[execOp,hv];rfl) ⟨cs,rfl,h2⟩)
  |b _=>exact trivial
  |i _ _=>exact trivial
 |agg _=>exact trivial
 |tup _=>exact trivial
 |any=>exact trivial
end
section
variable{P:Program}{m:Nat}{β:Pl}{H:Hp}{w:World}
theorem wH(a b:Nat):ifE (Nat.ble a b) a b=Nat.min a b:=by
 rw[bL];show _=min a b;by_cases h:a≤b
 ·rw[zB0 (zA5 h)];omega
 rw[zB1 (λhh=>h (zA4 hh))];omega
theorem Wz(hR:Rel m β H w)(hm:m≤m){t ty:TypeId}{x y:AV}{v u:Value}(hx:AR β x v)(hy:AR β y u):
  ah P m β H w (Cg P H t x y) ((do let z <-Builtin.copy_ #[t,t] ty #[v,u];pure (Next.value z):Sem Next).run P w):=by
 unfold Cg;refine ah.nd λes hes=>?_;obtain⟨e,sz⟩:=es
 obtain⟨hu,hs⟩:=jO hes
 obtain⟨it,S3,L1⟩:=iu hs
 split
 ·rename_i id g off len sz1 id2 g2 off2 len2 sz2
  refine ah.guard λhc=>ah.nd λc X3=>?_;have c1:sz1=sz:=zA3 (ag hc).1;have c2:sz2=sz:=zA3 (ag hc).2;subst c1 c2;rw[wH]at X3;obtain⟨p,cap,o1,hp,hlen,k8,rfl,hex⟩:=hx
  obtain⟨p2,cap2,o2,Q5,hlen2,hcap2,rfl,A_⟩:=hy
  obtain⟨cells2,P_,a3,a4,rfl⟩:=nK X3
  have W5:=P_ hR Q5;have hmin1:Nat.min len2 len≤len2:=Nat.min_le_left _ _;have hmin2:Nat.min len2 len≤len:=Nat.min_le_right _ _;have hmul2:Nat.min len2 len*sz2≤len2*sz2:=Nat.mul_le_mul_right _ hmin1;have a_:Nat.min len2 len*sz2≤len*sz2:=Nat.mul_le_mul_right _ hmin2;obtain⟨vs,I1,V3,N3⟩:=iT W5 off2 (Nat.mul (Nat.min len2 len) sz2) (by show off2+Nat.min len2 len*sz2≤_;omega)
  have hvl':vs.length=Nat.min len2 len*sz2:=I1;have J1:((cells2.drop off2).take (Nat.mul (Nat.min len2 len) sz2)).length=Nat.min len2 len*sz2:=by rw[<-hvl'];exact V3.length.symm
  unfold nh;cases Y4:H.get id with
  |none=>exact trivial
  |some ob=>
   cases ob with
   |oth q=>exact trivial
   |ro q=>exact trivial
   |arr cells e' lo gen=>
    refine ah.guard λhd=>?_;have d1:g=gen:=zA3 (ag hd).1;have d2:=zA4 (ag (ag hd).2).1;rw[wH,bj]at d2;have d2':off+Nat.min len2 len*sz2≤cells.length:=d2;have d3:lo≤gen:=zA4 (ag (ag hd).2).2;subst d1;rw[wH];intro V0;obtain⟨P0,I9⟩:=jj hR Y4 d3 (zA1 _) hp
    obtain⟨cur,hg,J3,O2⟩:=wW P0 (I9 rfl) V3 (by rw[J1];exact d2')
    have E5:(Builtin.firstCells it.size (Nat.min len2 len) (.slice (some o2) len2 cap2)).run P w=.ok vs.toArray w:=by
     refine fG (by rw[L1];exact hvl') (λj q hj=>?_) len2;have C0:=(List.getElem?_eq_some_iff.1 hj).1;have D3:o2=⟨p2.b,p2.o+off2,none⟩:=by
      rcases A_ with h|h
      ·have R_:len2=0:=by omega
       rw[hvl',R_]at C0;have:Nat.min 0 len=0:=Nat.zero_min _;rw[this]at C0;omega
      exact h.1
     rw[D3];exact N3 j q hj
    have Y2:(storeCells o1 vs).run P w=.ok () (w.setRow p.b (cur.toList.take (p.o+off+0)++vs++cur.toList.drop (p.o+off+0+vs.length)).toArray):=by
     by_cases h0:vs=[]
     ·subst h0;simp only[List.append_nil,List.length_nil,Nat.add_zero,List.take_append_drop,Array.toArray_toList];rw[setRow_self w p.b cur e' (0,0) hg];rfl
     have D3:o1=⟨p.b,p.o+off,none⟩:=by
      rcases hex with h|h
      ·exfalso;apply h0
       apply List.eq_nil_of_length_eq_zero
       rw[hvl'];have R_:len=0:=by omega
       rw[R_];have:Nat.min len2 0=0:=Nat.min_zero _;rw[this,Nat.zero_mul]
      exact h.1
     rw[D3];exact run_storeCells_at P p.b (p.o+off) e' vs 0 cur w hg J3 V3.gG
    have P2:=ik hR hm V0 Y4 (.arr (eQ cells off ((cells2.drop off2).take (Nat.mul (Nat.min len2 len) sz2))) e' g g) (β':=β)
     (w':=w.setRow p.b (cur.toList.take (p.o+off+0)++vs++cur.toList.drop (p.o+off+0+vs.length)).toArray)
     (λ_ _ _ h=>h) (λ_ _ _=>rfl) (by simp) (by simp) (by simp) (by simp)
     (λb _ hb=>setRow_other w p.b b _ (λhh=>hb g p ⟨d3,zA1 _⟩ hp hh.symm))
     (by rw[fm];exact JW (hR.obj id _ Y4) hp O2 (by rw[fj _ _ _ (by rw[J1];exact d2')];exact I9 rfl))
     (λg0 p0 U6 hp0=>.inr ⟨g,p,⟨d3,zA1 _⟩,hp,by
      have:g0=g:=by have:=U6.1;have:=U6.2;omega
      subst this;rw[hp]at hp0;cases hp0;rfl⟩)
    refine⟨.int .i64 (Nat.min len2 len),_,.inl ?_,Out.one rfl P2⟩
    simp[Builtin.copy_,run_underlying hu,Builtin.lenOf,sizeOf,typeInfo,S3,E5,Y2,goInt]
 ·rename_i id g off len sz1
  obtain⟨p,cap,o1,hp,hlen,k8,rfl,hex⟩:=hx
  have hv:u=.slice none 0 0:=hy;subst hv;refine ah.same hR (v:=.int .i64 0) ?_ rfl;simp[Builtin.copy_,run_underlying hu,Builtin.lenOf,Builtin.firstCells,sizeOf,typeInfo,S3,storeCells,goInt]
 ·rename_i id2 g2 off2 len2 sz2
  obtain⟨p2,cap2,o2,Q5,hlen2,hcap2,rfl,A_⟩:=hy
  have hv:v=.slice none 0 0:=hx;subst hv;refine ah.same hR (v:=.int .i64 0) ?_ rfl;have h0:Nat.min len2 0=0:=Nat.min_zero _;simp[Builtin.copy_,run_underlying hu,Builtin.lenOf,Builtin.firstCells,sizeOf,typeInfo,S3,goInt,loadCells,loadCellsFrom]
 ·have hv:v=.slice none 0 0:=hx;have Z3:u=.slice none 0 0:=hy;subst hv Z3;refine ah.same hR (v:=.int .i64 0) ?_ rfl;simp[Builtin.copy_,run_underlying hu,Builtin.lenOf,Builtin.firstCells,sizeOf,typeInfo,S3,goInt]
 exact trivial
theorem CC(hR:Rel m β H w)(hm:m≤m){t:TypeId}{l c:AV}{v u:Value}(hl:AR β l v)(hc:AR β c u):
  ah P m β H w (cL P H t l c) ((do let z <-Instr.makeSlice t v u;pure (Next.value z):Sem Next).run P w):=by
 unfold cL;refine ah.nd λes hes=>ah.nd λby_ hby=>ah.nd λz hz=>pS hl trivial λkl n hn=>pS hc trivial λkc j hj=>ah.nd λn' D9=>ah.nd λj' R5=>ah.guard λhg=>?_;obtain⟨e,sz⟩:=es
 obtain⟨hu,hs⟩:=jO hes
 obtain⟨ho,A0,it,S3,hiz⟩:=iG hz
 obtain⟨it2,T9,L1⟩:=iu hs
 obtain⟨it3,S9,hbs⟩:=oy hby
 simp only at S3 T9 S9
 rw[S3]at T9 S9;cases T9;cases S9
 have D9:=mN D9;have R5:=mN R5;subst hn hj D9 R5;have g1:n'≤j':=zA4 (ag hg).1;have g2:j'≤1073741824:=zA4 (ag (ag hg).2).1;have g3:j'*by_≤140737488355328:=zA4 (ag (ag (ag hg).2).2).1;have g4:bq (ofValue z).cells=sz:=zA3 (ag (ag (ag hg).2).2).2;intro V0;have Z7:H.nx+1≤m:=V0;have q8:CRs β (ofValue z).cells z.cells.toList:=(cZ ho).cells (mB A0);have hzs:z.cells.size=sz:=by rw[<-g4,bj];simpa using q8.length
 have Q1:=run_make (P:=P) w t e it z hu S3 hiz kl kc n' j' (by omega) (by omega) (by rw[hbs,<-Int.natCast_mul,Nat.mul_comm];omega) (by omega);have W2:CRs β (jA (ofValue z).cells j') (madeCells z.cells (j'*it.size)).toList:=by
  have:=Nd q8 j';rw[hzs]at this;unfold madeCells;rw[L1,hzs];exact this
 have B4:=tU hR hm (by omega) (jA (ofValue z).cells j') (madeCells z.cells (j'*it.size)) e W2 w rfl rfl rfl rfl #[];refine⟨.slice (some ⟨w.heap.size,0,none⟩) n' j',_,.inl ?_,Out.one ?_ (by simpa using B4)⟩
 ·simp only[Sem.run_bind,Q1,Result.andThen_ok,Int.toNat_natCast];rfl
 refine⟨_,j',_,aN _ _ _ _,?_,g1,rfl,.inr ⟨rfl,?_⟩⟩
 ·show 0+n'*sz≤(jA (ofValue z).cells j').length;have:n'*sz≤j'*sz:=Nat.mul_le_mul_right _ g1;rw[wY,<-bj,g4];omega
 show 0+0+j'*sz≤(madeCells z.cells (j'*it.size)).size+0;rw[size_madeCells,L1];omega
theorem zX:∀{l:List AV}{vs:List Value}{cs:List (Nat×Nat×Nat×Nat)},gY l=some cs->ARs β l vs ->
  vs.length=cs.length∧∀(k:Nat)(c:Nat×Nat×Nat×Nat)(v:Value),cs[k]?=some c->vs[k]?=some v->∃p,β c.1 c.2.1=some p∧c.2.2.1+c.2.2.2≤p.hi∧v=.pointer (some ⟨p.b,p.o+c.2.2.1,none⟩)
 |[],vs,cs,h,hr=>by
  cases h
  cases vs with
  |nil=>exact⟨rfl,λk c v hc _=>by simp at hc⟩
  |cons=>exact hr.elim
 |x::l,vs,cs,h,hr=>by
  cases vs with
  |nil=>exact hr.elim
  |cons v vs=>
   unfold gY at h;split at h
   ·rename_i heq
    cases heq
   ·rename_i id g off lim l' heq
    cases heq
    split at h
    ·rename_i r E3
     cases h
     obtain⟨h1,h2⟩:=zX E3 hr.2
     refine⟨by simp[h1],λk c u hc hu=>?_⟩
     cases k with
     |zero=>
      simp at hc hu
      subst hc hu;exact hr.1
     |succ k=>exact h2 k c u (by simpa using hc) (by simpa using hu)
    cases h
   cases h
theorem JS{tm:PT AV}{a:Act}(R0:∀t,AR β (aw (tm.get t) aD λv=>v) (a.tmps.getD t undef)):∀(l:List Operand),ARs β (evs l tm) (l.map a.eval)
 |[]=>trivial
 |x::l=>⟨bG R0 x,JS R0 l⟩
theorem oI:∀{cs:List (Nat×Nat×Nat×Nat)}{vs:List Value},vs.length=cs.length ->
  (∀(k:Nat)(c:Nat×Nat×Nat×Nat)(v:Value),cs[k]?=some c->vs[k]?=some v->∃p,β c.1 c.2.1=some p∧c.2.2.1+c.2.2.2≤p.hi∧v=.pointer (some ⟨p.b,p.o+c.2.2.1,none⟩))->ARs β (eE cs) vs
 |[],[],_,_=>trivial
 |(id,g,off,lim)::cs,v::vs,hl,h=>⟨h 0 _ _ rfl rfl,oI (by simpa using hl) λk c u hc hu=>h (k+1) c u (by simpa using hc) (by simpa using hu)⟩
 |[],_::_,hl,_=>by simp at hl
 |_::_,[],hl,_=>by simp at hl
theorem GM(hR:Rel m β H w){tm:PT AV}{a:Act}(R0:∀t,AR β (aw (tm.get t) aD λv=>v) (a.tmps.getD t undef))(f:FuncId)(caps:Array Operand):
  ah P m β H w (nd (gY (evs caps.toList tm)) "makeFunc - captured" λcs=>.val (.one (.o (.clo f cs))) H) ((do let z <-Instr.makeFunc (.func f) (#[].map a.eval) (caps.map a.eval);pure (Next.value z):Sem Next).run P w):=by
 refine ah.nd λcs W2=>?_;obtain⟨h1,h2⟩:=zX W2 (JS R0 caps.toList)
 refine ah.same hR (v:=.func (.func f) #[] (caps.map a.eval)) (by simp[Instr.makeFunc]) ⟨caps.toList.map a.eval,by rw[<-Array.toList_map,Array.toArray_toList],h1,h2⟩
theorem Iw(hR:Rel m β H w)(hm:m≤m)(t:TypeId):
  ah P m β H w (.val (.one (.o (.mp H.nx))) (H.new (.oth (.map [] 0)))) ((do let z <-Instr.makeMap t none;pure (Next.value z):Sem Next).run P w):=by
 intro V0;have Z7:H.nx+1≤m:=V0;have B4:=ly hR hm (by omega) (.oth (.map [] 0)) ⟨w.heap.size,0,0,0⟩ (w':=w.alloc (.map #[] 0)) (zA1 _) (by simp) rfl rfl rfl
  (λb hb=>RowKit.Below.heap_alloc w _ b hb) (λg hg=>hg) ⟨_,aN _ _ _ _,[],heap_alloc_new w _,trivial⟩
 exact⟨.map (some w.heap.size),_,.inl rfl,Out.one ⟨_,aN _ _ _ _,rfl⟩ B4⟩
theorem Wx{f:AV}{args:List AV}{v:Value}{vs:List Value}(hf:AR β f v)(z0:ARs β args vs):
  ah P m β H w (mr P f args) ((do let d <-Deferred.ofValue v vs.toArray;invoke d.target d.args:Sem Next).run P w):=by
 cases f with
 |one c=>
  cases c with
  |o q=>
   cases q<;>first
    |exact trivial
    |skip
   ·rename_i g caps
    obtain⟨cs,rfl,hl,hc⟩:=hf
    refine ah.guard λhb=>?_;refine⟨vs++cs,?_,z0.append (oI hl hc),hb⟩
    simp[Deferred.ofValue,invoke]
   rename_i id
   obtain⟨p,hp,rfl⟩:=hf
   exact⟨p,vs,hp,z0,by simp[Deferred.ofValue,invoke]⟩
  |b _=>exact trivial
  |i _ _=>exact trivial
 |agg _=>exact trivial
 |tup _=>exact trivial
 |any=>exact trivial
end
def zT{α:Type}{x:AV}{f:List UInt8->Option α}{r:α}(h:gZ x none f=some r):∃s,x=.one (.o (.str s))∧f s=some r:=by
 cases x with
 |one c=>
  cases c with
  |o q=>cases q<;>first|exact⟨_,rfl,h⟩|cases h
  |b _=>cases h
  |i _ _=>cases h
 |agg _=>cases h
 |tup _=>cases h
 |any=>cases h
def yM{x:AV}{f:List UInt8->Bool}(h:gZ x false f=true):∃s,x=.one (.o (.str s))∧f s=true:=by
 cases x with
 |one c=>
  cases c with
  |o q=>cases q<;>first|exact⟨_,rfl,h⟩|cases h
  |b _=>cases h
  |i _ _=>cases h
 |agg _=>cases h
 |tup _=>cases h
 |any=>cases h
def zN{α:Type}{x:AV}{f:IntKind->Int->Option α}{r:α}(h:dY x none f=some r):∃k n,x=.one (.i k n)∧f k n=some r:=by
 cases x with
 |one c=>
  cases c with
  |o q=>cases h
  |b _=>cases h
  |i _ _=>exact⟨_,_,rfl,h⟩
 |agg _=>cases h
 |tup _=>cases h
 |any=>cases h
def AB{x:AV}{f:IntKind->Int->Bool}(h:dY x false f=true):∃k n,x=.one (.i k n)∧f k n=true:=by
 cases x with
 |one c=>
  cases c with
  |o q=>cases h
  |b _=>cases h
  |i _ _=>exact⟨_,_,rfl,h⟩
 |agg _=>cases h
 |tup _=>cases h
 |any=>cases h
def da{α γ:Type}{x:Option α}{f:α->Option γ}{r:γ}(h:aw x none f=some r):∃a,x=some a∧f a=some r:=by
 cases x with
 |none=>cases h
 |some a=>exact⟨a,rfl,h⟩
def zF{α:Type}{x:Option α}{f:α->Bool}(h:aw x false f=true):∃a,x=some a∧f a=true:=by
 cases x with
 |none=>cases h
 |some a=>exact⟨a,rfl,h⟩
section
variable{P:Program}{m:Nat}{β:Pl}{H:Hp}{w:World}
theorem oT(kt:TypeId):
  match bf P kt with
  |0=>P.underlying kt=some .string
  |1=>∃k,P.underlying kt=some (.int k)
  |2=>∃d,P.underlying kt=some d∧∀a b,Instr.sameNow d a b=none
  |_=>True:=by
 unfold bf;cases h:P.underlying kt with
 |none=>exact trivial
 |some d=>cases d<;>first|exact trivial|rfl|exact⟨_,rfl⟩|exact⟨_,rfl,λa b=>by cases a<;>cases b<;>rfl⟩
theorem mA(empty:Bool)(d:Nat){t:TypeId}(v:Value)(h:P.underlying t=some .string∨∃k,P.underlying t=some (.int k)):(Instr.checkKey empty (d+1) t v).run P w=.ok () w:=by
 rcases h with h|⟨k,h⟩<;>simp[Instr.checkKey,run_underlying h]
theorem qO{empty:Bool}{kt:TypeId}{k:AV}{v:Value}(hk:AR β k v)(h:fq P empty kt k=some ()):(Instr.checkKey empty 10000 kt v).run P w=.ok () w:=by
 have Q4:=oT (P:=P) kt;unfold fq at h;match hn:bf P kt with
 |0=>rw[hn]at Q4;exact mA empty 9999 v (.inl Q4)
 |1=>rw[hn]at Q4;exact mA empty 9999 v (.inr Q4)
 |2=>
  rw[hn]at h;obtain⟨u,hu,hr⟩:=da h
  rw[AV.ij hu hk];exact oL hr w
 |n+3=>rw[hn]at h;cases h
def EqR(P:Program)(kt:TypeId)(v u:Value)(b:Bool):Prop:=
 match bf P kt with
 |0=>∃x y,v=.string x∧u=.string y∧b=(x==y)
 |1=>∃k x y,v=.int k x∧u=.int k y∧b=(x==y)
 |2=>ax P (Op.equal kt v u)=some b
 |_=>False
theorem bytes_beq(x y:List UInt8):(ByteArray.mk x.toArray==ByteArray.mk y.toArray)=(x==y):=by
 show(x.toArray==y.toArray)=_
 simp
theorem Eu{kt:TypeId}{a b:AV}{v u:Value}(ha:AR β a v)(hb:AR β b u){r:Bool}(h:ib P kt a b=some r):EqR P kt v u r:=by
 unfold ib at h;unfold EqR;match hn:bf P kt with
 |0=>
  rw[hn]at h;obtain⟨x,hx,h1⟩:=zT h
  obtain⟨y,hy,h2⟩:=zT h1
  subst hx hy;cases h2
  exact⟨_,_,ha,hb,by rw[fF,bytes_beq]⟩
 |1=>
  rw[hn]at h;obtain⟨k,x,hx,h1⟩:=zN h
  obtain⟨k',y,hy,h2⟩:=zN h1
  subst hx hy;rw[bL]at h2;split at h2
  ·rename_i hk
   have:=gQ hk;subst this;cases h2
   exact⟨k,x,y,ha,hb,kU _ _⟩
  cases h2
 |2=>
  rw[hn]at h;obtain⟨x,hx,h1⟩:=da h
  obtain⟨y,hy,h2⟩:=da h1
  rw[AV.ij hx ha,AV.ij hy hb];exact h2
 |n+3=>rw[hn]at h;cases h
inductive Scan(P:Program)(kt:TypeId)(v:Value):List MapEntry->Option Nat->Prop
 |nil:Scan P kt v [] none
 |S3 {e:MapEntry} {es:List MapEntry}:EqR P kt v e.key true->Scan P kt v (e::es) (some 0)
 |miss {e:MapEntry} {es:List MapEntry} {r:Option Nat}:EqR P kt v e.key false->Scan P kt v es r->Scan P kt v (e::es) (r.map (·+1))
theorem Scan.now{kt:TypeId}{v:Value}{d:TypeDesc}(hd:P.underlying kt=some d)(hk:bf P kt<2){ms:List MapEntry}{r:Option Nat}(h:Scan P kt v ms r):∀j,
  match r with
  |none=>Instr.findNow d v ms j=some none
  |some i=>∃e,ms[i]?=some e∧Instr.findNow d v ms j=some (some (j+i,e.val)):=by
 have key:∀u b,EqR P kt v u b->Instr.sameNow d v u=some b:=by
  intro u b hb;have Q4:=oT (P:=P) kt;unfold EqR at hb;match hn:bf P kt with
  |0=>
   rw[hn]at hb Q4;rw[hd]at Q4;cases Q4;obtain⟨x,y,rfl,rfl,rfl⟩:=hb
   rfl
  |1=>
   rw[hn]at hb Q4;obtain⟨k,Q4⟩:=Q4
   rw[hd]at Q4;cases Q4;obtain⟨k,x,y,rfl,rfl,rfl⟩:=hb
   simp[Instr.sameNow]
  |n+2=>omega
 induction h with
 |nil=>intro j;rfl
 |S3 he=>intro j;exact⟨_,rfl,by simp[Instr.findNow,key _ _ he]⟩
 |miss he _ ih=>
  rename_i e es r _
  intro j;have:=ih (j+1);cases r with
  |none=>simpa [Instr.findNow,key _ _ he]using this
  |some i=>
   obtain⟨e',h1,h2⟩:=this
   refine⟨e',by simpa using h1,?_⟩
   simp only[Instr.findNow,key _ _ he,h2];congr 3
   omega
theorem Scan.XZ{kt:TypeId}{v:Value}(hk:bf P kt=2){ms:List MapEntry}{r:Option Nat}(h:Scan P kt v ms r):∀j,
  match r with
  |none=>(Instr.findAsking kt v ms j).run P w=.ok none w
  |some i=>∃e,ms[i]?=some e∧(Instr.findAsking kt v ms j).run P w=.ok (some (j+i,e.val)) w:=by
 have key:∀u b,EqR P kt v u b->(Op.equal kt v u).run P w=.ok b w:=by
  intro u b hb;unfold EqR at hb;rw[hk]at hb;exact oL hb w
 induction h with
 |nil=>intro j;rfl
 |S3 he=>intro j;exact⟨_,rfl,by simp[Instr.findAsking,key _ _ he]⟩
 |miss he _ ih=>
  rename_i e es r _
  intro j;have:=ih (j+1);cases r with
  |none=>simpa [Instr.findAsking,key _ _ he]using this
  |some i=>
   obtain⟨e',h1,h2⟩:=this
   refine⟨e',by simpa using h1,?_⟩
   simp only[Instr.findAsking,Sem.run_bind,key _ _ he,Result.andThen_ok,h2,Bool.false_eq_true,if_false];congr 3
   omega
theorem Scan.run{kt:TypeId}{v:Value}{ms:List MapEntry}{r:Option Nat}(h:Scan P kt v ms r)(hk:bf P kt≤2):
  match r with
  |none=>(Instr.findKey kt v ms).run P w=.ok none w
  |some i=>∃e,ms[i]?=some e∧(Instr.findKey kt v ms).run P w=.ok (some (i,e.val)) w:=by
 have Q4:=oT (P:=P) kt;obtain⟨d,hd⟩:∃d,P.underlying kt=some d:=by
  match hn:bf P kt with
  |0=>rw[hn]at Q4;exact⟨_,Q4⟩
  |1=>rw[hn]at Q4;obtain⟨k,Q4⟩:=Q4;exact⟨_,Q4⟩
  |2=>rw[hn]at Q4;obtain⟨d,Q4,_⟩:=Q4;exact⟨_,Q4⟩
  |n+3=>omega
 rcases Nat.lt_or_ge (bf P kt) 2 with h2|h2
 ·have:=Scan.now hd h2 h 0;cases r with
  |none=>simp only at this ⊢;simp[Instr.findKey,run_underlying hd,this]
  |some i=>
   obtain⟨e,h1,h3⟩:=this
   exact⟨e,h1,by simp[Instr.findKey,run_underlying hd,h3]⟩
 have R2:bf P kt=2:=by omega
 rw[R2]at Q4;obtain⟨d',L9,hnone⟩:=Q4
 rw[hd]at L9;cases L9;cases ms with
 |nil=>
  cases h
  simp[Instr.findKey,run_underlying hd,Instr.findNow]
 |cons e es=>
  have hn:Instr.findNow d v (e::es) 0=none:=by simp[Instr.findNow,hnone]
  have:=Scan.XZ (w:=w) R2 h 0;cases r with
  |none=>simp only at this ⊢;simp[Instr.findKey,run_underlying hd,hn,this]
  |some i=>
   obtain⟨e,h1,h3⟩:=this
   exact⟨e,h1,by simp[Instr.findKey,run_underlying hd,hn,h3]⟩
theorem fa{kt:TypeId}{empty:Bool}{k:AV}(h:fq P empty kt k=some ()):bf P kt≤2:=by
 unfold fq at h;match hn:bf P kt with
 |0=>omega
 |1=>omega
 |2=>omega
 |n+3=>rw[hn]at h;cases h
theorem mz{kt:TypeId}{k:AV}{v:Value}(hk:AR β k v):∀{l:List bu}{ms:List MapEntry},ERs β l ms->∀{r:Option bu},iV P kt k l=some r ->
  ∃i,Scan P kt v ms i∧match r with
   |none=>i=none
   |some e=>∃j,i=some j∧l[j]?=some e
 |[],[],_,r,h=>by cases h;exact⟨none,.nil,rfl⟩
 |a::l,b::ms,hE,r,h=>by
  have h':aw (ib P kt k a.key) none (λb=>ifE b (some (some a)) (iV P kt k l))=some r:=h;obtain⟨q,hq,h'⟩:=da h'
  have he:=Eu hk hE.1.1 hq;rw[bL]at h';cases q with
  |true=>
   cases h'
   exact⟨some 0,.S3 he,0,rfl,rfl⟩
  |false=>
   obtain⟨i,hs,hi⟩:=mz hk hE.2 h'
   refine⟨_,.miss he hs,?_⟩
   cases r with
   |none=>simp only at hi ⊢;rw[hi];rfl
   |some e=>
    obtain⟨j,rfl,hj⟩:=hi
    exact⟨j+1,rfl,by simpa using hj⟩
 |[],_::_,hE,_,_=>hE.elim
 |_::_,[],hE,_,_=>hE.elim
theorem ERs.at{l:List bu}{ms:List MapEntry}(h:ERs β l ms){i:Nat}{e:bu}{me:MapEntry}(h1:l[i]?=some e)(h2:ms[i]?=some me):
  AR β e.key me.key∧e.key.bz=true∧AR β e.val me.val∧e.val.bz=true∧me.born=e.born:=by
 induction l generalizing ms i with
 |nil=>simp at h1
 |cons a l ih=>
  cases ms with
  |nil=>exact h.elim
  |cons b ms=>
   cases i with
   |zero=>simp at h1 h2;subst h1 h2;exact h.1
   |succ i=>exact ih h.2 (by simpa using h1) (by simpa using h2)
theorem rC{v:AV}{u:Value}(h:AR β v u)(hn:v.bz=true):TR β (Oz v) u:=by
 cases v with
 |one c=>exact h
 |agg l=>exact h
 |tup l=>cases hn
 |any=>cases hn
theorem iH(hR:Rel m β H w){ok:Bool}{v:AV}{u:Value}{b:Bool}(hv:AR β v u){r:Result Next}(hr:r=.ok (.value (if ok then .tuple #[u,.bool b]else u)) w):ah P m β H w (aV H ok v b) r:=by
 cases ok with
 |false=>exact ah.same hR hr hv
 |true=>
  refine ah.guard λhn=>ah.same hR hr ⟨[u,.bool b],⟨rC hv hn,rfl,trivial⟩,rfl⟩
theorem mG{kt:TypeId}(hkt:bf P kt=1)(n:Int):∀{es:List bu}{k:List (Int×AV)},lH es=some k->∃e,iV P kt (.one (.i .i64 n)) es=some e∧e.map bu.val=de n k
 |[],k,h=>by cases h;exact⟨none,rfl,rfl⟩
 |e::l,k,h=>by
  unfold lH at h;split at h
  ·rename_i n' r hk hr
   cases h
   obtain⟨q,h1,h2⟩:=mG hkt n hr
   have e0:iV P kt (.one (.i .i64 n)) (e::l)=aw (ib P kt (.one (.i .i64 n)) e.key) none λb=>ifE b (some (some e)) (iV P kt (.one (.i .i64 n)) l):=rfl;have e1:ib P kt (.one (.i .i64 n)) e.key=some (iEq n n'):=by unfold ib;rw[hkt,hk];rfl
   rw[e0,e1];show∃q,ifE (iEq n n') (some (some e)) (iV P kt (.one (.i .i64 n)) l)=some q∧q.map bu.val=if n=n' then some e.val else de n r
   rw[kU];by_cases hn:n=n'
   ·rw[beq_iff_eq.2 hn,zB0 hn];exact⟨_,rfl,rfl⟩
   rw[zB5 hn,zB1 hn];exact⟨q,h1,h2⟩
  cases h
theorem Pb(hR:Rel m β H w){t kt et:TypeId}(ht:fW P t=some (kt,et)){z:Value}(hz:ay P et=some z){mp k:AV}{v u:Value}(hm:AR β mp v)(hk:AR β k u)(ok:Bool):
  ah P m β H w (aX P H kt (ofValue z) mp k ok) ((do let y <-Instr.lookup t v u ok;pure (Next.value y):Sem Next).run P w):=by
 have hu:=BC ht;obtain⟨ho,A0,it,S3,hiz⟩:=iG hz
 unfold aX;split
 ·refine ah.nd λ_ T5=>?_;have hc:=qO (P:=P) (w:=w) hk T5;have hv:v=.map none:=hm;subst hv;have hf:(Instr.findKey kt u []).run P w=.ok none w:=Scan.run .nil (fa T5);refine iH hR (u:=z) (cZ ho) ?_;simp[Instr.lookup,run_underlying hu,hc,hf,dm hz]
 ·rename_i id
  obtain⟨p,hp,rfl⟩:=hm
  split
  ·rename_i es clock hg
   obtain⟨ms,h1,h2⟩:=nW hR hg hp
   refine ah.nd λ_ T5=>?_;have hem:es.isEmpty=ms.isEmpty:=by
    have:=h2.length;cases es<;>cases ms<;>first|rfl|simp at this
   have hc:=qO (P:=P) (w:=w) hk T5;rw[hem]at hc;split
   ·rename_i e hf
    obtain⟨i,hs,j,rfl,hj⟩:=mz hk h2 hf
    obtain⟨me,hme,Q1⟩:=Scan.run (w:=w) hs (fa T5)
    refine iH hR (u:=me.val) (h2.at hj hme).2.2.1 ?_;simp[Instr.lookup,run_underlying hu,cu h1,hc,Q1]
   ·rename_i hf
    obtain⟨i,hs,rfl⟩:=mz hk h2 hf
    have Q1:=Scan.run (w:=w) hs (fa T5);simp only at Q1
    refine iH hR (u:=z) (cZ ho) ?_;simp[Instr.lookup,run_underlying hu,cu h1,hc,Q1,dm hz]
   exact trivial
  ·rename_i l hg
   obtain⟨q,hq,es,clock,ms,h1,h2,kl,hkl,I3⟩:=hR.obj _ _ hg
   rw[hp]at hq;cases hq;refine ah.guard λQ4=>?_;have hkt:=zA3 Q4;cases k with
   |one c=>
    cases c with
    |i kd n=>
     refine ah.guard λhsk=>?_;have hkd:=gQ hsk;subst hkd;obtain⟨e,V6,m_⟩:=mG (P:=P) hkt n hkl
     have T5:fq P ms.isEmpty kt (.one (.i .i64 n))=some ():=by unfold fq;rw[hkt];rfl
     have hc:=qO (P:=P) (w:=w) hk T5;rw[I3]at m_;show ah P m β H w (aw (de n l) _ _) _;rw[<-m_];cases e with
     |some e=>
      obtain⟨i,hs,j,rfl,hj⟩:=mz hk h2 V6
      obtain⟨me,hme,Q1⟩:=Scan.run (w:=w) hs (fa T5)
      refine iH hR (u:=me.val) (h2.at hj hme).2.2.1 ?_;simp[Instr.lookup,run_underlying hu,cu h1,hc,Q1]
     |none=>
      obtain⟨i,hs,rfl⟩:=mz hk h2 V6
      have Q1:=Scan.run (w:=w) hs (fa T5);simp only at Q1
      refine iH hR (u:=z) (cZ ho) ?_;simp[Instr.lookup,run_underlying hu,cu h1,hc,Q1,dm hz]
    |b _=>exact trivial
    |o _=>exact trivial
   |agg _=>exact trivial
   |tup _=>exact trivial
   |any=>exact trivial
  exact trivial
 exact trivial
end
section
variable{P:Program}{m:Nat}{β:Pl}{H:Hp}{w:World}
theorem kL(hR:Rel m β H w)(hm:m≤m)(V0:H.nx≤m){id:Nat}{x:xm}(ho:H.get id=some (.oth x))(x':xm){p:Place}(hp:β id 0=some p)(w0:World)(h0:w0.heap=w.heap)(hos:w0.os=w.os)(Z6:w0.tape=w.tape)(L2:w0.output=w.output)
  (o:Obj) (hx:∀w':World,w'.heap[p.b]?=some o->uV β w' p x'):
  Rel m β (H.mod id (.oth x')) { w0 with heap:=w0.heap.setIfInBounds p.b o }∧Ext β H w β (H.mod id (.oth x')) { w0 with heap:=w0.heap.setIfInBounds p.b o }:=by
 have C0:p.b<w.heap.size:=by
  obtain⟨q,hq,hqx⟩:=hR.obj id _ ho
  rw[hp]at hq;cases hq;exact hqx.lt
 refine ik hR hm V0 ho (.oth x') (λ_ _ _ h=>h) (λ_ _ _=>rfl) (by simp[h0]) hos Z6 L2 ?_ ?_ ?_
 ·intro b hb hn;have:p.b≠b:=hn 0 p rfl hp;show(w0.heap.setIfInBounds p.b o)[b]?=_
  rw[Array.getElem?_setIfInBounds_ne this,h0]
 ·refine⟨p,hp,hx _ ?_⟩
  show(w0.heap.setIfInBounds p.b o)[p.b]?=_
  rw[Array.getElem?_setIfInBounds_self,h0,zB0 C0]
 intro g q hg hq;have Y1:g=0:=hg;subst Y1;exact .inr ⟨0,p,rfl,hp,by rw[hp]at hq;cases hq;rfl⟩
theorem Cr(n:Nat)(x y:ByteArray):Instr.sameBits n (.string x) (.string y)=(x==y):=by cases n<;>rfl
theorem Cm(n:Nat)(k k':IntKind)(x y:Int):Instr.sameBits n (.int k x) (.int k' y)=(k==k'&&x==y):=by cases n<;>rfl
theorem Jv{kt:TypeId}{a b:AV}{v u:Value}(ha:AR β a v)(hb:AR β b u)(h:sameKey P kt a b=true):Instr.sameBits 10000 v u=true:=by
 unfold sameKey at h;match hn:bf P kt with
 |0=>
  rw[hn]at h;obtain⟨x,hx,h1⟩:=yM h
  obtain⟨y,hy,h2⟩:=yM h1
  subst hx hy;have ha':v=.string ⟨x.toArray⟩:=ha;have q7:u=.string ⟨y.toArray⟩:=hb;subst ha' q7;rw[Cr,bytes_beq,<-fF];exact h2
 |1=>
  rw[hn]at h;obtain⟨k,x,hx,h1⟩:=AB h
  obtain⟨k',y,hy,h2⟩:=AB h1
  subst hx hy;have ha':v=.int k x:=ha;have q7:u=.int k' y:=hb;subst ha' q7;obtain⟨h3,h4⟩:=ag h2
  have:=gQ h3;subst this;rw[kU]at h4;rw[Cm];simpa using h4
 |n+2=>
  rw[hn]at h;obtain⟨x,hx,h1⟩:=zF h
  obtain⟨y,hy,h2⟩:=zF h1
  rw[AV.ij hx ha,AV.ij hy hb];exact h2
theorem Mt{kt:TypeId}{k x:AV}{v u:Value}(hk:AR β k v)(o7:k.bz=true)(hx:AR β x u)(U7:x.bz=true):∀{l:List bu}{ms:List MapEntry},ERs β l ms->∀{r:Bool×List bu},mR P kt k x l=some r ->
  match r.1 with
  |false=>Scan P kt v ms none
  |true=>∃i me,Scan P kt v ms (some i)∧ms[i]?=some me∧Instr.sameBits 10000 me.key v=true∧ERs β r.2 (ms.modify i λe=>{ e with key:=v,val:=u })
 |[],[],_,r,h=>by cases h;exact .nil
 |a::l,b::ms,hE,r,h=>by
  have h':aw (ib P kt k a.key) none (λb=>ifE b (ifE (sameKey P kt a.key k) (some (true,⟨k,x,a.born⟩::l)) none) (aw (mR P kt k x l) none λr=>some (r.1,a::r.2)))=some r:=h;obtain⟨q,hq,h1⟩:=da h'
  have he:=Eu hk hE.1.1 hq;rw[bL]at h1;cases q with
  |true=>
   rw[zB0 rfl,bL]at h1;split at h1
   ·rename_i hs
    cases h1
    refine⟨0,b,.S3 he,rfl,Jv hE.1.1 hk hs,?_⟩
    exact⟨⟨hk,o7,hx,U7,hE.1.2.2.2.2⟩,hE.2⟩
   cases h1
  |false=>
   obtain⟨r',E3,h2⟩:=da h1
   cases h2
   have:=Mt hk o7 hx U7 hE.2 E3;obtain⟨b1,l1⟩:=r'
   cases b1 with
   |false=>exact .miss he this
   |true=>
    obtain⟨i,me,h3,h4,h5,h6⟩:=this
    refine⟨i+1,me,.miss he h3,by simpa using h4,h5,?_⟩
    simp only[List.modify_succ_cons];exact⟨hE.1,h6⟩
 |[],_::_,hE,_,_=>hE.elim
 |_::_,[],hE,_,_=>hE.elim
theorem ERs.append{l l':List bu}{ms ms':List MapEntry}(h:ERs β l ms)(h':ERs β l' ms'):ERs β (l++l') (ms++ms'):=by
 induction l generalizing ms with
 |nil=>cases ms with|nil=>exact h'|cons=>exact h.elim
 |cons c l ih=>cases ms with|nil=>exact h.elim|cons v ms=>exact⟨h.1,ih h.2⟩
theorem pO(hR:Rel m β H w)(hm:m≤m){t kt et:TypeId}(ht:fW P t=some (kt,et)){mp k x:AV}{v u y:Value}(hmp:AR β mp v)(hk:AR β k u)(hx:AR β x y):
  ah P m β H w (aU P H kt mp k x) ((do Instr.mapUpdate t v u y;pure Next.skip:Sem Next).run P w):=by
 have hu:=BC ht;unfold aU;split
 ·rename_i id
  obtain⟨p,hp,rfl⟩:=hmp
  split
  ·rename_i es clock hg
   obtain⟨ms,h1,h2⟩:=nW hR hg hp
   refine ah.nd λ_ T5=>ah.guard λA0=>ah.nd λr hr=>?_;have hc:=qO (P:=P) (w:=w) hk T5;have z5:=Mt hk (ag A0).1 hx (ag A0).2 h2 hr;obtain⟨b,l⟩:=r
   cases b with
   |false=>
    have Q1:=Scan.run (w:=w) z5 (fa T5);simp only at Q1
    intro V0;have q6:∀o,(setObj p.b o).run P w=_:=λo=>MapKept.run_setObj_map o h1;refine⟨undef,_,.inr ⟨?_,rfl⟩,Out.one ⟨[],trivial,rfl⟩ (kL hR hm V0 hg _ hp w rfl rfl rfl rfl (.map (ms.toArray.push { key:=u,val:=y,born:=clock }) (clock+1)) ?_)⟩
    ·simp[Instr.mapUpdate,run_underlying hu,cu h1,hc,Q1,q6]
    intro w' Y3;refine⟨ms++[{ key:=u,val:=y,born:=clock }],by rw[Y3];simp,?_⟩
    exact h2.append ⟨⟨hk,(ag A0).1,hx,(ag A0).2,rfl⟩,trivial⟩
   |true=>
    obtain⟨i,me,h3,h4,h5,h6⟩:=z5
    obtain⟨me',hme',Q1⟩:=Scan.run (w:=w) h3 (fa T5)
    intro V0;have q6:∀o,(setObj p.b o).run P w=_:=λo=>MapKept.run_setObj_map o h1;refine⟨undef,_,.inr ⟨?_,rfl⟩,Out.one ⟨[],trivial,rfl⟩ (kL hR hm V0 hg _ hp w rfl rfl rfl rfl (.map (ms.toArray.modify i λe=>{ e with key:=u,val:=y }) clock) ?_)⟩
    ·simp[Instr.mapUpdate,run_underlying hu,cu h1,hc,Q1,h4,Instr.keyThatStays,h5,q6]
    intro w' Y3;exact⟨ms.modify i λe=>{ e with key:=u,val:=y },by rw[Y3];simp,h6⟩
  exact trivial
 exact trivial
theorem Qp(hR:Rel m β H w)(hm:m≤m){t kt et:TypeId}(ht:fW P t=some (kt,et)){x:AV}{v:Value}(hx:AR β x v):
  ah P m β H w (gC H x) ((do let y <-Instr.range t v;pure (Next.value y):Sem Next).run P w):=by
 have hu:=BC ht;unfold gC;split
 ·have hv:v=.map none:=hx;subst hv;intro V0;have Z7:H.nx+1≤m:=V0;have B4:=ly hR hm (by omega) (.oth (.iter none 0 [] 0)) ⟨w.heap.size,0,0,0⟩ (w':=w.alloc (.mapIter none 0 #[] 0)) (zA1 _) (by simp) rfl rfl rfl
   (λb hb=>RowKit.Below.heap_alloc w _ b hb) (λg hg=>hg) ⟨_,aN _ _ _ _,heap_alloc_new w _⟩
  refine⟨.pointer (some ⟨w.heap.size,0,none⟩),_,.inl ?_,Out.one ⟨_,aN _ _ _ _,rfl⟩ B4⟩
  simp only[Sem.run_bind,run_range_nilMap w t kt et hu,Result.andThen_ok];rfl
 ·rename_i id
  obtain⟨p,hp,rfl⟩:=hx
  split
  ·rename_i es clock hg
   obtain⟨ms,h1,h2⟩:=nW hR hg hp
   intro V0;have Z7:H.nx+1≤m:=V0;have Z0:¬(id=H.nx∧(0:Nat)=0):=by have:=hR.QJ hg;omega
   have B4:=ly hR hm (by omega) (.oth (.iter (some id) clock [] clock)) ⟨w.heap.size,0,0,0⟩ (w':=w.alloc (.mapIter (some p.b) clock #[] clock)) (zA1 _) (by simp) rfl rfl rfl
    (λb hb=>RowKit.Below.heap_alloc w _ b hb) (λg hg=>hg) ⟨_,aN _ _ _ _,p,by rw[bw _ _ _ _ Z0];exact hp,heap_alloc_new w _⟩
   refine⟨.pointer (some ⟨w.heap.size,0,none⟩),_,.inl ?_,Out.one ⟨_,aN _ _ _ _,rfl⟩ B4⟩
   simp only[Sem.run_bind,run_range_map w t kt et p.b ms.toArray clock hu h1,Result.andThen_ok];rfl
  exact trivial
 exact trivial
theorem ERs.filter{f:bu->Bool}{g:MapEntry->Bool}(hfg:∀e me,me.born=e.born->f e=g me):∀{l:List bu}{ms:List MapEntry},ERs β l ms->ERs β (l.filter f) (ms.filter g)
 |[],[],_=>trivial
 |a::l,b::ms,h=>by
  have h1:=hfg a b h.1.2.2.2.2;have ih:=ERs.filter hfg h.2;rw[List.filter_cons,List.filter_cons,h1];cases g b with
  |true=>exact⟨h.1,ih⟩
  |false=>exact ih
 |[],_::_,h=>h.elim
 |_::_,[],h=>h.elim
theorem ERs.all{f:bu->Bool}{g:MapEntry->Bool}(hfg:∀e me,me.born=e.born->f e=g me):∀{l:List bu}{ms:List MapEntry},ERs β l ms->l.all f=ms.all g
 |[],[],_=>rfl
 |a::l,b::ms,h=>by
  rw[List.all_cons,List.all_cons,hfg a b h.1.2.2.2.2,ERs.all hfg h.2]
 |[],_::_,h=>h.elim
 |_::_,[],h=>h.elim
theorem ERs.isEmpty{l:List bu}{ms:List MapEntry}(h:ERs β l ms):l.isEmpty=ms.isEmpty:=by
 have:=h.length;cases l<;>cases ms<;>first|rfl|simp at this
theorem xe(hR:Rel m β H w){id:Nat}{mm:Option Nat}{since last:Nat}{seen:List Nat}(h:H.get id=some (.oth (.iter mm since seen last))){p:Place}(hp:β id 0=some p):
  match mm with
  |none=>w.heap[p.b]?=some (.mapIter none since seen.toArray last)
  |some i=>∃q,β i 0=some q∧w.heap[p.b]?=some (.mapIter (some q.b) since seen.toArray last):=by
 obtain⟨q,hq,h1⟩:=hR.obj id _ h
 rw[hp]at hq;cases hq;cases mm with
 |none=>exact h1
 |some i=>exact h1
theorem oB{r b since last clock:Nat}{seen:List Nat}{ms:List MapEntry}(ty:TypeId)(h1:w.heap[r]?=some (.mapIter (some b) since seen.toArray last))(h2:w.heap[b]?=some (.map ms.toArray clock))
  (hc:(!seen.isEmpty&&!ms.isEmpty&&ms.all (λe=>decide (e.born≥last)))=false) (hold:∀e∈ms.filter (λe=>!seen.contains e.born),e.born<since):
  (ms.filter (λe=>!seen.contains e.born)=[]->(Instr.next (.pointer (some ⟨r,0,none⟩)) false ty).run P w=.ok (.tuple #[.bool false]) w) ∧
  (ms.filter (λe=>!seen.contains e.born)≠[]->∃(j:Nat)(e:MapEntry)(w1:World),(ms.filter (λe=>!seen.contains e.born))[j]?=some e∧w1.heap=w.heap∧w1.os=w.os∧w1.tape=w.tape∧w1.output=w.output ∧
   (Instr.next (.pointer (some ⟨r,0,none⟩)) false ty).run P w=.ok (.tuple #[.bool true,e.key,e.val]) { w1 with heap:=w1.heap.setIfInBounds r (.mapIter (some b) since (seen.toArray.push e.born) clock) }):=by
 have p_:(!seen.toArray.isEmpty&&!ms.toArray.isEmpty&&ms.toArray.all (λe=>decide (e.born≥last)))=false:=by simpa using hc
 have hf:ms.toArray.filter (λe=>!seen.toArray.contains e.born)=(ms.filter (λe=>!seen.contains e.born)).toArray:=by simp
 simp only[Instr.next,Sem.run_bind,gV h1,cu h2,Result.andThen_ok,p_,Bool.false_eq_true,if_false,hf];generalize ms.filter (λe=>!seen.contains e.born)=L at hold;have e1:L.toArray.filter (λx=>decide (x.born<since))=L.toArray:=Array.filter_eq_self.2 (λx hx=>by simpa using hold x (by simpa using hx));have e2:L.toArray.filter (λx=>decide (x.born≥since))=#[]:=by
  rw[Array.filter_eq_empty_iff];intro x hx;have:=hold x (by simpa using hx);simp
  omega
 simp only[e1,e2,Array.append_empty];refine⟨λh0=>?_,λh0=>?_⟩
 ·subst h0;simp[choose,Sem.run,Question.forced]
 have Z0:L.toArray.isEmpty=false:=by cases L with|nil=>exact absurd rfl h0|cons a l=>rfl
 have D4:0<L.length:=by cases L with|nil=>exact absurd rfl h0|cons a l=>simp
 simp only[Z0,Bool.false_eq_true,if_false,Array.empty_append,Array.size_map];have hch:∃(j:Nat)(w1:World),j<L.length∧w1.heap=w.heap∧w1.os=w.os∧w1.tape=w.tape∧w1.output=w.output∧(choose (Question.mapNext L.toArray.size)).run P w=.ok j w1:=by
  by_cases hf:L.length≤1
  ·exact⟨0,w,D4,rfl,rfl,rfl,rfl,by simp[choose,Sem.run,Question.forced,hf]⟩
  exact⟨_,w.drew,Nat.mod_lt _ D4,rfl,rfl,rfl,rfl,by
   simp only[choose,Sem.run,Question.forced,List.size_toArray,decide_eq_true_eq,hf,if_false,Question.cut];rfl⟩
 obtain⟨j,w1,hj,a1,a2,a3,a4,Q1⟩:=hch
 refine⟨j,L[j],w1,zB4 hj,a1,a2,a3,a4,?_⟩
 have q6:∀o',(setObj r o').run P w1=.ok () { w1 with heap:=w1.heap.setIfInBounds r o' }:=λo'=>by
  simp only[setObj,Sem.run,a1,h1]
 simp only[Q1,Result.andThen_ok];have N2:(L.toArray.map some)[j]?=some (some L[j]):=by simp[hj]
 simp only[N2,Sem.run_bind,q6,Result.andThen_ok];rfl
theorem UY(hR:Rel m β H w)(hm:m≤m){x:AV}{v:Value}(hx:AR β x v)(ty:TypeId):
  ah P m β H w (ei H x) ((do let y <-Instr.next v false ty;pure (Next.value y):Sem Next).run P w):=by
 unfold ei;split
 ·rename_i r
  obtain⟨p,hp,rfl⟩:=hx
  split
  ·rename_i a b c hg
   have h1:=xe hR hg hp;simp only at h1
   refine ah.same hR (v:=.tuple #[.bool false]) ?_ ⟨[.bool false],⟨rfl,trivial⟩,rfl⟩;simp[Instr.next,gV h1]
  ·rename_i mi since seen last hg
   obtain⟨q,hq,h1⟩:=xe hR hg hp
   split
   ·rename_i es clock hgm
    obtain⟨ms,h2,hE⟩:=nW hR hgm hq
    refine ah.guard λhcond=>?_;have hc:(!seen.isEmpty&&!ms.isEmpty&&ms.all (λe=>decide (e.born≥last)))=false:=by
     rw[<-hE.isEmpty,<-ERs.all (f:=λe=>Nat.ble last e.born) (g:=λe=>decide (e.born≥last)) (λe me hb=>by rw[hb,Bool.eq_iff_iff];simp) hE];cases hq:(!seen.isEmpty&&!es.isEmpty&&es.all (λe=>Nat.ble last e.born))with
     |false=>rfl
     |true=>rw[hq]at hcond;cases hcond
    have hfE:ERs β (es.filter λe=>!seen.contains e.born) (ms.filter λe=>!seen.contains e.born):=hE.filter λe me hb=>by rw[hb]
    split
    ·rename_i G4
     rw[G4]at hfE;have hnil':ms.filter (λe=>!seen.contains e.born)=[]:=by
      cases hms:ms.filter (λe=>!seen.contains e.born)with
      |nil=>rfl
      |cons=>rw[hms]at hfE;exact hfE.elim
     refine ah.same hR (v:=.tuple #[.bool false]) ?_ ⟨[.bool false],⟨rfl,trivial⟩,rfl⟩;have:=(oB (P:=P) ty h1 h2 hc (by rw[hnil'];intro e he;cases he)).1 hnil';simp only[Sem.run_bind,this,Result.andThen_ok];rfl
    rename_i e l hcons
    refine ah.guard λhborn=>?_;rw[<-hcons]at hborn ⊢;intro V0;have hold:∀e∈ms.filter (λe=>!seen.contains e.born),e.born<since:=by
     have:=ERs.all (f:=λe=>Nat.blt e.born since) (g:=λe=>decide (e.born<since)) (λe me hb=>by rw[hb,Bool.eq_iff_iff,decide_eq_true_eq];exact⟨λh=>zA4 h,λh=>zA5 h⟩) hfE;rw[hborn]at this;intro e he;simpa using List.all_eq_true.1 this.symm e he
    have Z0:ms.filter (λe=>!seen.contains e.born)≠[]:=by
     intro h;rw[h,hcons]at hfE;exact hfE
    obtain⟨j,me,w1,hj,a1,a2,a3,a4,Q1⟩:=(oB (P:=P) ty h1 h2 hc hold).2 Z0
    have C8:j<(es.filter λe=>!seen.contains e.born).length:=by rw[<-hfE.length];exact(List.getElem?_eq_some_iff.1 hj).1
    have Y_:=zB4 C8;obtain⟨b1,b2,b3,b4,b5⟩:=hfE.at Y_ hj
    have E0:(mw ((es.filter λe=>!seen.contains e.born)[j]).key ((es.filter λe=>!seen.contains e.born)[j]).val,H.mod r (.oth (.iter (some mi) since (seen++[((es.filter λe=>!seen.contains e.born)[j]).born]) clock))) ∈
      (es.filter λe=>!seen.contains e.born).map (λe=>(mw e.key e.val,H.mod r (.oth (.iter (some mi) since (seen++[e.born]) clock)))):=List.mem_map.2 ⟨_,List.getElem_mem C8,rfl⟩
    have Z7:H.nx≤m:=V0 _ E0;refine⟨.tuple #[.bool true,me.key,me.val],_,by simp only[Sem.run_bind,Q1,Result.andThen_ok];rfl,_,E0,β,⟨[.bool true,me.key,me.val],⟨rfl,rC b1 b2,rC b3 b4,trivial⟩,rfl⟩,?_⟩
    refine kL hR hm Z7 hg _ hp w1 a1 a2 a3 a4 _ λw' Y3=>⟨q,hq,?_⟩;rw[Y3,b5];simp
   exact trivial
  exact trivial
 exact trivial
theorem ERs.find{st:Nat}:∀{l:List bu}{ms:List MapEntry},ERs β l ms->∀{e:bu},l.find? (λe=>Nat.beq e.born st)=some e ->
  ∃me,ms.find? (λe=>e.born==st)=some me∧AR β e.key me.key∧e.key.bz=true∧AR β e.val me.val∧e.val.bz=true
 |[],[],_,e,h=>by cases h
 |a::l,b::ms,hE,e,h=>by
  rw[List.find?_cons]at h ⊢;have hb:(b.born==st)=Nat.beq a.born st:=by rw[hE.1.2.2.2.2,Bool.eq_iff_iff,beq_iff_eq,Nat.beq_eq]
  rw[hb];cases hq:Nat.beq a.born st with
  |true=>
   rw[hq]at h;cases h
   exact⟨b,rfl,hE.1.1,hE.1.2.1,hE.1.2.2.1,hE.1.2.2.2.1⟩
  |false=>
   rw[hq]at h;exact ERs.find hE.2 h
 |[],_::_,hE,_,_=>hE.elim
 |_::_,[],hE,_,_=>hE.elim
theorem Sd(hR:Rel m β H w){x:AV}{v:Value}(hx:AR β x v):
  ah P m β H w (gF H x) ((do let y <-Instr.entry v;pure (Next.value y):Sem Next).run P w):=by
 unfold gF;split
 ·rename_i r
  obtain⟨p,hp,rfl⟩:=hx
  split
  ·rename_i mi since seen stepped hg
   obtain⟨q,hq,h1⟩:=xe hR hg hp
   split
   ·rename_i es clock hgm
    obtain⟨ms,h2,hE⟩:=nW hR hgm hq
    split
    ·rename_i st Y2
     refine ah.guard λJ1=>?_;have J1:clock=stepped:=zA3 J1;subst J1;split
     ·rename_i e hfe
      obtain⟨me,hme,b1,b2,b3,b4⟩:=hE.find hfe
      refine ah.same hR (v:=.tuple #[me.key,me.val]) ?_ ⟨[me.key,me.val],⟨rC b1 b2,rC b3 b4,trivial⟩,rfl⟩;simp[Instr.entry,gV h1,cu h2,Y2,hme]
     exact trivial
    exact trivial
   exact trivial
  exact trivial
 exact trivial
end
section
variable{P:Program}{m:Nat}{β:Pl}{H:Hp}{w:World}{tm:PT AV}{r:Result Next}
theorem SF.nd{α:Type}{o:Option α}{s:String}{f:α->SF}(h:∀a,o=some a->ah P m β H w ((f a).run tm H) r):ah P m β H w ((ndF o s f).run tm H) r:=by
 cases o with
 |none=>exact trivial
 |some a=>exact h a rfl
theorem SF.ifE{b:Bool}{s:String}{f:SF}(h:b=true->ah P m β H w (f.run tm H) r):ah P m β H w ((ifE b f (ee s)).run tm H) r:=by
 cases b with
 |false=>exact trivial
 |true=>exact h rfl
theorem lz{α:Type}{a:Array α}{x y:α}(h:a.toList=[x,y]):a=#[x,y]:=by
 apply Array.ext'
 simpa using h
theorem MP{α γ:Type}(f:α->γ)(x y:α):(#[x,y]:Array α).map f=#[f x,f y]:=by simp
theorem Wu{α γ:Type}(f:α->γ)(x:α):(#[x]:Array α).map f=#[f x]:=by simp
theorem vh{α:Type}{a:Array α}{x:α}(h:a.toList=[x]):a=#[x]:=by
 apply Array.ext'
 simpa using h
theorem Jw(hR:Rel m β H w)(hm:m≤m){a:Act}(R0:∀t,AR β (aw (tm.get t) aD λv=>v) (a.tmps.getD t undef))(o:Oper)(c:Call)(b:Builtin)(ho:o.op=.call c)(hc:c.callee=.builtin b):
  ah P m β H w ((jd P o b c.args.toList c.argTypes.toList).run tm H) ((execOp a.eval o).run P w):=by
 obtain⟨cs,he⟩:∃cs,execOp a.eval o=builtin b c.argTypes o.type cs (c.args.map a.eval):=by
  refine⟨c.args.map λ|.const _=>true|_=>false,?_⟩
  obtain⟨dst,op,type,pos,after,guard⟩:=o
  cases ho
  cases c
  cases hc
  rfl
 have hp:=Gt (P:=P) hR R0 o (by intro cs bb h;rw[ho]at h;cases h);unfold jd;split
 ·rename_i s x t t2 h1 h2
  refine SF.ifE λhq=>?_;have:=zA3 hq;subst this;rw[he,lz h1,lz h2,MP];exact OO (P:=P) (t:=t) hR hm o.type (bG R0 s) (bG R0 x)
 ·rename_i d s t t2 h1 h2
  refine SF.ifE λhq=>?_;have:=zA3 hq;subst this;rw[he,lz h1,lz h2,MP];exact Wz (P:=P) (t:=t) (ty:=o.type) hR hm (bG R0 d) (bG R0 s)
 ·rename_i x t h1 h2
  refine SF.nd λk hk=>?_;rw[he,vh h1,vh h2,Wu];exact Ye (P:=P) (t:=t) (ty:=o.type) hR hk (bG R0 x)
 ·exact hp
 ·exact hp
 exact trivial
theorem UE(hR:Rel m β H w)(hm:m≤m){a:Act}(R0:∀t,AR β (aw (tm.get t) aD λv=>v) (a.tmps.getD t undef))(o:Oper)(c:Call)(ho:o.op=.call c):
  ah P m β H w ((sR P o c).run tm H) ((execOp a.eval o).run P w):=by
 unfold sR;split
 ·rename_i f hc
  have he:execOp a.eval o=(do let d <-Deferred.ofValue (a.eval f) (c.args.toList.map a.eval).toArray;invoke d.target d.args):=by
   obtain⟨dst,op,type,pos,after,guard⟩:=o
   cases ho
   cases c
   cases hc
   rw[<-Array.toList_map,Array.toArray_toList];rfl
  rw[he];exact Wx (bG R0 f) (JS R0 c.args.toList)
 ·rename_i b hc
  exact Jw hR hm R0 o c b ho hc
 exact trivial
theorem Vi(hR:Rel m β H w)(hm:m≤m){a:Act}(R0:∀t,AR β (aw (tm.get t) aD λv=>v) (a.tmps.getD t undef))(o:Oper):
  ah P m β H w (Uz P tm H o) ((execOp a.eval o).run P w):=by
 have hp:=λhs=>Gt (P:=P) hR R0 o hs;have J1:=λc hc=>UE (P:=P) hR hm R0 o c hc;obtain⟨dst,op,type,pos,after,guard⟩:=o
 unfold Uz;cases op with
 |move x=>exact Lf hR R0 x
 |assign x=>exact Lf hR R0 x
 |pick c x y=>exact VD hR R0 c x y
 |alloc e=>exact SF.nd λz hz=>SJ hR hm hz
 |box e x=>exact Yp hR hm e (bG R0 x)
 |build t parts=>exact SF.nd λz hz=>SF.nd λpl G7=>SF.nd λps B8=>QS hR R0 hz G7 B8
 |buildSlice t len parts=>exact SF.nd λes hes=>SF.nd λz hz=>SF.ifE λhg=>SF.nd λps B8=>xx hR hm R0 hes hz (zA4 (ag hg).1) (by rw[<-bj];exact zA3 (ag hg).2) B8
 |load t x=>exact SF.nd λp hl=>Ve hR (a:=p.1) (n:=p.2) hl (bG R0 x)
 |store t x y=>exact SF.nd λn hn=>PU hR hm hn (bG R0 y) (bG R0 x)
 |nilCheck x=>exact Hi hR (bG R0 x) _ rfl
 |binOp op t x y c=>exact Yv hR (bG R0 x) (bG R0 y) (hp (by simp))
 |unOp op t x=>exact ZG hR (bG R0 x) (hp (by simp))
 |convert s d x=>exact hp (by simp)
 |fieldAddr s x f=>exact SF.nd λp hf=>Dh hR (ft:=p.2.1) hf (bG R0 x)
 |field t x f=>exact SF.nd λp hf=>SF.nd λb hb=>QN hR (ft:=p.2.1) hf hb (bG R0 x)
 |indexAddr t x i=>exact SF.nd λp hf=>CM hR (e:=p.1) hf (bG R0 x) (bG R0 i)
 |index t x i=>exact Uv hR (bG R0 x) (bG R0 i) (hp (by simp))
 |slice t x lo hi mx=>
  cases mx with
  |some _=>exact trivial
  |none=>
   cases he:bt P t with
   |none=>
    have:aI P ⟨dst,.slice t x lo hi none,type,pos,after,guard⟩=.mk λtm h=>aq P tm h ⟨dst,.slice t x lo hi none,type,pos,after,guard⟩:=by
     simp[aI,he]
    rw[this];exact hp (by simp)
   |some p=>
    have:aI P ⟨dst,.slice t x lo hi none,type,pos,after,guard⟩=.mk λtm h=>cR h p.2 ((opF x).ev tm) (lo.map (ev tm)) (hi.map (ev tm)) (aq P tm h ⟨dst,.slice t x lo hi none,type,pos,after,guard⟩):=by
     simp[aI,he]
    rw[this];exact Uq hR R0 (e:=p.1) he (hp (by simp))
 |extract x i=>exact IU hR (bG R0 x) i
 |makeFunc fn first caps=>
  cases fn with
  |func f=>
   refine SF.ifE λhg=>?_;have:first=#[]:=by simpa using hg
   subst this;exact GM hR R0 f caps
  |_=>exact trivial
 |makeMap t r=>
  cases r with
  |some _=>exact trivial
  |none=>exact Iw hR hm t
 |makeSlice t l c=>exact CC hR hm (bG R0 l) (bG R0 c)
 |lookup t x k ok=>exact SF.nd λp ht=>SF.nd λz hz=>Pb hR (kt:=p.1) (et:=p.2) ht hz (bG R0 x) (bG R0 k) ok
 |mapUpdate t x k y=>exact SF.nd λp ht=>pO hR hm (kt:=p.1) (et:=p.2) ht (bG R0 x) (bG R0 k) (bG R0 y)
 |insert t x k y=>exact SF.nd λp ht=>pO hR hm (kt:=p.1) (et:=p.2) ht (bG R0 x) (bG R0 k) (bG R0 y)
 |range t x=>exact SF.nd λp ht=>Qp hR hm (kt:=p.1) (et:=p.2) ht (bG R0 x)
 |next x b=>
  cases b with
  |true=>exact trivial
  |false=>exact UY hR hm (bG R0 x) type
 |entry x=>exact Sd hR (bG R0 x)
 |call c=>exact J1 c rfl
 |_=>exact trivial
end
def ng(β:Pl):List Nat->List Deferred->Prop
 |[],[]=>True
 |i::l,d::ds=>(∃p,β i 0=some p∧d={ target:=.collected p.b,args:=#[] })∧ng β l ds
 |_,_=>False
structure gP(β:Pl)(A:aa)(a:Act):Prop where
 tm:TmR β A.tm A.nt a.tmps
 df:ng β A.dfr a.defers
def kV(β:Pl)(r:Option Nat)(rB:Option Nat):Prop:=
 match r with
 |none=>rB=none
 |some l=>∃p,β l 0=some p∧rB=some p.b
def fen(rB:Option Nat):Fence:={ fn:=λ_=>True,depth:=none,alive:=false,round:=rB }
def XR:ak->Exit->Prop
 |.normal,.normal=>True
 |.exit i,.exit j=>i=j
 |.ret,.ret=>True
 |_,_=>False
def ed(m:Nat)(β:Pl)(H:Hp)(w:World)(outs:List (ak×aa×Hp))(e:Exit)(a':Act)(w':World):Prop:=
 ∃x,x∈outs∧XR x.1 e∧∃β',gP β' x.2.1 a'∧Rel m β' x.2.2 w'∧Ext β H w β' x.2.2 w'
def KJ(m:Nat)(β:Pl)(H:Hp)(w:World)(outs:List (aa×Hp))(a':Act)(w':World):Prop:=
 ∃x,x∈outs∧∃β',gP β' x.1 a'∧Rel m β' x.2 w'∧Ext β H w β' x.2 w'
def kz(m:Nat)(β:Pl)(H:Hp)(w:World)(outs:List (AV×Hp))(e:Ending)(w':World):Prop:=∃v,e=.returned v∧Out m β H w outs v w'
structure Cp(P:Program)(N:Nat)(rec:Rec):Prop where
 code:∀{m:Nat}{β:Pl}{H:Hp}{w:World}{r rB:Option Nat}{A:aa}{a:Act}{c:Code}{outs:List (ak×aa×Hp)},m≤m->Rel m β H w->gP β A a->kV β r rB ->
  rec.code r c A H=.ok outs->(∀x∈outs,nE x≤m)->c.wpIn (fen rB) 0 P (ed m β H w outs) a w∧∀x,c=.loop x->Code.roundsIn (fen rB) 0 P x (ed m β H w outs) N a w
 call:∀{m:Nat}{β:Pl}{H:Hp}{w:World}{f:FuncId}{args:List AV}{vs:List Value}{outs:List (AV×Hp)},m≤m->Rel m β H w->ARs β args vs ->
  rec.call f args H=.ok outs->(∀x∈outs,nV x≤m)->CallsIn Fence.wide 0 P f vs.toArray w (kz m β H w outs)
structure qC(E:Env):Prop where
 name:∀(f:FuncId)(fn:Func),E.P.funcs[f]?=some fn->fn.body.isSome=true->(fn.name == "runtime.NumGoroutine")=false
 mixed:E.P.follows .mixedOrders=true
 dQ:∀(f:FuncId)(args:List AV)(v:AV),E.dQ f args=some v->∀(β:Pl)(vs:List Value)(w:World),ARs β args vs ->
  CallsIn Fence.wide 0 E.P f vs.toArray w λe w'=>∃u,e=.returned u∧AR β v u∧w'.os=w.os∧w'.tape=w.tape∧w'.output=w.output∧w.heap.size≤w'.heap.size∧∀b,b<w.heap.size->w'.heap[b]?=w.heap[b]?
 dZ:∀{m:Nat}{β:Pl}{H:Hp}{w:World}(f:FuncId)(args:List AV)(x:AV×Nat×aJ),E.dZ f args H=some x->Rel m β H w->∀(vs:List Value),ARs β args vs->H.nx≤m ->
  CallsIn Fence.wide 0 E.P f vs.toArray w (kz m β H w [(x.1,H.mod x.2.1 x.2.2)])
def qC.of3{E:Env} (h1:∀(f:FuncId)(fn:Func),E.P.funcs[f]?=some fn->fn.body.isSome=true->(fn.name == "runtime.NumGoroutine")=false) (h2:E.P.follows .mixedOrders=true)
  (h3:∀(f:FuncId)(args:List AV)(v:AV),E.dQ f args=some v->∀(β:Pl)(vs:List Value)(w:World),ARs β args vs ->
   CallsIn Fence.wide 0 E.P f vs.toArray w λe w'=>∃u,e=.returned u∧AR β v u∧w'.os=w.os∧w'.tape=w.tape∧w'.output=w.output∧w.heap.size≤w'.heap.size∧∀b,b<w.heap.size->w'.heap[b]?=w.heap[b]?)
  (hH:∀f args H,E.dZ f args H=none:=by intros;rfl):qC E:=
 ⟨h1,h2,h3,λf args x h=>by rw[hH]at h;cases h⟩
def ng.mono{β β':Pl}(hs:Sub β β'):∀{l:List Nat}{ds:List Deferred},ng β l ds->ng β' l ds
 |[],[],_=>trivial
 |_::_,_::_,h=>⟨by obtain⟨p,hp,hd⟩:=h.1;exact⟨p,hs _ _ _ hp,hd⟩,ng.mono hs h.2⟩
 |[],_::_,h=>h.elim
 |_::_,[],h=>h.elim
def gP.mono{β β':Pl}(hs:Sub β β'){A:aa}{a:Act}(h:gP β A a):gP β' A a:=⟨h.tm.mono hs,h.df.mono hs⟩
def kV.mono{β β':Pl}(hs:Sub β β'){r rB:Option Nat}(h:kV β r rB):kV β' r rB:=by
 cases r with
 |none=>exact h
 |some l=>obtain⟨p,hp,h⟩:=h;exact⟨p,hs _ _ _ hp,h⟩
def Rel.grown{m:Nat}{β:Pl}{H:Hp}{w w':World}(hR:Rel m β H w)(hw:∀b,b<w.heap.size->w'.heap[b]?=w.heap[b]?):Rel m β H w' where
 obj:=λid o ho=>fk.mono (λ_ _ _ h=>h) (hR.obj id o ho) (λ_=>rfl) λg p hg hp=>hw _ ((hR.obj id o ho).lt hg hp)
 sep:=hR.sep
 wf:=hR.wf
 free:=hR.free
def Ext.grown{β:Pl}{H:Hp}{w w':World}(h1:w'.os=w.os)(h2:w'.tape=w.tape)(h3:w'.output=w.output)(h4:w.heap.size≤w'.heap.size)(hw:∀b,b<w.heap.size->w'.heap[b]?=w.heap[b]?):Ext β H w β H w':=
 { Ext.refl β H w with size:=h4,os:=h1,tape:=h2,output:=h3,frame:=λb hb _=>hw b hb,far:=λ_ _ b hb _=>hw b hb,prov:=λid o g p a b c=>.inr ⟨o,g,p,a,b,c,rfl,rfl⟩ }
def TmR.put{β:Pl}{tm:PT AV}{nt:Nat}{tmps:Array Value}(h:TmR β tm nt tmps){d:Nat}(hd:d<nt){v:AV}{u:Value}(hv:AR β v u):TmR β (tm.set d v) nt (tmps.setIfInBounds d u):=by
 obtain⟨h1,h2,h3⟩:=h
 refine⟨by simp[h1],h2,λt=>?_⟩
 rw[PT.nU _ _ _ _ (by omega)];by_cases ht:t=d
 ·subst ht;rw[zB0 rfl];have:(tmps.setIfInBounds t u).getD t undef=u:=by simp[h1,hd]
  rw[this];exact hv
 rw[zB1 ht];have:(tmps.setIfInBounds d u).getD t undef=tmps.getD t undef:=by
  simp only[Array.getD_eq_getD_getElem?];rw[Array.getElem?_setIfInBounds_ne (λh=>ht h.symm)]
 rw[this];exact h3 t
def gP.put{β:Pl}{A:aa}{a:Act}(h:gP β A a){v:AV}{u:Value}(hv:AR β v u){H:Hp}{dst:Option Tmp}{k:aa->Hp->R (aa×Hp)}{outs:List (aa×Hp)}(hk:fA A dst v H k=.ok outs):
  ∃A',k A' H=.ok outs∧gP β A' (a.put dst u):=by
 cases dst with
 |none=>exact⟨A,hk,h⟩
 |some d=>
  have O3:ifE (Nat.blt d A.nt) (k (A.put d v) H) (.bad "slot")=.ok outs:=hk
  rw[bL]at O3;split at O3
  ·rename_i hd
   exact⟨_,O3,h.tm.put (zA4 hd) hv,h.df⟩
  cases O3
def mI(β:Pl):AR β aD undef:=⟨[],trivial,rfl⟩
section
variable{E:Env}(hE:qC E){N:Nat}{rec:Rec}(J0:Cp E.P N rec)
theorem qN{P:Program} (hn:∀(f:FuncId)(fn:Func),P.funcs[f]?=some fn->fn.body.isSome=true->(fn.name == "runtime.NumGoroutine")=false) {f:FuncId} (hb:ao P f=true) (args:Array Value) (w:World):
  (callFunc f args).run P w=.ok (.enter f args) w:=by
 unfold ao at hb;cases hf:P.funcs[f]? with
 |none=>rw[hf]at hb;cases hb
 |some fn=>
  rw[hf]at hb;have q7:fn.body.isSome=true:=hb;have h1:=hn f fn hf q7;obtain⟨c,hq⟩:=Option.isSome_iff_exists.1 q7
  have N5:fn.name ≠ "runtime.NumGoroutine" := by simpa using h1
  simp[callFunc,hf,N5,hq]
include hE J0
theorem TW{m:Nat}{β:Pl}{H:Hp}{w:World}(hm:m≤m)(hR:Rel m β H w){f:FuncId}{args:List AV}{vs:List Value}(ha:ARs β args vs){outs:List (AV×Hp)}(h:mQ E rec f args H=.ok outs)(hb:∀x∈outs,nV x≤m):
  CallsIn Fence.wide 0 E.P f vs.toArray w (kz m β H w outs):=by
 unfold mQ at h;cases hp:E.dQ f args with
 |none=>
  rw[hp]at h;have h:aw (E.dZ f args H) (rec.call f args H) (λx=>.ok [(x.1,H.mod x.2.1 x.2.2)])=.ok outs:=h;cases hq:E.dZ f args H with
  |none=>rw[hq]at h;exact J0.call hm hR ha h hb
  |some x=>
   rw[hq]at h;cases h
   exact hE.dZ f args x hq hR vs ha (hb _ (List.mem_singleton.2 rfl))
 |some v=>
  rw[hp]at h;cases h
  refine CallsIn.mono (hE.dQ f args v hp β vs w ha) λe w' he=>?_;obtain⟨u,rfl,hu,h1,h2,h3,h4,h5⟩:=he
  exact⟨u,rfl,_,List.mem_singleton.2 rfl,β,hu,hR.grown h5,Ext.grown h1 h2 h3 h4 h5⟩
end
def RG.nj{α:Type}{k m:Nat}{nx:α->Nat}{r:R α}(h:RG k nx r){o outs:List α}(ho:r=.ok o)(hs:∀y∈o,y∈outs)(hb:∀x∈outs,nx x≤m):k≤m:=by
 obtain⟨h1,h2⟩:=h o ho
 cases o with
 |nil=>exact absurd rfl h1
 |cons x l=>exact zA2 (h2 x (List.mem_cons_self ..)) (hb x (hs x (List.mem_cons_self ..)))
def KJ.ext{m:Nat}{β β':Pl}{H H':Hp}{w w':World}(hx:Ext β H w β' H' w'){outs outs':List (aa×Hp)}(hs:∀y∈outs,y∈outs'){a:Act}{w'':World}(h:KJ m β' H' w' outs a w''):KJ m β H w outs' a w'':=by
 obtain⟨x,E7,b,h1,h2,h3⟩:=h
 exact⟨x,hs x E7,b,h1,h2,hx.trans h3⟩
def ed.ext{m:Nat}{β β':Pl}{H H':Hp}{w w':World}(hx:Ext β H w β' H' w'){outs outs':List (ak×aa×Hp)}(hs:∀y∈outs,y∈outs'){e:Exit}{a:Act}{w'':World}(h:ed m β' H' w' outs e a w''):ed m β H w outs' e a w'':=by
 obtain⟨x,E7,h0,b,h1,h2,h3⟩:=h
 exact⟨x,hs x E7,h0,b,h1,h2,hx.trans h3⟩
def vV{β:Pl}{tm:PT AV}{nt:Nat}{tmps:Array Value}(R0:TmR β tm nt tmps){ops:Array Oper}{o:Oper}{yes no:R (aa×Hp)}{outs:List (aa×Hp)}(h:bB tm (gOf ops.toList o.guard) yes no=.ok outs):
  (Region.wanted o (yielded ops tmps)=true∧yes=.ok outs)∨(Region.wanted o (yielded ops tmps)=false∧no=.ok outs):=by
 unfold Region.wanted;cases hg:o.guard with
 |none=>rw[hg]at h;exact .inl ⟨rfl,h⟩
 |some p=>
  obtain⟨j,want⟩:=p
  rw[hg]at h;have key:∀y:Option Bool,yielded ops tmps j=y->(yielded ops tmps j==some want)=(y==some want):=λy hy=>by rw[hy]
  unfold gOf at h;simp only[Array.getElem?_toList]at h;cases hj:ops[j]? with
  |none=>
   rw[hj]at h;refine .inr ⟨?_,h⟩;show(yielded ops tmps j==some want)=false
   rw[key none (by simp[yielded,hj])];rfl
  |some oj=>
   rw[hj]at h;cases hd:oj.dst with
   |none=>
    simp only[hd]at h;refine .inr ⟨?_,h⟩;show(yielded ops tmps j==some want)=false
    rw[key none (by simp[yielded,hj,hd])];rfl
   |some t=>
    simp only[hd]at h;have hv:=R0.2.2 t;have hy:∀u,tmps.getD t undef=u->(∀b,u≠.bool b)->(yielded ops tmps j==some want)=false:=by
     intro u hu hb;rw[key none]
     ·rfl
     simp only[yielded,hj,hd,Option.bind_some];cases ht:tmps[t]? with
     |none=>rfl
     |some x=>
      have:x=u:=by rw[<-hu];simp[Array.getD_eq_getD_getElem?,ht]
      subst this;cases x<;>first|rfl|exact absurd rfl (hb _)
    have hyb:∀b,tmps.getD t undef=.bool b->(yielded ops tmps j==some want)=(b==want):=by
     intro b hb;rw[key (some b)]
     ·rfl
     simp only[yielded,hj,hd,Option.bind_some];cases ht:tmps[t]? with
     |none=>simp[Array.getD_eq_getD_getElem?,ht,undef]at hb
     |some x=>
      have:x=.bool b:=by rw[<-hb];simp[Array.getD_eq_getD_getElem?,ht]
      subst this;rfl
    show((yielded ops tmps j==some want)=true∧_)∨((yielded ops tmps j==some want)=false∧_)
    cases ht:tm.get t with
    |none=>
     rw[ht]at hv;have h':no=.ok outs:=by simpa [bB,aw,ht]using h
     obtain⟨vs,_,hu⟩:=hv
     exact .inr ⟨hy _ hu (by simp),h'⟩
    |some v=>
     rw[ht]at hv;have h':AV.rec (motive:=λ_=>R (aa×Hp)) (λc=>acE c (λb=>ifE b (ifE want yes no) (ifE want no yes)) (λ_ _=>no) (λ_=>.bad "guard")) (λ_=>no) (λ_=>no) (.bad "guard") v=.ok outs:=by
      simpa [bB,aw,ht]using h
     cases v with
     |one c=>
      cases c with
      |b b=>
       rw[hyb b hv];cases b<;>cases want<;>first|exact .inl ⟨rfl,h'⟩|exact .inr ⟨rfl,h'⟩
      |i k n=>
       have Z3:tmps.getD t undef=.int k n:=hv;exact .inr ⟨hy _ Z3 (by simp),h'⟩
      |o q=>cases h'
     |agg l=>
      obtain⟨vs,_,hu⟩:=hv
      exact .inr ⟨hy _ hu (by simp),h'⟩
     |tup l=>
      obtain⟨vs,_,hu⟩:=hv
      exact .inr ⟨hy _ hu (by simp),h'⟩
     |any=>cases h'
def pG{β:Pl}{nt:Nat}:∀(ps:List Tmp)(args:List AV)(vs:List Value)(tm:PT AV)(tmps:Array Value),TmR β tm nt tmps->ARs β args vs->(∀p∈ps,p<nt)->args.length=ps.length ->
  TmR β (eK ps args tm) nt ((ps.zip vs).foldl (λtmps(t,a)=>tmps.setIfInBounds t a) tmps)
 |[],[],[],tm,tmps,h,_,_,_=>h
 |p::ps,x::args,v::vs,tm,tmps,h,ha,hp,hl=>by
  refine pG ps args vs _ _ (h.put (hp p (List.mem_cons_self ..)) ha.1) ha.2 (λq hq=>hp q (List.mem_cons_of_mem _ hq)) (by simpa using hl)
 |_,[],_::_,_,_,_,ha,_,_=>ha.elim
 |_,_::_,[],_,_,_,ha,_,_=>ha.elim
 |[],_::_,_,_,_,_,_,_,hl=>by simp at hl
 |_::_,[],_,_,_,_,_,_,hl=>by simp at hl
def dF{P:Program}{w:World}{l:Nat}{r:Loop}(h:w.heap[l]?=some (.loop r)):(Instr.getLoop l).run P w=.ok r w:=by
 simp[Instr.getLoop,getObj,Sem.run,h]
def gR{P:Program}{w:World}{l:Nat}{r:Loop}(o:Obj)(h:w.heap[l]?=some (.loop r)):(setObj l o).run P w=.ok () { w with heap:=w.heap.setIfInBounds l o }:=by
 simp[setObj,Sem.run,h]
def mH{m:Nat}{β:Pl}{H:Hp}{w:World}(hR:Rel m β H w){id:Nat}{st:LoopState}{pe:Option Code}{tm:PT AV}{nt:Nat}{ps:List Tmp}{as bo:Code}{d:Nat}(h:H.get id=some (.oth (.loop st pe tm nt ps as bo d))){p:Place}(hp:β id 0=some p):
  ∃q fn tmps,β d 0=some q∧TmR β tm nt tmps∧w.heap[p.b]?=some (.loop { state:=st,pending:=pe,fn:=fn,tmps:=tmps,params:=ps.toArray,assign:=as,body:=bo,defers:=q.b }):=by
 obtain⟨q,hq,h1⟩:=hR.obj id _ h
 rw[hp]at hq;cases hq;exact h1
section
variable{E:Env}{N:Nat}{rec:Rec}(J0:Cp E.P N rec)(I0:RecM rec)
include J0 I0
theorem SV{m:Nat}{β:Pl}{H:Hp}{w:World}(hm:m≤m)(hR:Rel m β H w){id:Nat}{p:Place}{args:List AV}{vs:List Value}{outs:List (AV×Hp)}(rB:Option Nat)(hp:β id 0=some p)(ha:ARs β args vs)
  (h:fK rec id args H=.ok outs) (hb:∀x∈outs,nV x≤m):
  ∃fn tmps as bo,(Instr.yield p.b vs.toArray).run E.P w=.ok (.round p.b fn tmps as bo) w∧RoundIn (fen rB) 0 E.P p.b fn tmps as bo w (kz m β H w outs):=by
 unfold fK at h;split at h
 ·rename_i pe tm nt ps as bo d hg
  rw[bL]at h;split at h
  ·rename_i hc
   obtain⟨q,fn,tmps,hq,R0,hw⟩:=mH hR hg hp
   have hlen:args.length=ps.length:=zA3 (ag hc).1;have B8:∀t∈ps,t<nt:=λt ht=>zA4 (List.all_eq_true.1 (ag hc).2 t ht);have I1:vs.length=ps.length:=by rw[ha.length,hlen]
   obtain⟨l,hl,hmid⟩:=R.dN h
   have R4:∀x∈l,nE x≤m:=λx hx=>by
    obtain⟨o,ho,hs⟩:=hmid x hx
    exact RG.nj (tz I0 (zA1 _)) ho hs hb
   refine⟨fn,(ps.zip vs).foldl (λtmps(t,a)=>tmps.setIfInBounds t a) tmps,as,bo,?_,?_⟩
   ·have hz:(ps.toArray.zip vs.toArray).foldl (λtmps(x:Tmp×Value)=>tmps.setIfInBounds x.1 x.2) tmps=(ps.zip vs).foldl (λtmps(x:Tmp×Value)=>tmps.setIfInBounds x.1 x.2) tmps:=by simp
    simp[Instr.yield,dF hw,I1]
   refine roundIn_of_wpIn trivial ?_;have htm':=pG ps args vs tm tmps R0 ha B8 hlen;have J6:gP β ⟨eK ps args tm,nt,[]⟩ { tmps:=(ps.zip vs).foldl (λtmps(t,a)=>tmps.setIfInBounds t a) tmps,defers:=[] }:=⟨htm',trivial⟩;have X9:kV β (some id) (some p.b):=⟨p,hp,rfl⟩;refine Go.wpIn_mono (J0.code hm hR J6 X9 hl R4).1 ?_;intro e a1 w1 U8;obtain⟨x,hx,L6,β1,hact1,a6,hext1⟩:=U8
   obtain⟨o,ho,hs⟩:=hmid x hx
   have hp1:=hext1.sub _ _ _ hp;unfold eo at ho;split at ho
   ·rename_i pe1 tm1 nt1 ps1 as1 bo1 d1 O0 O'
    have he:e=.normal:=by
     rw[O0]at L6;cases e<;>first|rfl|exact L6.elim
    subst he;obtain⟨q1,fn1,tmps1,hq1,htm1,w8⟩:=mH a6 O' hp1
    obtain⟨l2,X_,b8⟩:=R.dN ho
    have hbl2:∀y∈l2,nE y≤m:=λy hy=>by
     obtain⟨o2,J_,L3⟩:=b8 y hy
     exact RG.nj (sS (zA1 _)) J_ (λz hz=>hs z (L3 z hz)) hb
    have P2:=kL a6 hm (R4 x hx) O' (.loop .busy pe1 tm1 nt1 ps1 as1 bo1 d1) hp1 w1 rfl rfl rfl rfl (.loop { state:=.busy,pending:=pe1,fn:=fn1,tmps:=tmps1,params:=ps1.toArray,assign:=as1,body:=bo1,defers:=q1.b })
     (λw' Y3=>⟨q1,fn1,tmps1,hq1,htm1,Y3⟩)
    refine⟨_,by simp only[Instr.beginRound,Sem.run_bind,dF w8,Result.andThen_ok,gR _ w8];rfl,?_⟩
    have hround1:kV β1 (some id) (some p.b):=⟨p,hp1,rfl⟩;refine Go.wpIn_mono (J0.code hm P2.1 hact1 hround1 X_ hbl2).1 ?_;intro e2 a2 w2 hpost2;obtain⟨y,hy,hyr,β2,hact2,hR2,c_⟩:=hpost2
    obtain⟨o2,J_,L3⟩:=b8 y hy
    have Q5:=c_.sub _ _ _ hp1;have Q0:=hext1.trans (P2.2.trans c_);unfold iL at J_;split at J_
    ·rename_i st3 pe3 tm3 nt3 ps3 as3 bo3 d3 hd3 hg3
     obtain⟨q3,fn3,tmps3,hq3,htm3,I5⟩:=mH hR2 hg3 Q5
     have hny:nE y≤m:=hbl2 y hy;have fin:∀(st:LoopState)(pe:Option Code),Rel m β2 (y.2.2.mod id (.oth (.loop st pe tm3 nt3 ps3 as3 bo3 d3))) { w2 with heap:=w2.heap.setIfInBounds p.b (.loop { state:=st,pending:=pe,fn:=fn3,tmps:=tmps3,params:=ps3.toArray,assign:=as3,body:=bo3,defers:=q3.b }) } ∧
       Ext β2 y.2.2 w2 β2 (y.2.2.mod id (.oth (.loop st pe tm3 nt3 ps3 as3 bo3 d3))) { w2 with heap:=w2.heap.setIfInBounds p.b (.loop { state:=st,pending:=pe,fn:=fn3,tmps:=tmps3,params:=ps3.toArray,assign:=as3,body:=bo3,defers:=q3.b }) }:=λst pe=>
      kL hR2 hm hny hg3 (.loop st pe tm3 nt3 ps3 as3 bo3 d3) Q5 w2 rfl rfl rfl rfl _ (λw' Y3=>⟨q3,fn3,tmps3,hq3,htm3,Y3⟩)
     split at J_
     ·rename_i O5
      cases J_
      have m_:e2=.normal:=by
       rw[O5]at hyr;cases e2<;>first|rfl|exact hyr.elim
      subst m_;have hf:=fin .ready none;refine⟨.bool true,_,by simp only[Instr.endRound,Sem.run_bind,dF I5,Result.andThen_ok,gR _ I5];rfl,?_⟩
      exact⟨.bool true,rfl,_,hs _ (L3 _ (List.mem_singleton.2 rfl)),β2,rfl,hf.1,Q0.trans hf.2⟩
     ·rename_i O5
      cases J_
      have m_:e2=.ret:=by
       rw[O5]at hyr;cases e2<;>first|rfl|exact hyr.elim
      subst m_;have hf:=fin .done (some .ret);refine⟨.bool false,_,by simp only[Instr.endRound,Sem.run_bind,dF I5,Result.andThen_ok,gR _ I5];rfl,?_⟩
      exact⟨.bool false,rfl,_,hs _ (L3 _ (List.mem_singleton.2 rfl)),β2,rfl,hf.1,Q0.trans hf.2⟩
     rename_i k O5
     cases J_
     have m_:e2=.exit k:=by
      rw[O5]at hyr;cases e2 with
      |exit j=>have:k=j:=hyr;rw[this]
      |_=>exact hyr.elim
     subst m_;have hf:=fin .done (some (.exit k));refine⟨.bool false,_,by simp only[Instr.endRound,Sem.run_bind,dF I5,Result.andThen_ok,gR _ I5];rfl,?_⟩
     exact⟨.bool false,rfl,_,hs _ (L3 _ (List.mem_singleton.2 rfl)),β2,rfl,hf.1,Q0.trans hf.2⟩
    cases J_
   cases ho
  cases h
 cases h
end
def QW(E:Env)(rec:Rec)(a:aa)(dst:Option Tmp)(h:Hp)(k:aa->Hp->R (aa×Hp))(n:ab):lG E rec a dst h k n=(je E rec h n).bind λx=>fA a dst x.1 x.2 k:=by
 cases n<;>rfl
def wZ{P:Program}{o:Oper}{c:Call}(ho:o.op=.defer c):aI P o=ee "operation" := by
 obtain⟨dst,op,type,pos,after,guard⟩:=o
 cases ho
 rfl
section
variable{E:Env}(hE:qC E){N:Nat}{rec:Rec}(J0:Cp E.P N rec)(I0:RecM rec)
include hE J0 I0
theorem VS{m:Nat}{β:Pl}{H:Hp}{w:World}(hm:m≤m)(hR:Rel m β H w){n:ab}{r:Result Next}(hn:ah E.P m β H w n r){outs:List (AV×Hp)}(h:je E rec H n=.ok outs)(hb:∀x∈outs,nV x≤m)
  {o:Oper} {a:Act} {rB:Option Nat} {next:Act->World->Prop} {Q:Exit->Act->World->Prop} (Y0:∀v w',Out m β H w outs v w'->next (a.put o.dst v) w'):o.uponIn (fen rB) 0 E.P a next Q r:=by
 have S0:∀{e:Ending}{w':World},kz m β H w outs e w'->(match e,w' with
   |.returned v,w''=>next (a.put o.dst v) w''
   |.panicked chain,w''=>Q (.panic chain) a w''
   |.outgrown,_=>LetsOut Q):=by
  rintro e w' ⟨v,rfl,hv⟩;exact Y0 v w' hv
 cases n with
 |val av H'=>
  cases h
  obtain⟨v,w',hr,ho⟩:=hn (hb _ (List.mem_singleton.2 rfl))
  rcases hr with rfl|⟨rfl,rfl⟩
  ·exact Y0 v w' ho
  exact Y0 undef w' ho
 |om l=>
  cases h
  obtain⟨v,w',rfl,ho⟩:=hn hb
  exact Y0 v w' ho
 |enter f args=>
  obtain⟨vs,rfl,ha,W8⟩:=hn
  rw[qN hE.name W8];refine⟨λh=>by simp[fen]at h,CallsIn.mono (TW hE J0 hm hR ha h hb) λe w' he=>S0 he⟩
 |round id args=>
  obtain⟨p,vs,hp,ha,rfl⟩:=hn
  obtain⟨fn,tmps,as,bo,hy,X9⟩:=SV J0 I0 hm hR rB hp ha h hb
  rw[hy];exact⟨λh=>by simp[fen]at h,RoundIn.mono X9 λe w' he=>S0 he⟩
 |bad s=>cases h
theorem Lh{m:Nat}{β:Pl}{H:Hp}{w:World}(hm:m≤m)(hR:Rel m β H w){A:aa}{a:Act}(hA:gP β A a){o:Oper}{outs:List (AV×Hp)}(h:je E rec H ((aI E.P o).run A.tm H)=.ok outs)(hb:∀x∈outs,nV x≤m)
  {rB:Option Nat} {next:Act->World->Prop} {Q:Exit->Act->World->Prop} (Y0:∀v w',Out m β H w outs v w'->next (a.put o.dst v) w'):o.wpIn (fen rB) 0 E.P a w next Q:=by
 refine⟨λ_ _=>trivial,?_⟩
 have hs:o.semAt (fen rB).round a.eval=execOp a.eval o:=by
  refine Oper.semAt_eq _ _ _ λc hc=>?_;rw[wZ hc]at h;cases h
 rw[hs];exact VS hE J0 I0 hm hR (Vi hR hm hA.tm.2.2 o) h hb Y0
theorem IW{ops:Array Oper}{Q:Exit->Act->World->Prop}{rB:Option Nat}:∀(l pre:List Oper),ops.toList=pre++l->∀{m:Nat}{β:Pl}{H:Hp}{w:World}{A:aa}{a:Act}{outs:List (aa×Hp)},m≤m->Rel m β H w->gP β A a ->
  dI E rec (fH E.P ops.toList l) A H=.ok outs->(∀x∈outs,nA x≤m)->(∀a' w',KJ m β H w outs a' w'->Q .normal a' w')->wpOpsIn (fen rB) 0 E.P ops Q (List.range' pre.length l.length) a w
 |[],pre,u6,m,β,H,w,A,a,outs,hm,hR,hA,h,hb,hQ=>by
  cases h
  exact hQ a w ⟨_,List.mem_singleton.2 rfl,β,hA,hR,Ext.refl _ _ _⟩
 |o::l,pre,u6,m,β,H,w,A,a,outs,hm,hR,hA,h,hb,hQ=>by
  have ho:ops[pre.length]?=some o:=by
   rw[<-Array.getElem?_toList,u6,List.getElem?_append_right (zA1 _)];simp
  have Y8:ops.toList=(pre++[o])++l:=by rw[u6];simp
  have hlen:(pre++[o]).length=pre.length+1:=by simp
  have h':bB A.tm (gOf ops.toList o.guard) (lG E rec A o.dst H (dI E rec (fH E.P ops.toList l)) ((aI E.P o).run A.tm H)) (fA A o.dst aD H (dI E rec (fH E.P ops.toList l)))=.ok outs:=h;rw[List.length_cons,List.range'_succ];unfold wpOpsIn;rw[ho];simp only
  rcases vV hA.tm h' with⟨hw,hy⟩|⟨hw,hy⟩
  ·rw[zB0 hw];rw[QW]at hy;obtain⟨ys,x9,hk⟩:=R.dN hy
   have hbys:∀x∈ys,nV x≤m:=λx hx=>by
    obtain⟨o',D3,hs⟩:=hk x hx
    exact RG.nj (jq λa=>rH I0 l a x.2) D3 hs hb
   refine Lh hE J0 I0 hm hR hA x9 hbys λv w' hv=>?_;obtain⟨x,hx,β',Z3,P7,Q0⟩:=hv
   obtain⟨o',D3,hs⟩:=hk x hx
   obtain⟨A',hA',J6⟩:=(hA.mono Q0.sub).put Z3 D3
   have:=IW (rB:=rB) (Q:=Q) l (pre++[o]) Y8 hm P7 J6 hA' (λy hy=>hb y (hs y hy)) (λa' w'' hp=>hQ a' w'' (hp.ext Q0 hs));rw[hlen]at this;exact this
  rw[zB1 (by rw[hw];exact zA8)];refine⟨λ_ _=>trivial,?_⟩
  obtain⟨A',hA',J6⟩:=hA.put (mI β) hy
  have:=IW (rB:=rB) (Q:=Q) l (pre++[o]) Y8 hm hR J6 hA' hb hQ;rw[hlen]at this;exact this
theorem Ps{m:Nat}{β:Pl}{H:Hp}{w:World}(hm:m≤m)(hR:Rel m β H w){A:aa}{a:Act}(hA:gP β A a){id:Nat}{ops:Array Oper}{rB:Option Nat}{outs:List (ak×aa×Hp)}
  (h:(dI E rec (oN E.P ops) A H).bind eI=.ok outs) (hb:∀x∈outs,nE x≤m):(Code.region id ops false).wpIn (fen rB) 0 E.P (ed m β H w outs) a w:=by
 obtain⟨l,hl,hk⟩:=R.dN h
 have R4:∀x∈l,nA x≤m:=λx hx=>by
  obtain⟨o,ho,hs⟩:=hk x hx
  cases ho
  exact hb _ (hs _ (List.mem_singleton.2 rfl))
 refine wpIn_region ?_;have:=IW (Q:=ed m β H w outs) (rB:=rB) hE J0 I0 ops.toList [] rfl hm hR hA hl R4 (λa' w' hp=>?_)
 ·rw[List.range_eq_range'];simpa using this
 obtain⟨x,hx,β',h1,h2,h3⟩:=hp
 obtain⟨o,ho,hs⟩:=hk x hx
 cases ho
 exact⟨_,hs _ (List.mem_singleton.2 rfl),trivial,β',h1,h2,h3⟩
end
section scope
variable{P:Program}{b:Frame}{a:Act}{k:List Item}{cs:List Frame}{w:World}{F:Fence}{n:Nat}{Q:Exit->Act->World->Prop}
theorem fv{c:Code}:step P (lone (b.atR a (.code (.scope c)::k)) cs w)=.next (lone (b.atR a (.code c::.inScope c::k)) cs w):=
 step_lone_go (by simp[stepG,stepG.exec,Frame.atR])
theorem xt{c:Code}:step P (lone (b.atR a (.inScope c::k)) cs w)=.next (lone (b.atR a k) cs w):=
 step_lone_go (by simp[stepG,stepG.exec,Frame.atR])
theorem JK{c:Code}(h:c.wpIn F n P Q a w)(hg:∀l a w,¬Q (.goto l) a w):(Code.scope c).wpIn F n P Q a w:=by
 intro b k cs hro hb hr;have h0:(lone (b.atR a (.code (.scope c)::k)) cs w).fenced P F:=fenced_calm hb hr rfl;obtain⟨e,a₁,w₁,hq,C_⟩:=h b (.inScope c::k) cs hro hb hr
 have hx:∀id,exitTo id (.inScope c::k)=exitTo id k:=λid=>by simp[exitTo]
 cases e with
 |normal=>exact⟨.normal,a₁,w₁,hq,.head h0 fv (StepsIn.trans C_ (.one (fenced_calm hb hr rfl) xt))⟩
 |exit id=>
  exact⟨.exit id,a₁,w₁,hq,λk' hk=>.head h0 fv (C_.1 k' (by rw[hx];exact hk)),
   λE3 hk=>let ⟨k₁,h1,h2⟩:=C_.2 E3 (by rw[hx];exact hk);⟨k₁,h1,.head h0 fv h2⟩⟩
 |goto l=>exact absurd hq (hg l _ _)
 |ret=>exact⟨_,a₁,w₁,hq,.of_steps (.one h0 fv) C_⟩
 |panic ch=>exact⟨_,a₁,w₁,hq,.of_steps (.one h0 fv) C_⟩
 |outgrown=>exact⟨_,a₁,w₁,hq,.of_steps (.one h0 fv) C_⟩
end scope
def ed.noGoto{m:Nat}{β:Pl}{H:Hp}{w:World}{outs:List (ak×aa×Hp)}(l:Nat)(a:Act)(w':World):¬ed m β H w outs (.goto l) a w':=by
 rintro⟨x,_,hx,_⟩
 cases h:x.1<;>rw[h]at hx<;>exact hx
section
variable{E:Env}(hE:qC E){N:Nat}{rec:Rec}(J0:Cp E.P N rec)(I0:RecM rec)
theorem Ff{m:Nat}{β β1:Pl}{H:Hp}{w:World}(hm:m≤m){A1:aa}{a1:Act}{l:Nat}{p:Place}{x:AV×Hp}{w3:World}(J6:gP β1 A1 a1)(hR:Rel m β1 x.2 w3)(hp:β1 l 0=some p)(V0:nV x≤m)(Q0:Ext β H w β1 x.2 w3)
  {o outs:List (ak×aa×Hp)} (ho:ea l A1 x=.ok o) (hs:∀y∈o,y∈outs) (rB:Option Nat):
  ∃jump w4,(Instr.endLoop p.b).run E.P w3=.ok jump w4 ∧
   (match jump with
    |none=>ed m β H w outs .normal a1 w4
    |some c=>c.wpIn (fen rB) 0 E.P (ed m β H w outs) a1 w4):=by
 unfold ea at ho;split at ho
 ·rename_i st pe tm nt ps as bo d hg
  obtain⟨q,fn,tmps,hq,R0,hw⟩:=mH hR hg hp
  have P2:=kL hR hm V0 hg (.loop .exhausted pe tm nt ps as bo d) hp w3 rfl rfl rfl rfl (.loop { state:=.exhausted,pending:=pe,fn:=fn,tmps:=tmps,params:=ps.toArray,assign:=as,body:=bo,defers:=q.b })
   (λw' Y3=>⟨q,fn,tmps,hq,R0,Y3⟩)
  have Q1:st≠.busy->(Instr.endLoop p.b).run E.P w3=.ok pe { w3 with heap:=w3.heap.setIfInBounds p.b (.loop { state:=.exhausted,pending:=pe,fn:=fn,tmps:=tmps,params:=ps.toArray,assign:=as,body:=bo,defers:=q.b }) }:=by
   intro Y2;have h1:(st==LoopState.busy)=false:=by cases st<;>first|rfl|exact absurd rfl Y2
   simp only[Instr.endLoop,Sem.run_bind,dF hw,Result.andThen_ok,h1,Bool.false_eq_true,if_false,gR _ hw];rfl
  split at ho
  ·cases ho
  rename_i Y2
  have hst':st≠.busy:=λh=>Y2 h;split at ho
  ·cases ho
   exact⟨none,_,Q1 hst',_,hs _ (List.mem_singleton.2 rfl),trivial,β1,J6,P2.1,Q0.trans P2.2⟩
  ·cases ho
   exact⟨some .ret,_,Q1 hst',wpIn_ret ⟨_,hs _ (List.mem_singleton.2 rfl),trivial,β1,J6,P2.1,Q0.trans P2.2⟩⟩
  ·rename_i k
   cases ho
   exact⟨some (.exit k),_,Q1 hst',wpIn_exit ⟨_,hs _ (List.mem_singleton.2 rfl),rfl,β1,J6,P2.1,Q0.trans P2.2⟩⟩
  cases ho
 cases ho
theorem xp{m:Nat}{β:Pl}{H:Hp}{w:World}(hm:m≤m)(hR:Rel m β H w){A:aa}{a:Act}(hA:gP β A a){r rB:Option Nat}(hr:kV β r rB){d:Nat}{H1:Hp}{A1:aa}(h:lD r A H=some (d,H1,A1))(V0:H1.nx+1≤m)
  (ps:Array Tmp) (as bo:Code) (fn:FuncId):
  ∃(p:Place)(mark:List Deferred)(w1:World)(β1:Pl),(Instr.enterLoop fn a.tmps ps as bo rB).run E.P w=.ok (p.b,mark) w1∧β1 H1.nx 0=some p ∧
   gP β1 A1 { a with defers:=mark++a.defers }∧Rel m β1 (H1.new (.oth (.loop .ready none A.tm A.nt ps.toList as bo d))) w1∧Ext β H w β1 (H1.new (.oth (.loop .ready none A.tm A.nt ps.toList as bo d))) w1:=by
 unfold lD at h;cases r with
 |none=>
  have E3:rB=none:=hr;subst E3;cases h
  have Z7:H.nx+1+1≤m:=V0;have n1:=ly hR hm (by omega) (.oth (.dfr true)) ⟨w.heap.size,0,0,0⟩ (w':=w.alloc (.deferred (some []))) (zA1 _) (by simp) rfl rfl rfl
   (λb hb=>RowKit.Below.heap_alloc w _ b hb) (λg hg=>hg) ⟨_,aN _ _ _ _,heap_alloc_new w _⟩
  have L1:(w.alloc (.deferred (some []))).heap.size=w.heap.size+1:=by simp
  have b6:gP (plus β H.nx 0 ⟨w.heap.size,0,0,0⟩) A a:=hA.mono n1.2.sub;have Z0:¬(H.nx=H.nx+1∧(0:Nat)=0):=by omega
  have n2:=ly n1.1 hm (show H.nx+1<m by omega) (.oth (.loop .ready none A.tm A.nt ps.toList as bo H.nx)) ⟨w.heap.size+1,0,0,0⟩
   (w':=(w.alloc (.deferred (some []))).alloc (.loop { state:=.ready,pending:=none,fn:=fn,tmps:=a.tmps,params:=ps,assign:=as,body:=bo,defers:=w.heap.size }))
   (by rw[L1];exact zA1 _) (by simp) rfl rfl rfl
   (λb hb=>RowKit.Below.heap_alloc _ _ b hb) (λg hg=>hg)
   ⟨_,aN _ _ _ _,⟨w.heap.size,0,0,0⟩,fn,a.tmps,(bw (plus β H.nx 0 ⟨w.heap.size,0,0,0⟩) (H.nx+1) 0 ⟨w.heap.size+1,0,0,0⟩ Z0).trans (aN _ _ _ _),(b6.mono (fQ (n1.1.free _ 0 (zA1 _) (show H.nx+1<m by omega)))).tm,by
    rw[<-L1];simpa using heap_alloc_new (w.alloc (.deferred (some []))) (.loop { state:=.ready,pending:=none,fn:=fn,tmps:=a.tmps,params:=ps,assign:=as,body:=bo,defers:=w.heap.size })⟩
  have hA2:=b6.mono n2.2.sub;refine⟨⟨w.heap.size+1,0,0,0⟩,[{ target:=.collected w.heap.size,args:=#[] }],_,_,?_,aN _ _ _ _,⟨hA2.tm,⟨⟨w.heap.size,0,0,0⟩,n2.2.sub _ _ _ (aN _ _ _ _),rfl⟩,hA2.df⟩,n2.1,n1.2.trans n2.2⟩
  rw[<-L1];rfl
 |some l=>
  obtain⟨pl,G7,rfl⟩:=hr
  simp only at h
  split at h
  ·rename_i st pe tm nt ps0 as0 bo0 d0 hg
   cases h
   obtain⟨q,fn0,tmps0,hq,_,hw⟩:=mH hR hg G7
   have Z0:¬(d=H.nx∧(0:Nat)=0):=by
    intro hh;have:=hR.free H.nx 0 (zA1 _) (by omega);rw[hh.1,this]at hq;cases hq
   have n2:=ly hR hm (show H.nx<m by omega) (.oth (.loop .ready none A.tm A.nt ps.toList as bo d)) ⟨w.heap.size,0,0,0⟩
    (w':=w.alloc (.loop { state:=.ready,pending:=none,fn:=fn,tmps:=a.tmps,params:=ps,assign:=as,body:=bo,defers:=q.b }))
    (zA1 _) (by simp) rfl rfl rfl
    (λb hb=>RowKit.Below.heap_alloc _ _ b hb) (λg hg=>hg)
    ⟨_,aN _ _ _ _,q,fn,a.tmps,by rw[bw _ _ _ _ Z0];exact hq,(hA.mono (fQ (hR.free _ 0 (zA1 _) (show H.nx<m by omega)))).tm,by simpa using heap_alloc_new w _⟩
   have hA2:=hA.mono n2.2.sub;refine⟨⟨w.heap.size,0,0,0⟩,[],_,_,?_,aN _ _ _ _,hA2,n2.1,n2.2⟩
   simp only[Instr.enterLoop,Sem.run_bind,dF hw,Result.andThen_ok];rfl
  cases h
include hE J0 I0 in
theorem Pn{m:Nat}{β:Pl}{H:Hp}{w:World}(hm:m≤m)(hR:Rel m β H w){A:aa}{a:Act}(hA:gP β A a){r rB:Option Nat}(hr:kV β r rB){g:Operand}{ps:Array Tmp}{as bo:Code}{outs:List (ak×aa×Hp)}
  (h:gA E rec r (opF g) ps.toList as bo A H=.ok outs) (hb:∀x∈outs,nE x≤m):(Code.rangeFunc g ps as bo).wpIn (fen rB) 0 E.P (ed m β H w outs) a w:=by
 unfold gA at h;split at h
 ·cases h
 rename_i d H1 A1 hs
 split at h
 ·rename_i gf caps hg
  rw[bL]at h;split at h
  ·rename_i W8
   obtain⟨l,hl,hk⟩:=R.dN h
   have R4:∀x∈l,nV x≤m:=λx hx=>by
    obtain⟨o,ho,hss⟩:=hk x hx
    exact RG.nj (te (zA1 _)) ho hss hb
   have V0:H1.nx+1≤m:=RG.nj (I0.call _ _ _) hl (λ_ h=>h) R4;refine wpIn_rangeFunc λfn _=>?_;obtain⟨p,mark,w1,β1,he,hp,b6,a6,Q0⟩:=xp (E:=E) hm hR hA hr hs V0 ps as bo fn
   have hgv:=(bG hA.tm.2.2 g);have Y1:ev A.tm g=.one (.o (.clo gf caps)):=hg;rw[Y1]at hgv;obtain⟨cs,hgv,J1,X3⟩:=hgv
   refine⟨p.b,mark,w1,{ target:=.fn (.func gf) cs.toArray,args:=#[.func (.yield p.b) #[] #[]] },w1,gf,(.func (.yield p.b) #[] #[]::cs).toArray,w1,he,?_,λ_ _=>trivial,?_,λh=>by simp[fen]at h,?_⟩
   ·have hcst:a.eval (.const (.func (.yield p.b) #[] #[]))=.func (.yield p.b) #[] #[]:=rfl;simp[resolve,hgv,Deferred.ofValue,hcst]
   ·have:=qN (w:=w1) hE.name W8 (.func (.yield p.b) #[] #[]::cs).toArray;simpa [invoke]using this
   have z0:ARs β1 (.one (.o (.yl H1.nx))::eE caps) (.func (.yield p.b) #[] #[]::cs):=
    ⟨⟨p,hp,rfl⟩,(oI J1 X3).mono Q0.sub⟩
   have S0:=J0.call hm a6 z0 hl R4;refine CallsIn.mono S0 λe w3 he3=>?_;obtain⟨v,rfl,x,hx,β3,_,hR3,hext3⟩:=he3
   obtain⟨o,ho,hss⟩:=hk x hx
   exact Ff (E:=E) hm (b6.mono hext3.sub) hR3 (hext3.sub _ _ _ hp) (R4 x hx) (Q0.trans hext3) ho hss rB
  cases h
 cases h
end
def wE(f:Nat->Option aJ)(id:Nat):∀n,(BO f n).get id=if id<n then f id else none
 |0=>by rw[zB1 (Nat.not_lt_zero _)];rfl
 |n+1=>by
  show(PT.put (f n) (BO f n) n).get id=_
  rw[PT.qL,wE f id n];by_cases h:id=n
  ·subst h;rw[zB0 rfl,zB0 (zA6 _)]
  rw[zB1 h];by_cases h2:id<n
  ·rw[zB0 h2,zB0 (by omega)]
  rw[zB1 h2,zB1 (by omega)]
def gk{H:Hp}{l:List (ak×aa×Hp)}{t:PT aJ}{id:Nat}:(pE H l t).get id=if id<qn l then rf H.nx l t id else none:=wE _ _ _
open Classical in
def oS{l:List (ak×aa×Hp)}{tm:PT AV}{k:Nat}:∀n,jQ (rI l tm n) k=if k<n then(if∀z∈l,jQ z.2.1.tm k=jQ tm k then jQ tm k else .any)else aD
 |0=>by rw[zB1 (Nat.not_lt_zero _)];rfl
 |n+1=>by
  have ih:=oS (l:=l) (tm:=tm) (k:=k) n;show aw (((rI l tm n).set n _).get k) aD (λv=>v)=_;rw[PT.dv];by_cases h:k=n
  ·subst h;rw[zB0 rfl,zB0 (zA6 _)];rfl
  rw[zB1 h];by_cases h2:k<n
  ·rw[zB0 h2]at ih;rw[zB0 (by omega)];exact ih
  rw[zB1 h2]at ih;rw[zB1 (by omega)];exact ih
open Classical in
def vA{n:Nat}{l:List (ak×aa×Hp)}{t:PT aJ}{id:Nat}:∀m,id∈JJ n l t m↔id<m∧¬∀z∈l,ct n id (z.2.2.t.get id)=ct n id (t.get id)
 |0=>⟨λh=>absurd h List.not_mem_nil,λh=>absurd h.1 (Nat.not_lt_zero _)⟩
 |m+1=>by
  have ih:=vA (n:=n) (l:=l) (t:=t) (id:=id) m;unfold JJ;split
  ·rename_i hc
   rw[ih];refine⟨λh=>⟨by omega,h.2⟩,λh=>⟨?_,h.2⟩⟩
   rcases Nat.lt_succ_iff_lt_or_eq.1 h.1 with h1|h1
   ·exact h1
   subst h1;exact absurd hc h.2
  rename_i hc
  rw[List.mem_cons,ih];refine⟨λh=>h.elim (λe=>by subst e;exact⟨zA6 _,hc⟩) λh=>⟨by omega,h.2⟩,λh=>?_⟩
  rcases Nat.lt_succ_iff_lt_or_eq.1 h.1 with h1|h1
  ·exact .inr ⟨h1,h.2⟩
  exact .inl h1
def Wk2(o o':aJ):Prop:=o=o'∨o=Yt o'∨(∃k es c k',o=.oth (.fmap k)∧o'=.oth (.map es c)∧lH es=some k'∧∀n,de n k'=de n k)∨∃x,o=.oth .lost∧o'=.oth x
def uV.some{β:Pl}{w:World}{p:Place}{x:xm}(h:uV β w p x):uV β w p .lost:=⟨_,Array.getElem?_eq_getElem h.lt⟩
def Wk2.ro{o o':aJ}(h:Wk2 o o'):o.jJ=o'.jJ:=by
 rcases h with rfl|rfl|⟨_,_,_,_,rfl,rfl,_⟩|⟨_,rfl,rfl⟩
 ·rfl
 ·cases o'<;>rfl
 ·rfl
 rfl
def Wk2.gen{o o':aJ}{β:Pl}{w:World}{id g:Nat}(h:Wk2 o o')(hr:fk β w id o')(hg:dd o g):dd o' g:=by
 rcases h with rfl|rfl|⟨_,_,_,_,rfl,rfl,_⟩|⟨_,rfl,rfl⟩
 ·exact hg
 ·cases o' with
  |arr c e lo gen=>exact⟨zA2 hr.1 hg.1,hg.2⟩
  |oth x=>exact hg
  |ro c=>exact hg
 ·exact hg
 exact hg
def Wk2.obj{o o':aJ}{β:Pl}{w:World}{id:Nat}(h:Wk2 o o')(hr:fk β w id o'):fk β w id o:=by
 rcases h with rfl|rfl|⟨k,es,c,k',rfl,rfl,h1,h2⟩|⟨x,rfl,rfl⟩
 ·exact hr
 ·cases o' with
  |arr c e lo gen=>
   obtain⟨h1,h2,h3,h4⟩:=hr
   exact⟨zA1 _,λg a b=>h2 g (zA2 h1 a) b,λg g' p p' a b c=>h3 g g' p p' (zA2 h1 a) b c,h4⟩
  |oth x=>exact hr
  |ro c=>exact hr
 ·obtain⟨p,hp,ms,a,b⟩:=hr
  exact⟨p,hp,es,c,ms,a,b,k',h1,h2⟩
 obtain⟨p,hp,a⟩:=hr
 exact⟨p,hp,a.some⟩
def OP{n id:Nat}{x:Option aJ}{o:aJ}(h:ct n id x=some o):∃o',x=some o'∧Wk2 o o':=by
 unfold ct at h;split at h
 ·exact⟨o,h,.inl rfl⟩
 cases x with
 |none=>cases h
 |some o'=>exact⟨o',rfl,.inr (.inl (Option.some.inj h).symm)⟩
def BI{H H':Hp}{l:List Nat}(h:H'.log=l++H.log):H'.log.take (H'.log.length-H.log.length)=l:=by
 rw[h,List.length_append,Nat.add_sub_cancel,List.take_left'];rfl
open Classical in
def ed.join{m:Nat}{β:Pl}{H:Hp}{w:World}(hR:Rel m β H w){l:List (ak×aa×Hp)}{e:Exit}{a':Act}{w':World}(h:ed m β H w l e a' w'):ed m β H w (lQ H l) e a' w':=by
 rcases mJ H l with ej|⟨x,hx,hc,ej⟩
 ·rw[ej];exact h
 rw[ej];obtain⟨y,hy,L6,β',hA,P7,U3⟩:=h
 obtain⟨O5,hy2,hy3,hy4⟩:=hc y hy
 have hmx:=lk hy;have hle:=U3.nx;have U0:∀id o,(pE H l x.2.2.t).get id=some o->∃o',y.2.2.get id=some o'∧Wk2 o o':=λid o ho=>by
  rw[gk]at ho;split at ho
  ·unfold rf at ho;split at ho
   ·rename_i S2
    exact OP ((S2 y hy).trans ho)
   split at ho
   ·rename_i hk
    cases ho
    obtain⟨es,c,k',h1,h2,h3⟩:=hk.choose_spec y hy
    exact⟨_,h1,.inr (.inr (.inl ⟨_,es,c,k',rfl,rfl,h2,h3⟩))⟩
   split at ho
   ·rename_i U_
    cases ho
    obtain⟨o1,h1⟩:=U_ y hy
    exact⟨_,h1,.inr (.inr (.inr ⟨o1,rfl,rfl⟩))⟩
   cases ho
  cases ho
 have hold:∀id,id<H.nx->(∀z∈l,ct H.nx id (z.2.2.t.get id)=ct H.nx id (x.2.2.t.get id))->(pE H l x.2.2.t).get id=y.2.2.get id:=λid hid S2=>by
  have h1:=S2 y hy;rw[gk,zB0 (show id<qn l by omega)];unfold rf;rw[zB0 S2,<-h1];show(if id<H.nx then y.2.2.t.get id else _)=_
  rw[zB0 hid];rfl
 have R0:TmR β' (rI l x.2.1.tm x.2.1.nt) x.2.1.nt a'.tmps:=by
  refine⟨hy2▸hA.tm.1,hy2▸hA.tm.2.1,λt=>?_⟩
  have h3:=hA.tm.2.2 t;show AR β' (jQ (rI l x.2.1.tm x.2.1.nt) t) _;rw[oS];by_cases ht:t<x.2.1.nt
  ·rw[zB0 ht];by_cases S2:∀z∈l,jQ z.2.1.tm t=jQ x.2.1.tm t
   ·rw[zB0 S2,<-S2 y hy];exact h3
   rw[zB1 S2];exact trivial
  rw[zB1 ht];have L1:=hA.tm.1;have:a'.tmps.getD t undef=undef:=by
   rw[Array.getD_eq_getD_getElem?,Array.getElem?_eq_none (by omega)];rfl
  rw[this];exact mI β'
 refine⟨_,List.mem_singleton.2 rfl,by rw[<-O5];exact L6,β',⟨R0,by rw[<-hy3];exact hA.df⟩,⟨λid o ho=>(let ⟨o',h1,h2⟩:=U0 id o ho;h2.obj (P7.obj id o' h1)),λid id' o o' g g' p p' h1 h2 h3 h4 h5 h6 h7=>(by
  obtain⟨o1,a1,a2⟩:=U0 id o h1
  obtain⟨o2,b1,b2⟩:=U0 id' o' h2
  rw[a2.ro,b2.ro];exact P7.sep id id' o1 o2 g g' p p' a1 b1 (a2.gen (P7.obj id o1 a1) h3) (b2.gen (P7.obj id' o2 b1) h4) h5 h6 h7),λid hid=>?_,λid g h1 h2=>P7.free id g (zA2 hmx h1) h2⟩,?_⟩
 ·have hid2:¬id<qn l:=Nat.not_lt.2 hid;rw[gk,zB1 hid2]
 refine{ sub:=U3.sub,loc:=λid g p hp=>?_,size:=U3.size,os:=U3.os,tape:=U3.tape,output:=U3.output,frame:=U3.frame,prov:=λid o g p h1 h2 h3=>(by
       obtain⟨o1,a1,a2⟩:=U0 id o h1
       rw[a2.ro];exact U3.prov id o1 g p a1 (a2.gen (P7.obj id o1 a1) h2) h3),nx:=zA2 hle hmx,
         log:=⟨_,rfl,λid hid hn=>?_⟩,dom:=λid o ho=>?_,old:=λid o ho=>?_,far:=λl' J7 b hb hn=>?_ }
 ·rcases U3.loc id g p hp with h1|h1|h1
  ·exact .inl h1
  ·exact .inr (.inl ⟨h1.1,zA0 h1.2 hmx⟩)
  exact .inr (.inr h1)
 ·have S2:∀z∈l,ct H.nx id (z.2.2.t.get id)=ct H.nx id (x.2.2.t.get id):=Classical.byContradiction λhh=>hn (List.mem_append_left _ ((vA _).2 ⟨by omega,hh⟩));rw[hold id hid S2];obtain⟨l2,e2,f2⟩:=U3.log
  refine f2 id hid λhm=>hn ?_;exact List.mem_append_right _ (List.mem_flatMap.2 ⟨y,hy,by rw[BI e2];exact hm⟩)
 ·have hid:id<H.nx:=by
   rcases Nat.lt_or_ge id H.nx with hh|hh
   ·exact hh
   rw[hR.wf id hh]at ho;cases ho
  obtain⟨o',D3⟩:=U3.dom id o ho
  by_cases S2:∀z∈l,ct H.nx id (z.2.2.t.get id)=ct H.nx id (x.2.2.t.get id)
  ·exact⟨o',by rw[hold id hid S2];exact D3⟩
  have C0:id<qn l:=by omega
  by_cases hk:∃k,wk l id k
  ·refine⟨.oth (.fmap hk.choose),?_⟩
   show(pE H l x.2.2.t).get id=_
   rw[gk,zB0 C0];unfold rf;rw[zB1 S2,dif_pos hk]
  have U_:∀z∈l,zj z id:=Classical.byContradiction λhh=>S2 λz hz=>congrArg (ct H.nx id) (((hc z hz).2.2.2 id hid).resolve_right λh=>h.elim hk hh);refine⟨.oth .lost,?_⟩
  show(pE H l x.2.2.t).get id=_
  rw[gk,zB0 C0];unfold rf;rw[zB1 S2,dif_neg hk,zB0 U_]
 ·obtain⟨o1,a1,a2⟩:=U0 id o ho
  rcases U3.old id o1 a1 with h1|h1
  ·exact .inl h1
  exact .inr ⟨h1.1,zA0 h1.2 hmx⟩
 obtain⟨l2,e2,f2⟩:=U3.log
 have e3:l'=JJ H.nx l x.2.2.t (qn l)++XJ H l:=by
  have:(JJ H.nx l x.2.2.t (qn l)++XJ H l)++H.log=l'++H.log:=J7;exact(List.append_cancel_right this).symm
 subst e3;exact U3.far l2 e2 b hb λid o g p hid=>hn id o g p (List.mem_append_right _ (List.mem_flatMap.2 ⟨y,hy,by rw[BI e2];exact hid⟩))
def QE(E:Env):Prop:=
 ∀(N:Nat)(rec:Rec),Cp E.P N rec->RecM rec->∀{m:Nat}{β:Pl}{H:Hp}{w:World}{A:aa}{a:Act}{id:Nat}{ops:Array Oper}{rB:Option Nat}{outs:List (ak×aa×Hp)},m≤m->Rel m β H w->gP β A a->dP ops=true ->
  (cJ E rec (oN E.P ops) 0 (dM [] 0 ops.toList) [] A H).bind eI=.ok outs->(∀x∈outs,nE x≤m)->(Code.region id ops true).wpIn (fen rB) 0 E.P (ed m β H w outs) a w
section
variable{E:Env}(hE:qC E)(hD:QE E){N:Nat}{rec:Rec}(J0:Cp E.P N rec)(I0:RecM rec)
theorem Oi{k id:Nat}{z:ak×aa×Hp}(hz:k≤nE z):RG k nE (jE id z):=
 mE (RG.one hz) (λ_=>RG.ifE (RG.one (x:=(ak.normal,z.2)) hz) (RG.one hz)) (RG.one hz)
theorem nQ{e:ak}{n r:R (ak×aa×Hp)}{x:Nat->R (ak×aa×Hp)}{o:List (ak×aa×Hp)}(h:exE e n x r=.ok o):
  (e=.normal∧n=.ok o)∨(∃i,e=.exit i∧x i=.ok o)∨(e=.ret∧r=.ok o):=by
 cases e with
 |normal=>exact .inl ⟨rfl,h⟩
 |exit i=>exact .inr (.inl ⟨i,rfl,h⟩)
 |ret=>exact .inr (.inr ⟨rfl,h⟩)
theorem XR.normal{x:ak}{e:Exit}(h:XR x e)(hx:x=.normal):e=.normal:=by
 subst hx;cases e<;>first|rfl|exact h.elim
theorem XR.exit{x:ak}{e:Exit}{i:Nat}(h:XR x e)(hx:x=.exit i):e=.exit i:=by
 subst hx;cases e with
 |exit j=>have:i=j:=h;rw[this]
 |_=>exact h.elim
theorem XR.ret{x:ak}{e:Exit}(h:XR x e)(hx:x=.ret):e=.ret:=by
 subst hx;cases e<;>first|rfl|exact h.elim
theorem oD{F:Fence}{n:Nat}{P:Program}{c:Code}{Q Q':Exit->Act->World->Prop}(hq:∀e a w,Q e a w->Q' e a w):∀{k:Nat}{a:Act}{w:World},Code.roundsIn F n P c Q k a w->Code.roundsIn F n P c Q' k a w
 |0,_,_,h=>h.elim
 |k+1,a,w,h=>by
  rw[roundsIn_succ]at h ⊢;refine Go.wpIn_mono h λe a1 w1 h1=>?_;cases e with
  |normal=>exact oD hq h1
  |exit _=>exact hq _ _ _ h1
  |goto _=>exact hq _ _ _ h1
  |ret=>exact hq _ _ _ h1
  |panic _=>exact hq _ _ _ h1
  |outgrown=>exact hq _ _ _ h1
include hE hD J0 I0
theorem rq:∀(c:Code){m:Nat}{β:Pl}{H:Hp}{w:World}{r rB:Option Nat}{A:aa}{a:Act}{outs:List (ak×aa×Hp)},m≤m->Rel m β H w->gP β A a->kV β r rB ->
  (codeF E c).run rec r A H=.ok outs->(∀x∈outs,nE x≤m)->c.wpIn (fen rB) 0 E.P (ed m β H w outs) a w∧∀x,c=.loop x->Code.roundsIn (fen rB) 0 E.P x (ed m β H w outs) (N+1) a w:=by
 intro c;induction c with
 |skip=>
  intro m β H w r rB A a outs hm hR hA hr h hb;cases h
  exact⟨wpIn_skip ⟨_,List.mem_singleton.2 rfl,trivial,β,hA,hR,Ext.refl _ _ _⟩,λx hx=>by cases hx⟩
 |region id ops draw=>
  intro m β H w r rB A a outs hm hR hA hr h hb;refine⟨?_,λx hx=>by cases hx⟩
  cases draw with
  |false=>exact Ps hE J0 I0 hm hR hA h hb
  |true=>
   have h':(Eng.ifE (dP ops) (CF.mk λrec _ a h=>(cJ E rec (oN E.P ops) 0 (dM [] 0 ops.toList) [] a h).bind eI) (CF.mk λ_ _ _ _=>.bad "draw - slots")).run rec r A H=.ok outs:=h
   cases hs:dP ops with
   |false=>rw[hs]at h';cases h'
   |true=>rw[hs]at h';exact hD N rec J0 I0 hm hR hA hs h' hb
 |seq x y hx hy=>
  intro m β H w r rB A a outs hm hR hA hr h hb;refine⟨?_,λx hx=>by cases hx⟩
  obtain⟨l,hl,hk⟩:=R.dN (r:=(codeF E x).run rec r A H) (f:=rZ (codeF E y) rec r) h
  have hkr:∀z:ak×aa×Hp,RG (nE z) nE (rZ (codeF E y) rec r z):=λz=>mE (qt I0 y r _ _) (λ_=>RG.one (zA1 _)) (RG.one (zA1 _));have R4:∀z∈l,nE z≤m:=λz hz=>by
   obtain⟨o,ho,hs⟩:=hk z hz
   exact RG.nj (hkr z) ho hs hb
  refine wpIn_seq (Go.wpIn_mono (hx hm hR hA hr hl R4).1 λe a1 w1 hp=>?_);obtain⟨z,hz,L6,β1,b6,a6,Q0⟩:=hp
  obtain⟨o,ho,hs⟩:=hk z hz
  rcases nQ ho with⟨G5,h1⟩|⟨i,G5,h1⟩|⟨G5,h1⟩
  ·rw[L6.normal G5];exact Go.wpIn_mono (hy hm a6 b6 (hr.mono Q0.sub) h1 (λq hq=>hb q (hs q hq))).1 λe a2 w2 Q5=>Q5.ext Q0 hs
  ·cases h1
   rw[L6.exit G5];exact⟨z,hs z (List.mem_singleton.2 rfl),by rw[G5];rfl,β1,b6,a6,Q0⟩
  cases h1
  rw[L6.ret G5];exact⟨z,hs z (List.mem_singleton.2 rfl),by rw[G5];trivial,β1,b6,a6,Q0⟩
 |cond c x y hx hy=>
  intro m β H w r rB A a outs hm hR hA hr h hb;refine⟨?_,λx hx=>by cases hx⟩
  have h':dO (ev A.tm c) (.bad "cond") (λb=>Eng.ifE b ((codeF E x).run rec r A H) ((codeF E y).run rec r A H))=.ok outs:=h
  have hv:=bG hA.tm.2.2 c;cases hc:ev A.tm c with
  |one q=>
   rw[hc]at h' hv;cases q with
   |b t=>
    have Z3:a.eval c=.bool t:=hv;refine wpIn_cond Z3 ?_;cases t with
    |true=>exact(hx hm hR hA hr h' hb).1
    |false=>exact(hy hm hR hA hr h' hb).1
   |i _ _=>cases h'
   |o _=>cases h'
  |agg _=>rw[hc]at h';cases h'
  |tup _=>rw[hc]at h';cases h'
  |any=>rw[hc]at h';cases h'
 |block id x hx=>
  intro m β H w r rB A a outs hm hR hA hr h hb;refine⟨?_,λx hx=>by cases hx⟩
  obtain⟨o0,M9,hj⟩:=Gc h
  have L2:(∀x∈o0,nE x≤m)∧∀e a' w',ed m β H w o0 e a' w'->ed m β H w outs e a' w':=by
   rcases hj with rfl|rfl
   ·exact⟨hb,λ_ _ _ h=>h⟩
   exact⟨TB hb,λ_ _ _ h=>h.join hR⟩
  obtain⟨hb,L2⟩:=L2
  obtain⟨l,hl,hk⟩:=R.dN (r:=(codeF E x).run rec r A H) (f:=jE id) M9
  have R4:∀z∈l,nE z≤m:=λz hz=>by
   obtain⟨o,ho,hs⟩:=hk z hz
   exact RG.nj (Oi (zA1 _)) ho hs hb
  refine wpIn_block (Go.wpIn_mono (hx hm hR hA hr hl R4).1 λe a1 w1 hp=>?_);obtain⟨z,hz,L6,β1,b6,a6,Q0⟩:=hp
  obtain⟨o,ho,hs⟩:=hk z hz
  rcases nQ ho with⟨G5,h1⟩|⟨i,G5,h1⟩|⟨G5,h1⟩
  ·cases h1
   rw[L6.normal G5];exact L2 _ _ _ ⟨z,hs z (List.mem_singleton.2 rfl),by rw[G5];trivial,β1,b6,a6,Q0⟩
  ·rw[L6.exit G5];rw[bL]at h1;show if i=id then _ else _;split at h1
   ·rename_i hi
    cases h1
    rw[zB0 (zA3 hi)];exact L2 _ _ _ ⟨_,hs _ (List.mem_singleton.2 rfl),trivial,β1,b6,a6,Q0⟩
   rename_i hi
   cases h1
   rw[zB1 (λhh=>hi (by rw[hh];exact Nat.beq_refl _))];exact L2 _ _ _ ⟨z,hs z (List.mem_singleton.2 rfl),by rw[G5];rfl,β1,b6,a6,Q0⟩
  cases h1
  rw[L6.ret G5];exact L2 _ _ _ ⟨z,hs z (List.mem_singleton.2 rfl),by rw[G5];trivial,β1,b6,a6,Q0⟩
 |loop x hx=>
  intro m β H w r rB A a outs hm hR hA hr h hb;obtain⟨l,hl,hk⟩:=R.dN (r:=(codeF E x).run rec r A H) (f:=vU rec r x) h
  have R4:∀z∈l,nE z≤m:=λz hz=>by
   obtain⟨o,ho,hs⟩:=hk z hz
   exact RG.nj (k:=nE z) (nx:=nE) (mE (I0.code _ _ _ _) (λ_=>RG.one (zA1 _)) (RG.one (zA1 _))) ho hs hb
  have hone:=(hx hm hR hA hr hl R4).1;have d_:Code.roundsIn (fen rB) 0 E.P x (ed m β H w outs) (N+1) a w:=by
   rw[roundsIn_succ];refine Go.wpIn_mono hone λe a1 w1 hp=>?_;obtain⟨z,hz,L6,β1,b6,a6,Q0⟩:=hp
   obtain⟨o,ho,hs⟩:=hk z hz
   rcases nQ ho with⟨G5,h1⟩|⟨i,G5,h1⟩|⟨G5,h1⟩
   ·rw[L6.normal G5];have:=(J0.code hm a6 b6 (hr.mono Q0.sub) h1 (λq hq=>hb q (hs q hq))).2 x rfl;exact oD (λe a2 w2 Q5=>Q5.ext Q0 hs) this
   ·cases h1
    rw[L6.exit G5];exact⟨z,hs z (List.mem_singleton.2 rfl),by rw[G5];rfl,β1,b6,a6,Q0⟩
   cases h1
   rw[L6.ret G5];exact⟨z,hs z (List.mem_singleton.2 rfl),by rw[G5];trivial,β1,b6,a6,Q0⟩
  exact⟨wpIn_loop_rounds _ d_,λy hy=>by cases hy;exact d_⟩
 |rangeFunc f ps as bo _ _=>
  intro m β H w r rB A a outs hm hR hA hr h hb;exact⟨Pn hE J0 I0 hm hR hA hr h hb,λx hx=>by cases hx⟩
 |exit id=>
  intro m β H w r rB A a outs hm hR hA hr h hb;cases h
  exact⟨wpIn_exit ⟨_,List.mem_singleton.2 rfl,rfl,β,hA,hR,Ext.refl _ _ _⟩,λx hx=>by cases hx⟩
 |scope x hx=>
  intro m β H w r rB A a outs hm hR hA hr h hb;exact⟨JK (hx hm hR hA hr h hb).1 λl a w=>ed.noGoto l a w,λx hx=>by cases hx⟩
 |label l=>
  intro m β H w r rB A a outs hm hR hA hr h hb;cases h
  exact⟨wpIn_label ⟨_,List.mem_singleton.2 rfl,trivial,β,hA,hR,Ext.refl _ _ _⟩,λx hx=>by cases hx⟩
 |goto l=>intro m β H w r rB A a outs hm hR hA hr h hb;cases h
 |ret=>
  intro m β H w r rB A a outs hm hR hA hr h hb;cases h
  exact⟨wpIn_ret ⟨_,List.mem_singleton.2 rfl,trivial,β,hA,hR,Ext.refl _ _ _⟩,λx hx=>by cases hx⟩
 |refuse x=>intro m β H w r rB A a outs hm hR hA hr h hb;cases h
end
section
variable{P:Program}{m:Nat}{β:Pl}{H:Hp}{w:World}
theorem LW{v:AV}{u:Value}(hv:AR β v u){x:Bool×List AC}(h:iZ v=some x):TR β x u:=by
 cases v with
 |one c=>cases h;exact hv
 |agg l=>cases h;exact hv
 |tup l=>cases h
 |any=>cases h
theorem QK{x:AV}{f:Nat->Nat->Nat->Nat->ab}{s:String}{y:AV}{H':Hp}(h:sF x (.bad s) f=.val y H'):∃a b c d,x=.one (.o (.ptr a b c d))∧f a b c d=.val y H':=by
 cases x with
 |one c=>
  cases c with
  |o q=>cases q<;>first|exact⟨_,_,_,_,rfl,h⟩|cases h
  |b _=>cases h
  |i _ _=>cases h
 |agg _=>cases h
 |tup _=>cases h
 |any=>cases h
theorem UL(hR:Rel m β H w){t:TypeId}{a:Bool}{n:Nat}(ht:loadT P t=some (a,n)){x:AV}{v:Value}(hx:AR β x v){y:AV}{H':Hp}(h:cH H a n x=.val y H'):
  ∃u,(do loadVar t (<-asAddr v):Sem Value).run P w=.ok u w∧AR β y u:=by
 obtain⟨ha,hn⟩:=Gy ht
 obtain⟨id,g,off,lim,rfl,h1⟩:=QK h
 obtain⟨p,hp,I4,rfl⟩:=hx
 cases hc:eN H id g off lim n with
 |none=>rw[hc]at h1;cases h1
 |some c=>
  rw[hc]at h1;obtain⟨cells,hD,e3,e4,rfl⟩:=nK hc
  have hr:=hD hR hp;obtain⟨vs,I1,V3,N3⟩:=iT hr off n (by omega)
  cases a with
  |true=>
   cases h1
   refine⟨.agg vs.toArray,?_,vs,V3,rfl⟩
   have hl:=run_loadCells_list (P:=P) w ⟨p.b,p.o+off,none⟩ vs N3;rw[I1]at hl;simp[asAddr,loadVar,eD ha,cy hn,hl]
  |false=>
   cases W2:(cells.drop off).take n with
   |nil=>rw[W2]at h1;cases h1
   |cons z l=>
    rw[W2]at V3 h1;cases vs with
    |nil=>exact V3.elim
    |cons u us=>
     cases h1
     refine⟨u,?_,V3.1⟩
     have h0:=N3 0 u rfl;have:(⟨p.b,p.o+off,none⟩:Addr).add 0=⟨p.b,p.o+off,none⟩:=rfl;rw[this]at h0;simp[asAddr,loadVar,eD ha,run_load,h0]
def BB(tmps:Array Value):ResultVar->Sem Value
 |.tmp t=>pure (tmps.getD t undef)
 |.cell a t=>do loadVar t (<-asAddr (tmps.getD a undef))
theorem UR(hR:Rel m β H w){tm:PT AV}{tmps:Array Value}(R0:∀t,AR β (aw (tm.get t) aD λv=>v) (tmps.getD t undef)){x:ResultVar}{y:Bool×List AC}(h:jM P x tm H=some y):
  ∃u,(BB tmps x).run P w=.ok u w∧TR β y u:=by
 cases x with
 |tmp t=>
  have h':aw (tm.get t) none iZ=some y:=h;obtain⟨v,hv,hy⟩:=da h'
  have:=R0 t;rw[hv]at this;exact⟨_,rfl,LW this hy⟩
 |cell a t=>
  cases hp:loadT P t with
  |none=>
   have:jM P (.cell a t)=λ_ _=>none:=by simp[jM,hp]
   rw[this]at h;cases h
  |some p=>
   have:jM P (.cell a t)=λtm h=>aw (tm.get a) none λv=>ab.rec (motive:=λ_=>Option (Bool×List AC)) (λv _=>iZ v) (λ_=>none) (λ_ _=>none) (λ_ _=>none) (λ_=>none) (cH h p.1 p.2 v):=by simp[jM,hp]
   rw[this]at h;obtain⟨v,hv,hy⟩:=da h
   have hav:=R0 a;rw[hv]at hav;cases hd:cH H p.1 p.2 v with
   |val y' H'=>
    rw[hd]at hy;obtain⟨u,hu,hr⟩:=UL (P:=P) hR (a:=p.1) (n:=p.2) hp hav hd
    exact⟨u,hu,LW hr hy⟩
   |om l=>rw[hd]at hy;cases hy
   |enter f l=>rw[hd]at hy;cases hy
   |round i l=>rw[hd]at hy;cases hy
   |bad s=>rw[hd]at hy;cases hy
theorem yS(hR:Rel m β H w){tm:PT AV}{tmps:Array Value}(R0:∀t,AR β (aw (tm.get t) aD λv=>v) (tmps.getD t undef)):∀{l:List ResultVar}{ys:List (Bool×List AC)},bQ P l tm H=some ys ->
  ∃us:List Value,(l.mapM (BB tmps)).run P w=.ok us w∧TRs β ys us
 |[],ys,h=>by cases h;exact⟨[],rfl,trivial⟩
 |x::l,ys,h=>by
  have h':aw (jM P x tm H) none (λx=>aw (bQ P l tm H) none λl=>some (x::l))=some ys:=h;obtain⟨y,hy,h1⟩:=da h'
  obtain⟨ys',x9,h2⟩:=da h1
  cases h2
  obtain⟨u,hu,hr⟩:=UR hR R0 hy
  obtain⟨us,z',hrs⟩:=yS hR R0 x9
  refine⟨u::us,?_,hr,hrs⟩
  simp[List.mapM_cons,hu,z']
theorem TRs.length:∀{l:List (Bool×List AC)}{vs:List Value},TRs β l vs->vs.length=l.length
 |[],[],_=>rfl
 |_::_,_::_,h=>by simp[TRs.length h.2]
 |[],_::_,h=>h.elim
 |_::_,[],h=>h.elim
theorem Qz{ys:List (Bool×List AC)}{us:List Value}(h:TRs β ys us):AR β (dU ys) (if h:us.toArray.size=1 then us.toArray[0]else .tuple us.toArray):=by
 match ys,us,h with
 |[],[],h=>exact⟨[],trivial,rfl⟩
 |[(true,l)],[u],h=>exact h.1
 |[(false,[c])],[u],h=>exact h.1
 |a::b::l,u::v::us,h=>
  have:¬(u::v::us).toArray.size=1:=by simp
  rw[dif_neg this];have e:dU (a::b::l)=.tup (a::b::l):=by
   unfold dU;split<;>first|rfl|(rename_i h;cases h)
  rw[e];exact⟨_,h,rfl⟩
 |[(false,[])],[u],h=>exact h.1.elim
 |[(false,_::_::_)],[u],h=>exact h.1.elim
end
def iI{sub:PT aJ}{n:Nat}{i:Nat}:∀{l:List Nat},i∈db sub n l↔i∈l∧i<n∧∃o,sub.get i=some o
 |[]=>⟨λh=>(by cases h),λh=>(by cases h.1)⟩
 |x::l=>by
  show i∈ifE (Nat.blt x n) (aw (sub.get x) (db sub n l) λ_=>x::db sub n l) (db sub n l)↔_;have ih:=iI (sub:=sub) (n:=n) (i:=i) (l:=l);rw[bL];split
  ·rename_i hb
   have hx:x<n:=zA4 hb;cases hg:sub.get x with
   |none=>
    rw[NX,ih];refine⟨λh=>⟨List.mem_cons_of_mem _ h.1,h.2⟩,λh=>⟨?_,h.2⟩⟩
    rcases List.mem_cons.1 h.1 with rfl|h1
    ·obtain⟨o,ho⟩:=h.2.2;rw[hg]at ho;cases ho
    exact h1
   |some o=>
    rw[yg,List.mem_cons,ih];refine⟨λh=>?_,λh=>?_⟩
    ·rcases h with rfl|h
     ·exact⟨List.mem_cons_self ..,hx,o,hg⟩
     exact⟨List.mem_cons_of_mem _ h.1,h.2⟩
    rcases List.mem_cons.1 h.1 with h1|h1
    ·exact .inl h1
    exact .inr ⟨h1,h.2⟩
  rename_i hb
  rw[ih];refine⟨λh=>⟨List.mem_cons_of_mem _ h.1,h.2⟩,λh=>⟨?_,h.2⟩⟩
  rcases List.mem_cons.1 h.1 with rfl|h1
  ·exact absurd (zA5 h.2.1:Nat.blt i n=true) hb
  exact h1
def lB{i:Nat}:∀{n a:Nat},i∈cd a n↔a≤i∧i<a+n
 |0,a=>⟨λh=>(by cases h),λh=>(by omega)⟩
 |n+1,a=>by
  show i∈a::cd (Nat.add a 1) n↔_;rw[List.mem_cons,lB];have:Nat.add a 1=a+1:=rfl;rw[this];omega
def qF{i:Nat}:∀{l:List Nat},NI l i=true↔i∈l
 |[]=>⟨λh=>(by cases h),λh=>(by cases h)⟩
 |x::l=>by
  unfold NI;cases h:Nat.beq x i with
  |true=>
   have:=zA3 h;subst this;simp
  |false=>
   have Z0:x≠i:=λe=>by subst e;rw[Nat.beq_refl]at h;cases h
   rw[List.mem_cons];simp only[cond_false,qF];exact⟨.inr,λh=>h.resolve_left λe=>Z0 e.symm⟩
def iW{src:PT aJ}{id:Nat}:∀{l:List Nat}{t:PT aJ},(∀i∈l,i<i+1)->(bP t src l).get id=if id∈l then src.get id else t.get id
 |[],t,_=>by simp[bP]
 |i::l,t,h=>by
  unfold bP;rw[iW λj hj=>h j (List.mem_cons_of_mem _ hj)];by_cases hl:id∈l
  ·rw[zB0 hl,zB0 (List.mem_cons_of_mem _ hl)]
  rw[zB1 hl,PT.tP _ _ _ _ (h i (List.mem_cons_self ..))];by_cases hi:id=i
  ·subst hi;rw[zB0 rfl,zB0 (List.mem_cons_self ..)]
  rw[zB1 hi,zB1 λhh=>(List.mem_cons.1 hh).elim hi hl]
def oQ{id:Nat}:∀{l:List Nat}{t:PT aJ},(∀i∈l,i<i+1)->(lR t l).get id=if id∈l then none else t.get id
 |[],t,_=>by simp[lR]
 |i::l,t,h=>by
  unfold lR;rw[oQ λj hj=>h j (List.mem_cons_of_mem _ hj)];by_cases hl:id∈l
  ·rw[zB0 hl,zB0 (List.mem_cons_of_mem _ hl)]
  rw[zB1 hl];show(PT.put none t i).get id=_
  rw[PT.tP _ _ _ _ (h i (List.mem_cons_self ..))];by_cases hi:id=i
  ·subst hi;rw[zB0 rfl,zB0 (List.mem_cons_self ..)]
  rw[zB1 hi,zB1 λhh=>(List.mem_cons.1 hh).elim hi hl]
def cm{m:Nat}{u:Did}:∀{l:List Did},u∈aL m l↔u∈l∧Nat.testBit m u.idx=false
 |[]=>⟨λh=>(by cases h),λh=>(by cases h.1)⟩
 |x::l=>by
  show u∈ifE (Nat.testBit m x.idx) (aL m l) (x::aL m l)↔_;rw[bL];split
  ·rename_i hb
   rw[cm];refine⟨λh=>⟨List.mem_cons_of_mem _ h.1,h.2⟩,λh=>⟨?_,h.2⟩⟩
   rcases List.mem_cons.1 h.1 with rfl|h1
   ·rw[hb]at h;cases h.2
   exact h1
  rename_i hb
  rw[List.mem_cons,cm,List.mem_cons];refine⟨λh=>?_,λh=>?_⟩
  ·rcases h with rfl|h
   ·exact⟨.inl rfl,by simpa using hb⟩
   exact⟨.inr h.1,h.2⟩
  rcases h.1 with rfl|h1
  ·exact .inl rfl
  exact .inr ⟨h1,h.2⟩
def uO{M1:PT aJ}:∀{wr:List Nat},sJ M1 wr=true->∀i∈wr,M1.get i=none
 |[],_,i,hi=>by cases hi
 |x::wr,h,i,hi=>by
  have h':aw (M1.get x) (sJ M1 wr) (λ_=>false)=true:=h;cases hg:M1.get x with
  |some o=>rw[hg]at h';cases h'
  |none=>
   rw[hg]at h';rcases List.mem_cons.1 hi with rfl|hi
   ·exact hg
   exact uO (wr:=wr) h' i hi
def rh{wr:List Nat}:∀{us:List Did},eC us wr=true->∀u∈us,∀i∈wr,u.M1.get i=none
 |[],_,u,hu=>by cases hu
 |x::us,h,u,hu=>by
  have h':both (sJ x.M1 wr) (eC us wr)=true:=h;rw[cF,Bool.and_eq_true]at h';rcases List.mem_cons.1 hu with rfl|hu
  ·exact uO h'.1
  exact rh h'.2 u hu
def kS{u:Did}{i:Nat}:bO u i=true↔i∈u.wr∨(u.c0≤i∧i<u.c1):=by
 unfold bO;rw[Bool.or_eq_true,qF,Bool.and_eq_true];refine or_congr Iff.rfl (and_congr ?_ ?_)
 ·exact⟨zA4,zA5⟩
 exact⟨λh=>zA4 h,λh=>zA5 h⟩
def pk{u:Did}{i:Nat}(h:u.c0≤u.c1):i∈eb u↔bO u i=true:=by
 rw[kS];show i∈u.wr++cd u.c0 (u.c1-u.c0)↔_;rw[List.mem_append,lB];have:u.c0+(u.c1-u.c0)=u.c1:=by omega
 rw[this]
def mU{acc:List Nat}{j i:Nat}:∀{es:List Edge},Nat.testBit (ja acc j es) i=true->∃e∈es,fi e=true∧e.on<j∧(i=e.on∨Nat.testBit (acc.getD e.on 0) i=true)
 |[],h=>by simp[ja]at h
 |e::es,h=>by
  unfold ja at h;cases hc:fi e&&Nat.blt e.on j with
  |false=>
   rw[hc]at h;obtain⟨e',M_,r⟩:=mU (es:=es) h
   exact⟨e',List.mem_cons_of_mem _ M_,r⟩
  |true=>
   rw[hc]at h;rw[Bool.and_eq_true]at hc;have C0:e.on<j:=zA4 hc.2;have h':Nat.testBit ((1 <<< e.on ||| acc.getD e.on 0) ||| ja acc j es) i=true:=h;rw[Nat.testBit_or,Nat.testBit_or,Bool.or_eq_true,Bool.or_eq_true]at h';rcases h' with(h'|h')|h'
   ·rw[Nat.one_shiftLeft,Nat.testBit_two_pow]at h';exact⟨e,List.mem_cons_self ..,hc.1,C0,.inl (by simpa using h'.symm:e.on=i).symm⟩
   ·exact⟨e,List.mem_cons_self ..,hc.1,C0,.inr h'⟩
   obtain⟨e',M_,r⟩:=mU (es:=es) h'
   exact⟨e',List.mem_cons_of_mem _ M_,r⟩
def Aw:∀(l:List Oper)(acc:List Nat)(j k:Nat),k<acc.length->(dM acc j l).getD k 0=acc.getD k 0
 |[],_,_,_,_=>rfl
 |o::l,acc,j,k,h=>by
  unfold dM;rw[Aw l _ _ k (by simp;omega)];simp only[List.getD_eq_getElem?_getD];rw[List.getElem?_append_left h]
def pn:∀(l:List Oper)(acc:List Nat)(j:Nat),acc.length=j->∀k o,l[k]?=some o->∀i,Nat.testBit ((dM acc j l).getD (j+k) 0) i=true ->
  ∃e∈o.after.toList,fi e=true∧e.on<j+k∧(i=e.on∨Nat.testBit ((dM acc j l).getD e.on 0) i=true)
 |[],_,_,_,k,o,h,_,_=>by simp at h
 |x::l,acc,j,hj,0,o,h,i,hi=>by
  simp at h
  subst h;unfold dM at hi ⊢;have u6:=λk hk=>Aw l (acc++[ja acc j x.after.toList]) (Nat.add j 1) k hk;rw[u6 (j+0) (by simp;omega)]at hi;have he:(acc++[ja acc j x.after.toList]).getD (j+0) 0=ja acc j x.after.toList:=by
   simp[<-hj]
  rw[he]at hi;obtain⟨e,he,h1,h2,h3⟩:=mU hi
  refine⟨e,he,h1,h2,h3.imp id λh3=>?_⟩
  rw[u6 e.on (by simp;omega)];simp only[List.getD_eq_getElem?_getD]at h3 ⊢;rw[List.getElem?_append_left (by omega)];exact h3
 |x::l,acc,j,hj,k+1,o,h,i,hi=>by
  unfold dM at hi ⊢;have ih:=pn l (acc++[ja acc j x.after.toList]) (Nat.add j 1) (by simp[hj]) k o (by simpa using h) i;have e1:Nat.add j 1+k=j+(k+1):=by show j+1+k=_;omega
  rw[e1]at ih;exact ih hi
def oG{ops:Array Oper}{m:Nat}{y:Oper}:∀{l:List Oper}{i0:Nat},mo ops m y i0 l=true->∀k x,l[k]?=some x->Nat.testBit m (i0+k)=true∨yp ops x y=false
 |[],_,_,k,x,h=>by simp at h
 |z::l,i0,h,0,x,hx=>by
  simp at hx
  subst hx;unfold mo at h;rw[Bool.and_eq_true,Bool.or_eq_true]at h;exact h.1.imp id λh=>by simpa using h
 |z::l,i0,h,k+1,x,hx=>by
  unfold mo at h;rw[Bool.and_eq_true]at h;have:=oG (l:=l) (i0:=Nat.add i0 1) h.2 k x (by simpa using hx);have e1:Nat.add i0 1+k=i0+(k+1):=by show i0+1+k=_;omega
  rw[e1]at this;exact this
def qa{ops:Array Oper}:∀{l pre:List Oper}{ms:List Nat},nZ ops pre l ms=true->∀k o,l[k]?=some o->∀i x,i<pre.length+k->(pre++l)[i]?=some x->Nat.testBit (ms.getD k 0) i=true∨yp ops x o=false
 |[],_,_,_,k,o,h,_,_,_,_=>by simp at h
 |o::l,pre,[],h,_,_,_,_,_,_,_=>by unfold nZ at h;cases h
 |o::l,pre,m::ms,h,0,o',ho,i,x,hi,hx=>by
  simp at ho
  subst ho;unfold nZ at h;rw[Bool.and_eq_true]at h;have U3:pre[i]?=some x:=by rw[List.getElem?_append_left (by simpa using hi)]at hx;exact hx
  have:=oG h.1 i x U3;simpa using this
 |o::l,pre,m::ms,h,k+1,o',ho,i,x,hi,hx=>by
  unfold nZ at h;rw[Bool.and_eq_true]at h;have:=qa h.2 k o' (by simpa using ho) i x (by simp;omega) (by simpa using hx);simpa using this
def jc:∀{l:List Oper}{j:Nat},jT j l=true->∀k o,l[k]?=some o->∀e∈o.after.toList,fi e=true->e.on<j+k
 |[],_,_,k,o,h,_,_,_=>by simp at h
 |x::l,j,h,0,o,ho,e,he,hu=>by
  simp at ho
  subst ho;unfold jT at h;rw[Bool.and_eq_true,List.all_eq_true]at h;have:=h.1 e he;rw[hu]at this;simp at this
  exact this
 |x::l,j,h,k+1,o,ho,e,he,hu=>by
  unfold jT at h;rw[Bool.and_eq_true]at h;have:=jc h.2 k o (by simpa using ho) e he hu;have e1:Nat.add j 1+k=j+(k+1):=by show j+1+k=_;omega
  rw[e1]at this;exact this
def oK{ops:Array Oper}{x y:Oper}(h:yp ops x y=false):(∀d,x.dst=some d->d∉slotsOf ops y∧y.dst≠some d)∧∀d,y.dst=some d->d∉slotsOf ops x:=by
 unfold yp at h;rw[Bool.or_eq_false_iff]at h;refine⟨λd hd=>?_,λd hd hm=>?_⟩
 ·have h1:=h.1;rw[hd]at h1;simp only[Bool.or_eq_false_iff]at h1;refine⟨λhm=>?_,λhy=>?_⟩
  ·rw[qF.2 hm]at h1;cases h1.1
  rw[hy]at h1;have:=h1.2;simp only[Nat.beq_refl]at this;cases this
 have h2:=h.2;rw[hd]at h2;simp only at h2
 rw[qF.2 hm]at h2;cases h2
def yb{H H':Hp}{l:List Nat}(h:H'.log=l++H.log):uZ H H'=l:=by
 unfold uZ;rw[h,List.length_append,Nat.add_sub_cancel,List.take_left'];rfl
def vf{src:PT aJ}{n id:Nat}:∀{l:List Nat}{t:PT aJ},(∀i∈l,i<i+1)->(sC n t src l).get id=if id∈l then ct n id (src.get id)else t.get id
 |[],t,_=>by simp[sC]
 |i::l,t,h=>by
  unfold sC;rw[vf λj hj=>h j (List.mem_cons_of_mem _ hj)];by_cases hl:id∈l
  ·rw[zB0 hl,zB0 (List.mem_cons_of_mem _ hl)]
  rw[zB1 hl,PT.tP _ _ _ _ (h i (List.mem_cons_self ..))];by_cases hi:id=i
  ·subst hi;rw[zB0 rfl,zB0 (List.mem_cons_self ..)]
  rw[zB1 hi,zB1 λhh=>(List.mem_cons.1 hh).elim hi hl]
open Classical in
def sj{H:Hp}{l:List (AV×Hp)}{t:PT aJ}{id:Nat}:(Ep H l t).get id=if id<mj l∧∀x∈l,ct H.nx id (x.2.t.get id)=ct H.nx id (t.get id)then ct H.nx id (t.get id)else none:=by
 show(sC H.nx .leaf t ((cd 0 (mj l)).filter (pZ H.nx l t))).get id=_
 rw[vf λi _=>zA6 i];have e:id∈(cd 0 (mj l)).filter (pZ H.nx l t)↔id<mj l∧∀x∈l,ct H.nx id (x.2.t.get id)=ct H.nx id (t.get id):=by
  rw[List.mem_filter,lB];unfold pZ;rw[decide_eq_true_iff];exact⟨λh=>⟨by omega,h.2⟩,λh=>⟨by omega,h.2⟩⟩
 by_cases hc:id<mj l∧∀x∈l,ct H.nx id (x.2.t.get id)=ct H.nx id (t.get id)
 ·rw[zB0 hc,zB0 (e.2 hc)]
 rw[zB1 hc,zB1 λh=>hc (e.1 h)];rfl
def Wk(o o':aJ):Prop:=o=o'∨o=Yt o'
def Wk.ro{o o':aJ}(h:Wk o o'):o.jJ=o'.jJ:=by
 rcases h with rfl|rfl
 ·rfl
 cases o'<;>rfl
def Wk.gen{o o':aJ}{β:Pl}{w:World}{id g:Nat}(h:Wk o o')(hr:fk β w id o')(hg:dd o g):dd o' g:=by
 rcases h with rfl|rfl
 ·exact hg
 cases o' with
 |arr c e lo gen=>exact⟨zA2 hr.1 hg.1,hg.2⟩
 |oth x=>exact hg
 |ro c=>exact hg
def Wk.obj{o o':aJ}{β:Pl}{w:World}{id:Nat}(h:Wk o o')(hr:fk β w id o'):fk β w id o:=by
 rcases h with rfl|rfl
 ·exact hr
 cases o' with
 |arr c e lo gen=>
  obtain⟨h1,h2,h3,h4⟩:=hr
  exact⟨zA1 _,λg a b=>h2 g (zA2 h1 a) b,λg g' p p' a b c=>h3 g g' p p' (zA2 h1 a) b c,h4⟩
 |oth x=>exact hr
 |ro c=>exact hr
def Ui{n id:Nat}{x:Option aJ}{o:aJ}(h:ct n id x=some o):∃o',x=some o'∧Wk o o':=by
 unfold ct at h;split at h
 ·exact⟨o,h,.inl rfl⟩
 cases x with
 |none=>cases h
 |some o'=>exact⟨o',rfl,.inr (Option.some.inj h).symm⟩
def GY{P:Program}{fn:Func}{tmps:Array Value}{w:World}{us:List Value}(h:(fn.results.toList.mapM (BB tmps)).run P w=.ok us w):
  (results fn tmps).run P w=.ok (if h:us.toArray.size=1 then us.toArray[0]else .tuple us.toArray) w:=by
 have e:results fn tmps=(do let vs <-fn.results.mapM (BB tmps);pure (if h:vs.size=1 then vs[0]else .tuple vs)):=by
  unfold results;congr 1
 rw[e,Array.mapM_eq_mapM_toList];simp[h]
section
variable{E:Env}{m:Nat}
theorem Dt(hm:m≤m){fn:Func}{tmps:Array Value}{R:Ending->World->Prop}:∀{ids:List Nat}{ds:List Deferred}{β:Pl}{H H2:Hp}{w:World},Rel m β H w->H.nx≤m->ng β ids ds->closeAll H ids=some H2 ->
  (∀w2,Rel m β H2 w2->Ext β H w β H2 w2->LeavesInM Fence.wide 0 E.P fn tmps R [] .returning w2)->LeavesInM Fence.wide 0 E.P fn tmps R ds .returning w
 |[],[],β,H,H2,w,hR,V0,_,h,hk=>by cases h;exact hk w hR (Ext.refl _ _ _)
 |i::ids,d::ds,β,H,H2,w,hR,V0,hM,h,hk=>by
  unfold closeAll at h;split at h
  ·rename_i hg
   obtain⟨p,hp,rfl⟩:=hM.1
   obtain⟨q,hq,hw⟩:=hR.obj i _ hg
   rw[hp]at hq;cases hq;have Y3:w.heap[p.b]?=some (.deferred (some [])):=hw;have P2:=kL hR hm V0 hg (.dfr false) hp w rfl rfl rfl rfl (.deferred none) (λw' Y3=>Y3);refine⟨by simp,.inl ⟨p.b,{ w with heap:=w.heap.setIfInBounds p.b (.deferred none) },rfl,?_,?_⟩⟩
   ·simp[Instr.takeDeferred,getObj,setObj,Sem.run,Y3]
   exact Dt hm P2.1 V0 hM.2 h λw2 h2 h3=>hk w2 h2 (P2.2.trans h3)
  cases h
 |[],_::_,_,_,_,_,_,_,hM,_,_=>hM.elim
 |_::_,[],_,_,_,_,_,_,hM,_,_=>hM.elim
end
def vO{β:Pl}{nt:Nat}(h20:nt≤1048576):∀(args:List AV)(vs:List Value)(k:Nat)(tm:PT AV)(tmps:Array Value),ARs β args vs->TmR β tm nt tmps->k+vs.length≤nt ->
  TmR β (setArgs args k tm) nt ((tmps.toList.take k++vs++tmps.toList.drop (k+vs.length)).toArray)
 |[],[],k,tm,tmps,_,h,_=>by
  show TmR β tm nt _;simpa using h
 |x::args,v::vs,k,tm,tmps,ha,h,hk=>by
  have O3:k<nt:=by simp at hk;omega
  have ih:=vO h20 args vs (k+1) (tm.set k x) (tmps.setIfInBounds k v) ha.2 (h.put O3 ha.1) (by simp at hk;omega);have L1:=h.1;have e:=list_seg_step tmps.toList k v vs (by simp at hk ⊢;omega);rw[Array.toList_setIfInBounds]at ih;rw[e]at ih;have hl:k+1+vs.length=k+(v::vs).length:=by simp;omega
  exact ih
 |[],_::_,_,_,_,ha,_,_=>ha.elim
 |_::_,[],_,_,_,ha,_,_=>ha.elim
def Ll{β:Pl}{nt:Nat}(h20:nt≤1048576){args:List AV}{vs:List Value}(ha:ARs β args vs)(hl:args.length≤nt):TmR β (setArgs args 0 .leaf) nt (vs.toArray++Array.replicate (nt-vs.toArray.size) undef):=by
 have h0:TmR β (.leaf:PT AV) nt (Array.replicate nt undef):=by
  refine⟨by simp,h20,λt=>?_⟩
  have:(Array.replicate nt undef).getD t undef=undef:=by
   simp only[Array.getD_eq_getD_getElem?,Array.getElem?_replicate];split<;>rfl
  rw[this];exact mI β
 have I1:=ha.length;have:=vO h20 args vs 0 .leaf (Array.replicate nt undef) ha h0 (by omega);have e:((Array.replicate nt undef).toList.take 0++vs++(Array.replicate nt undef).toList.drop (0+vs.length)).toArray=vs.toArray++Array.replicate (nt-vs.toArray.size) undef:=by
  apply Array.ext'
  simp
 rw[e]at this;exact this
section
variable{E:Env}(hE:qC E)(hD:QE E)
include hE hD
omit hE hD in
theorem uA{m:Nat}{β β1:Pl}{H:Hp}{w w1:World}(hm:m≤m){fn:Func}{x:ak×aa×Hp}{a1:Act}{e:Exit}(hx:XR x.1 e)(hA:gP β1 x.2.1 a1)(hR:Rel m β1 x.2.2 w1)(Q0:Ext β H w β1 x.2.2 w1)(V0:nE x≤m)
  {o outs:List (AV×Hp)} (ho:aC E fn.results.toList x=.ok o) (hs:∀y∈o,y∈outs) {R:Ending->World->Prop} (hQ:∀e w',kz m β H w outs e w'->R e w'):bodyPostM Fence.wide 0 E.P fn R e a1 w1:=by
 have key:∀{o:List (AV×Hp)},(aw (closeAll x.2.2 x.2.1.dfr) (.bad "marks") λh2=>aw (bQ E.P fn.results.toList x.2.1.tm h2) (.bad "results") λl=>.ok [(dU l,h2)])=Eng.R.ok o->(∀y∈o,y∈outs) ->
   LeavesInM Fence.wide 0 E.P fn a1.tmps R a1.defers .returning w1:=by
  intro o ho hs;cases hc:closeAll x.2.2 x.2.1.dfr with
  |none=>rw[hc]at ho;cases ho
  |some h2=>
   rw[hc]at ho;have D3:aw (bQ E.P fn.results.toList x.2.1.tm h2) (.bad "results") (λl=>Eng.R.ok [(dU l,h2)])=Eng.R.ok o:=ho
   refine Dt hm hR V0 hA.df hc λw2 hR2 c_=>?_;cases hr:bQ E.P fn.results.toList x.2.1.tm h2 with
   |none=>rw[hr]at D3;cases D3
   |some l=>
    rw[hr]at D3;cases D3
    obtain⟨us,z',P4⟩:=yS (P:=E.P) hR2 hA.tm.2.2 hr
    exact⟨_,GY z',hQ _ _ ⟨_,rfl,_,hs _ (List.mem_singleton.2 rfl),β1,Qz P4,hR2,Q0.trans c_⟩⟩
 unfold aC at ho;cases O0:x.1 with
 |normal=>rw[O0]at ho;rw[hx.normal O0];exact key ho hs
 |exit i=>rw[O0]at ho;cases ho
 |ret=>rw[O0]at ho;rw[hx.ret O0];exact key ho hs
omit hE hD in
theorem kz.join{m:Nat}{β:Pl}{H:Hp}{w:World}(hR:Rel m β H w){l:List (AV×Hp)}{e:Ending}{w':World}(h:kz m β H w l e w'):kz m β H w (vC H l) e w':=by
 rcases my H l with ej|⟨x,hx,hc,ej⟩
 ·rw[ej];exact h
 rw[ej];obtain⟨v,rfl,y,hy,β',hv,P7,U3⟩:=h
 obtain⟨O5,hy2⟩:=hc y hy
 have hmx:=ra hy;have hle:=U3.nx;have U0:∀id o,(Ep H l x.2.t).get id=some o->∃o',y.2.get id=some o'∧Wk o o':=λid o ho=>by
  rw[sj]at ho;by_cases hh:id<mj l∧∀z∈l,ct H.nx id (z.2.t.get id)=ct H.nx id (x.2.t.get id)
  ·rw[zB0 hh]at ho;exact Ui ((hh.2 y hy).trans ho)
  rw[zB1 hh]at ho;cases ho
 have hold:∀id,id<H.nx->(Ep H l x.2.t).get id=y.2.get id:=λid hid=>by
  rw[sj,zB0 ⟨by omega,λz hz=>congrArg _ ((hc z hz).2 id hid)⟩];show(if id<H.nx then x.2.t.get id else _)=_
  rw[zB0 hid];exact(hy2 id hid).symm
 refine⟨v,rfl,_,List.mem_singleton.2 rfl,β',by rw[<-O5];exact hv,⟨λid o ho=>(let ⟨o',h1,h2⟩:=U0 id o ho;h2.obj (P7.obj id o' h1)),λid id' o o' g g' p p' h1 h2 h3 h4 h5 h6 h7=>(by
  obtain⟨o1,a1,a2⟩:=U0 id o h1
  obtain⟨o2,b1,b2⟩:=U0 id' o' h2
  rw[a2.ro,b2.ro];exact P7.sep id id' o1 o2 g g' p p' a1 b1 (a2.gen (P7.obj id o1 a1) h3) (b2.gen (P7.obj id' o2 b1) h4) h5 h6 h7),λid hid=>?_,λid g h1 h2=>P7.free id g (zA2 hmx h1) h2⟩,?_⟩
 ·rw[sj,zB1 λhh=>absurd hh.1 (Nat.not_lt.2 hid)]
 refine{ sub:=U3.sub,loc:=λid g p hp=>?_,size:=U3.size,os:=U3.os,tape:=U3.tape,output:=U3.output,frame:=U3.frame,prov:=λid o g p h1 h2 h3=>(by
       obtain⟨o1,a1,a2⟩:=U0 id o h1
       rw[a2.ro];exact U3.prov id o1 g p a1 (a2.gen (P7.obj id o1 a1) h2) h3),nx:=zA2 hle hmx,
         log:=⟨_,rfl,λid hid hn=>?_⟩,dom:=λid o ho=>?_,old:=λid o ho=>?_,far:=λl' J7 b hb hn=>?_ }
 ·rcases U3.loc id g p hp with h1|h1|h1
  ·exact .inl h1
  ·exact .inr (.inl ⟨h1.1,zA0 h1.2 hmx⟩)
  exact .inr (.inr h1)
 ·rw[hold id hid];obtain⟨l2,e2,f2⟩:=U3.log
  refine f2 id hid λhm=>hn ?_;exact List.mem_flatMap.2 ⟨y,hy,by rw[yb e2];exact hm⟩
 ·have hid:id<H.nx:=by
   rcases Nat.lt_or_ge id H.nx with hh|hh
   ·exact hh
   rw[hR.wf id hh]at ho;cases ho
  obtain⟨o',D3⟩:=U3.dom id o ho
  exact⟨o',by rw[hold id hid];exact D3⟩
 ·obtain⟨o1,a1,a2⟩:=U0 id o ho
  rcases U3.old id o1 a1 with h1|h1
  ·exact .inl h1
  exact .inr ⟨h1.1,zA0 h1.2 hmx⟩
 obtain⟨l2,e2,f2⟩:=U3.log
 have e3:l'=l.flatMap λz=>uZ H z.2:=by
  have:l.flatMap (λz=>uZ H z.2)++H.log=l'++H.log:=J7;exact(List.append_cancel_right this).symm
 subst e3;exact U3.far l2 e2 b hb λid o g p hid=>hn id o g p (List.mem_flatMap.2 ⟨y,hy,by rw[yb e2];exact hid⟩)
theorem Pf{N:Nat}{rec:Rec}(J0:Cp E.P N rec)(I0:RecM rec){m:Nat}{β:Pl}{H:Hp}{w:World}{f:FuncId}{args:List AV}{vs:List Value}{outs:List (AV×Hp)}(hm:m≤m)(hR:Rel m β H w)(ha:ARs β args vs)
  (h:jG E rec f args H=.ok outs) (hb:∀x∈outs,nV x≤m):CallsIn Fence.wide 0 E.P f vs.toArray w (kz m β H w outs):=by
 unfold jG RW at h;cases hf:E.P.funcs[f]? with
 |none=>rw[hf]at h;cases h
 |some fn=>
  cases M9:fn.body with
  |none=>rw[hf]at h;simp only[M9]at h;cases h
  |some c=>
   rw[hf]at h;simp only[M9]at h;have h':ifE (both (Nat.ble (pR args) fn.ntmps) (Nat.ble fn.ntmps 1048576)) (tt H (((codeF E c).run rec none ⟨setArgs args 0 .leaf,fn.ntmps,[]⟩ H).bind (aC E fn.results.toList))) (.bad "too many arguments")=R.ok outs:=h
   rw[bL]at h';split at h'
   ·rename_i hc
    obtain⟨l0,j5,rfl⟩:=Fy h'
    replace hb:=RQ hb;obtain⟨l,hl,hk⟩:=R.dN j5
    have R4:∀x∈l,nE x≤m:=λx hx=>by
     obtain⟨o,ho,hs⟩:=hk x hx
     exact RG.nj (pf (zA1 _)) ho hs hb
    have R0:=Ll (zA4 (ag hc).2) ha (zA4 (ag hc).1);have hA:gP β ⟨setArgs args 0 .leaf,fn.ntmps,[]⟩ { tmps:=vs.toArray++Array.replicate (fn.ntmps-vs.toArray.size) undef,defers:=[] }:=⟨R0,trivial⟩;refine callsIn_of_wp_marks hf M9 trivial ?_;refine Go.wpIn_mono (rq hE hD J0 I0 c (r:=none) (rB:=none) hm hR hA rfl hl R4).1 λe a1 w1 hp=>?_;obtain⟨x,hx,L6,β1,b6,a6,Q0⟩:=hp
    obtain⟨o,ho,hs⟩:=hk x hx
    exact uA hm L6 b6 a6 Q0 (R4 x hx) ho hs λ_ _ h=>kz.join hR h
   cases h'
theorem qu:∀n,Cp E.P n (eval E n)
 |0=>{ code:=λ_ _ _ _ h=>(by cases h),call:=λ_ _ _ h=>(by cases h) }
 |n+1=>
  { code:=λ{_ _ _ _ _ _ _ _ c _}hm hR hA hr h hb=>rq hE hD (qu n) (ln E n) c hm hR hA hr h hb,
    call:=λhm hR ha h hb=>Pf hE hD (qu n) (ln E n) hm hR ha h hb }
end
end Go.Eng
