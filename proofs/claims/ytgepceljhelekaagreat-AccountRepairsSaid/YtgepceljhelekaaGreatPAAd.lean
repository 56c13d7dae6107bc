/- A part of the proof. -/
import Derived.Test.YtgepceljhelekaaGreatPAAc
import Derived.Test.YtgepceljhelekaaGreatProg
import Derived.WalkKit
import Derived.IntWalk
import Derived.KernelRfl
import Derived.Lib.Hide
import Derived.Lib.Overlaps
import Derived.Lib.AppendZerosOnto
import Derived.Laws.NewBlocks
import Derived.Laws.Externs
import Derived.Laws.IdiomCopy
import Derived.Shelf.RegionOpenPlain
import Derived.Test.YtgepceljhelekaaGreatRows
import Derived.ChangeSame
import Derived.JoinedOf
import Derived.JoinedAt
import Derived.RowKit3
import Derived.Below
set_option maxRecDepth 100000
set_option maxHeartbeats 64000000
set_option linter.all false
open Go.Proofs.Tryz (prog)
noncomputable section
namespace Go.Proofs.YtgepceljhelekaaGreat
open Go Go.RowKit
def okB(c:UInt8):Bool:=c==95||(97<=c&&c<=122)||(48<=c&&c<=57)
def nmB(l:List UInt8):Bool:=!l.isEmpty&&(l.length<=16&&(match l with|[]=>false|c::_=>97<=c&&c<=122)&&l.all okB)
def acr{a b:Bool}(h:a=b):Ending.returned (.bool a)=.returned (.bool b):=by rw[h]
def Sw(s:ByteArray)(k:Nat)(h:k<s.size):s.data.toList.take (k+1)=s.data.toList.take k++[s[k]]:=by rw[cK (by simpa using h)];rfl
def GX(c:UInt8):okB c=true↔((c.toNat:Int)=95\/(97<=(c.toNat:Int)/\(c.toNat:Int)<=122)\/(48<=(c.toNat:Int)/\(c.toNat:Int)<=57)):=by unfold okB;simp[sE,<-UInt8.toNat_inj];omega
def OS{s:ByteArray}(h0:0<s.size):∃l,s.data.toList=s[0]::l/\l.length+1=s.size:=by
 have h0':0<s.data.toList.length:=by simpa using h0
 have hlen:s.data.toList.length=s.size:=by simp
 have hg:s.data.toList[0]=s[0]:=rfl;cases hl:s.data.toList with
 |nil=>rw[hl]at h0';cases h0'
 |cons c l=>simp only[hl,List.getElem_cons_zero]at hg;rw[hl]at hlen;exact⟨l,by rw[hg],by simpa using hlen⟩
def VN{s:ByteArray}(h0:0<s.size)(h:(s[0].toNat:Int)<97\/122<(s[0].toNat:Int)):nmB s.data.toList=false:=by obtain⟨l,hl,_⟩:=OS h0;rw[hl];unfold nmB;simp[sE];omega
def Zb{s:ByteArray}(h0:0<s.size)(h16:s.size<=16)(h:97<=(s[0].toNat:Int)/\(s[0].toNat:Int)<=122):nmB s.data.toList=s.data.toList.all okB:=by
 obtain⟨l,hl,hlen⟩:=OS h0;rw[hl];unfold nmB;have h1:(97:UInt8)<=s[0]:=by rw[sE];show 97<=s[0].toNat;omega
 have h2:s[0]<=(122:UInt8):=by rw[sE];show s[0].toNat<=122;omega
 simp[h1,h2,List.length_cons];omega
def XQ{s:ByteArray}{k:Nat}(hk:k<s.size)(h:okB s[k]=false):s.data.toList.all okB=false:=by
 rw[List.all_eq_false];exact⟨s[k],by
  have X3:k<s.data.toList.length:=by simpa using hk
  exact List.mem_of_getElem (h:=X3) rfl,by simp[h]⟩
def Tj{s:ByteArray}{k:Nat}(hk:k<s.size)(h:(s.data.toList.take k).all okB=true)(h':okB s[k]=true):(s.data.toList.take (k+1)).all okB=true:=by rw[Sw s k hk,uQ,h];simp[h']
def XS{s:ByteArray}(h:(s.data.toList.take s.size).all okB=true):s.data.toList.all okB=true:=by rw[iy (by simp)]at h;exact h
def acm(s:ByteArray):Bool:=s.data.toList.all okB
def Mt(s:ByteArray)(w:World):Calls prog 63 #[.string s] w λe w'=>e=.returned (.bool (nmB s.data.toList))/\w'=w:=by
 by_cases h0:s.size=0
 ·have hb:nmB s.data.toList=false:=by
   have:s.data.toList.length=0:=by simpa using h0
   rw[List.eq_nil_of_length_eq_zero this];rfl
  have h0':((s.size:Int)==0)=true:=beq_iff_eq.2 aa;rw[hb];clear hb;go_enter Tryz.func63,Tryz.ntmps63
  go_wp2
  go_ret
  exact⟨rfl,rfl⟩
 by_cases h16:16<s.size
 ·have hb:nmB s.data.toList=false:=by
   unfold nmB;have:s.data.toList.length=s.size:=by simp
   rw[this];simp
   omega
  have h0':((s.size:Int)==0)=false:=beq_eq_false_iff_ne.2 aa;have h16':decide ((16:Int)<s.size)=true:=by simp;omega
  rw[hb];clear hb;go_enter Tryz.func63,Tryz.ntmps63
  go_wp2
  go_ret
  exact⟨rfl,rfl⟩
 have C5:0<s.size:=aa;by_cases L7:(s[0].toNat:Int)<97\/122<(s[0].toNat:Int)
 ·have hb:=VN C5 L7;have h0':((s.size:Int)==0)=false:=beq_eq_false_iff_ne.2 aa;have h16':decide ((16:Int)<s.size)=false:=by simp;omega
  rw[hb];clear hb;rcases L7 with L7|L7;all_goals
   go_enter Tryz.func63,Tryz.ntmps63
   go_wp2
   go_ret
   exact⟨rfl,rfl⟩
 have hb:nmB s.data.toList=acm s:=Zb C5 aa aa;have h0':((s.size:Int)==0)=false:=beq_eq_false_iff_ne.2 aa;have h16':decide ((16:Int)<s.size)=false:=by simp;omega
 have h1:¬(s[0].toNat:Int)<97:=aa;have h2:¬122<(s[0].toNat:Int):=aa;rw[hb];clear hb L7;go_enter Tryz.func63,Tryz.ntmps63
 go_wp2
 go_loop [25] (λi=>∃k:Nat,k<=s.size/\i=.int .i64 k/\Hid ((s.data.toList.take k).all okB=true)) (λi=>s.size-(intOf i).toNat)
 case atStart=>exact⟨0,Nat.zero_le _,rfl,rfl⟩
 case round=>
  obtain⟨k,hk,rfl,HS⟩:=hrel;by_cases B0:k<s.size
  ·obtain⟨cv,hcv⟩:∃cv:Int,cv=(s[k].toNat:Int):=⟨_,rfl⟩;have E0:=GX s[k];rw[<-hcv]at E0;have HC:Hid (okB s[k]=true↔(cv=95\/(97<=cv/\cv<=122)\/(48<=cv/\cv<=57))):=Lib.hid E0;clear E0;go_wp2
   all_goals first
    |(go_round
      case rel=>have hgood:okB s[k]=true:=HC.out.2 (by rw[hcv]at *;(try simp only[bne_iff_ne,ne_eq,bne_eq_false_iff_eq]at *);omega);exact⟨k+1,aa,by go_num,Tj B0 HS.out hgood⟩
      case measure=>simp[intOf];omega)
    |(go_ret
      have hbad:okB s[k]=false:=by
       cases h:okB s[k]with
       |false=>rfl
       |true=>exfalso;have:=HC.out.1 h;rw[hcv]at *;(try simp only[bne_iff_ne,ne_eq,bne_eq_false_iff_eq]at *);omega
      exact⟨acr (XQ B0 hbad).symm,rfl⟩)
  go_wp2
  go_ret
  have:k=s.size:=aa;subst this;exact⟨acr (XS HS.out).symm,rfl⟩
open Go Go.RowKit Go.Lib
section
variable{P:Program}
def step_copyQ{ops:Array Oper}{o:Oper}{a:Act}{w:World}{K:Act->World->Prop}{Q:Exit->Act->World->Prop}{E:Prop}
  (hg:o.guard=none) (d x:Operand) (dT sT:TypeId) (hop:o.op=Op.call { callee:=Callee.builtin Builtin.copy,args:=#[d,x],argTypes:=#[dT,sT] })
  (v u:Value) (hd:a.eval d=v) (hx:a.eval x=u) {v':Value} {w':World} (hr:(Builtin.copy_ #[dT,sT] o.type #[v,u]).run P w=.ok v' w') (hK:K (a.put o.dst v') w'):
  if Region.wanted o (yielded ops a.tmps)=true then Oper.wp P o a w K Q else E:=by
 have hw:Region.wanted o (yielded ops a.tmps)=true:=by simp[Region.wanted,hg]
 rw[ad hw];unfold Oper.wp;simp[execOp,hop,resolve,invoke,builtin,hd,hx,hr,Result.andThen];exact hK
def isSome_setCellsQ(b:Nat)(vs:List Value)(o:Nat)(w:World)(h:∀j,j<vs.length->(w.cell? ⟨b,o+j,none⟩).isSome=true)(k:Nat)(hk:(w.cell? ⟨b,k,none⟩).isSome=true):((w.setCells b o vs).cell? ⟨b,k,none⟩).isSome=true:=by
 by_cases U2:o<=k/\k<o+vs.length
 ·have:=World.cell?_setCells_in b vs o w h (k-o) aa;rw[show o+(k-o)=k by omega]at this;rw[this];rfl
 rw[World.cell?_setCells_out b vs o w ⟨b,k,none⟩ (λ_ _=>by show k<o\/o+vs.length<=k;omega)];exact hk
end
def insert_shift(b off n c i vb voff vc:Nat)(cs vs:List Value)(w:World)(hi:i<n)(j6:n+1<=c)(Z0:(n+1)*24<=140737488355328)(hvb:vb≠b)
  (S1:cs.length=n) (Z1:vs.length=1)
  (M3:∀j v,cs[j]?=some v->w.cell? ⟨b,off+j,none⟩=some v) (j8:∀j,j<n+1->(w.cell? ⟨b,off+j,none⟩).isSome=true) (hfz:∀j,j<n+1->w.frozen? ⟨b,off+j,none⟩=false)
  (Q3:∀j v,vs[j]?=some v->w.cell? ⟨vb,voff+j,none⟩=some v) (h1c:∀v∈cs,v.oneCell'=true) (h1v:∀v∈vs,v.oneCell'=true)
  (tA tB:TypeId) (kA kB:Nat) (hsa:w.shape? vb=some (tA,kA)) (hsb:w.shape? b=some (tB,kB)) (hkB:kB≠0) (hfa:w.frozen? ⟨vb,voff,none⟩=false) (hfe:w.frozen? ⟨vb,kA,none⟩=false):
  Calls prog 147 #[.slice (some ⟨b,off,none⟩) n c,.int .i64 i,.slice (some ⟨vb,voff,none⟩) 1 vc] w λe w'=>e=.returned (.slice (some ⟨b,off,none⟩) (n+1) c)/\w'=(w.drew.setCells b (off+(i+1)) (cs.drop i)).setCells b (off+i) vs:=by
 have t67:prog.underlying 67=some (.slice 30):=ae;have z30:∀w,(Go.sizeOf 30).run prog w=.ok 1 w:=λw=>by obtain⟨i0,A6,h0⟩:∃i0,prog.info? 30=some i0/\i0.size=1:=Option.map_eq_some_iff.1 (by kernel_rfl:(prog.info? 30).map (·.size)=some 1);simp[sizeOf,typeInfo,A6,h0]
 have mixed:prog.follows .mixedOrders=true:=ae;have B2:(prog.info? 30).map (·.size)=some 1:=ae;have hov:∀lb cb,(callFunc 172 #[.slice (some ⟨vb,voff,none⟩) 1 vc,.slice (some ⟨b,off+(i+1),none⟩) lb cb]).run prog w=.ok (.value (.bool false)) w:=λlb cb=>by
  rw[run_callFunc_extern Tryz.func172 ae ae ae (e:=Extern.SlicesOverlaps.overlaps #[67,67] #[4]) ae,
   Lib.run_overlaps_apart w 67 4 30 t67 1 z30 ⟨vb,voff,none⟩ ⟨b,off+(i+1),none⟩ 1 vc lb cb hvb tA tB kA kB hsa hsb hkB hfa hfe]
  rfl
 have hdl:(cs.drop i).length=n-i:=by rw[iW,S1]
 have c8:=cB ((i:Int)+1);have D2:(0:Int)<=(i:Int)+1:=aa;have U2:i<=n:=aa;have htn:((i:Int)+1).toNat=i+1:=aa;have Z6:¬(c=i+1):=aa;have Y':(i:Int)<=(n:Int)+1:=aa;have hb4:¬(c=i):=aa;have hcp1:∀ty dc sc,(Builtin.copy_ #[67,67] ty #[.slice (some ⟨b,off+(i+1),none⟩) (n-i) dc,.slice (some ⟨b,off+i,none⟩) (n+1-i) sc]).run prog w.drew=.ok (goInt (cs.drop i).length) (w.drew.setCells b (off+(i+1)) (cs.drop i)):=λty dc sc=>
  run_copy_cells w.drew _ _ ty 30 b (off+(i+1)) (n-i) dc ⟨b,off+i,none⟩ (n+1-i) sc (cs.drop i) t67 B2 (by rw[hdl];simp only[Nat.min_def];split<;>omega)
   (λj v hj=>by rw[Addr.add_lit,mX];exact M3 (i+j) v (by rwa [iV]at hj))
   (λj hj=>by rw[mX];exact j8 _ aa) (λj hj=>by rw[mX];exact hfz _ aa) (λv hv=>h1c v (HT hv))
 obtain⟨W1,j7⟩:∃W1,W1=w.drew.setCells b (off+(i+1)) (cs.drop i):=⟨_,rfl⟩;have hsp1:∀k,k<n+1->(W1.cell? ⟨b,off+k,none⟩).isSome=true:=λk hk=>by rw[j7];exact isSome_setCellsQ b _ _ _ (λj hj=>by rw[mX];exact j8 _ aa) _ (j8 k hk)
 have hcp2:∀(W:World),(∀x,W.cell? x=W1.cell? x)->(∀x,W.frozen? x=W1.frozen? x)->∀ty dc,(Builtin.copy_ #[67,67] ty #[.slice (some ⟨b,off+i,none⟩) (n+1-i) dc,.slice (some ⟨vb,voff,none⟩) 1 vc]).run prog W=.ok (goInt vs.length) (W.setCells b (off+i) vs):=λW hWc hWf ty dc=>
  run_copy_cells W _ _ ty 30 b (off+i) (n+1-i) dc ⟨vb,voff,none⟩ 1 vc vs t67 B2 (by rw[Z1];simp only[Nat.min_def];split<;>omega)
   (λj v hj=>by rw[Addr.add_lit,hWc,j7,World.cell?_setCells_out b _ _ _ _ (λh _=>absurd h hvb)];exact Q3 j v hj)
   (λj hj=>by rw[hWc,mX];exact hsp1 _ aa) (λj hj=>by rw[hWf,j7,World.frozen?_setCells,mX];exact hfz _ aa) h1v
 rw[<-j7]at hcp1;go_enter Tryz.func147,Tryz.ntmps147
 go_wp2_with (simp only[hov])
 go_region_law_o (refine step_copyQ rfl _ _ 67 67 rfl _ _ (by simp[Act.eval,Act.put]) (by simp[Act.eval,Act.put]) (hcp1 _ _ _) ?_)
 go_wp2_with (at_builtin;refine wpList_copyQ _ rfl _ _ 67 67 rfl _ _ rfl rfl (hcp2 _ (λ_=>rfl) (λ_=>rfl) _ _) ?_)
 go_ret
 first|exact⟨rfl,rfl⟩|exact⟨rfl,by rw[j7]⟩
def insert_grow(b off n c i vb voff vc:Nat)(cs vs:List Value)(w:World)(hi:i<n)(hnc:n<=c)(j6:c<n+1)(Z0:(n+1)*24<=140737488355328)
  (S1:cs.length=n) (Z1:vs.length=1)
  (M3:∀j v,cs[j]?=some v->w.cell? ⟨b,off+j,none⟩=some v)
  (Q3:∀j v,vs[j]?=some v->w.cell? ⟨vb,voff+j,none⟩=some v) (h1c:∀v∈cs,v.oneCell'=true) (h1v:∀v∈vs,v.oneCell'=true):
  Calls prog 147 #[.slice (some ⟨b,off,none⟩) n c,.int .i64 i,.slice (some ⟨vb,voff,none⟩) 1 vc] w λe w'=>
   e=.returned (.slice (some ⟨w.heap.size,0,none⟩) (n+1) (grownCap w (n+1) c 30)) /\
   w'=(((w.alloc (.cells ((cs.take i).toArray++Builtin.zeroCells (Value.slice none 0 0).cells (n+1-i)++Builtin.zeroCells (Value.slice none 0 0).cells (grownCap w (n+1) c 30-(n+1))) 30)).drew.setCells w.heap.size i vs).drew).setCells w.heap.size (i+1) (cs.drop i):=by
 have t67:prog.underlying 67=some (.slice 30):=ae;have t3:prog.underlying 3=some (.int .i64):=ae;have mixed:prog.follows .mixedOrders=true:=ae;obtain⟨i0,A6,h0⟩:∃i0,prog.info? 30=some i0/\(i0.zero,i0.size,i0.bytes)=(some (Value.slice none 0 0),1,24):=Option.map_eq_some_iff.1 (by kernel_rfl:(prog.info? 30).map (λi=>(i.zero,i.size,i.bytes))=some (some (Value.slice none 0 0),1,24));have hz0:i0.zero=some (Value.slice none 0 0):=(uR h0).1;have hzs:i0.size=1:=(uR (uR h0).2).1;have hzb:i0.bytes=24:=(uR (uR h0).2).2;clear h0;have hz3:(c:Int)<(n:Int)+1:=aa;have B2:(prog.info? 30).map (·.size)=some 1:=ae;have hbw:b<w.heap.size:=block_lt_of_cell (M3 0 _ (aA aa));have hvw:vb<w.heap.size:=block_lt_of_cell (Q3 0 _ (aA aa));have z6:(n:Int)+1-(i:Int)=((n+1-i:Nat):Int):=aa;have hik:i+(n+1-i)=n+1:=aa;have hold:(Builtin.firstCells i0.size i (.slice (some ⟨b,off,none⟩) i c)).run prog w.drew=.ok (cs.take i).toArray w.drew:=by
  rw[hzs];exact run_firstCells_some w.drew 1 i ⟨b,off,none⟩ i c (cs.take i) (by rw[dM];omega) (λj v hj=>by
   rw[Addr.add_lit];rw[mW]at hj;split at hj
   ·exact M3 j v hj
   cases hj)
 have hrz:∀ty,(Builtin.append_ #[67,3] ty #[.slice (some ⟨b,off,none⟩) i c,.int .i64 ((n:Int)+1-(i:Int))]).run prog w =
   .ok (.slice (some ⟨w.heap.size,0,none⟩) (n+1) (grownCap w (n+1) c 30)) (w.drew.alloc (.cells ((cs.take i).toArray++Builtin.zeroCells (Value.slice none 0 0).cells (n+1-i)++Builtin.zeroCells (Value.slice none 0 0).cells (grownCap w (n+1) c 30-(n+1))) 30)):=λty=>by
  have h:=Lib.run_append_grow_zeros w 67 3 ty 30 i0 _ .i64 .i64 t67 t3 A6 hz0 (some ⟨b,off,none⟩) i c (cs.take i) hold (n+1-i) aa aa aa aa (by rw[hzb];omega) (by rw[hzb,hik];exact growslice_fits j6 Z0);rw[hik]at h;rw[z6];exact h
 obtain⟨G,hG⟩:∃G,G=grownCap w (n+1) c 30:=⟨_,rfl⟩;obtain⟨ROW,hROW⟩:∃ROW:Array Value,ROW=(cs.take i).toArray++Builtin.zeroCells (Value.slice none 0 0).cells (n+1-i)++Builtin.zeroCells (Value.slice none 0 0).cells (G-(n+1)):=⟨_,rfl⟩;rw[<-hG]at hrz |-;rw[<-hROW]at hrz |-;have hRl:n+1<=ROW.size:=by rw[hROW];simp[Builtin.zeroCells,Value.cells];omega
 obtain⟨W1,j7⟩:∃W1,W1=w.drew.alloc (.cells ROW 30):=⟨_,rfl⟩;rw[<-j7]at hrz;have hN:∀j,j<n+1->(W1.cell? ⟨w.heap.size,j,none⟩).isSome=true:=λj hj=>by rw[j7,World.cell?_alloc_at (w:=w.drew) ROW _ w.heap.size j rfl,sx aa];rfl
 have hNf:∀j,W1.frozen? ⟨w.heap.size,j,none⟩=false:=λj=>by rw[j7];exact World.frozen?_alloc_at (w:=w.drew) ROW _ w.heap.size j rfl
 have hOb:∀j v,w.cell? ⟨b,j,none⟩=some v->W1.cell? ⟨b,j,none⟩=some v:=λj v h=>by rw[j7,World.cell?_alloc_past (w:=w.drew) _ b j hbw];exact h
 have hOv:∀j v,w.cell? ⟨vb,j,none⟩=some v->W1.cell? ⟨vb,j,none⟩=some v:=λj v h=>by rw[j7,World.cell?_alloc_past (w:=w.drew) _ vb j hvw];exact h
 have hcpA:∀(W:World),(∀x,W.cell? x=W1.cell? x)->(∀x,W.frozen? x=W1.frozen? x)->∀ty dc,(Builtin.copy_ #[67,67] ty #[.slice (some ⟨w.heap.size,i,none⟩) (n+1-i) dc,.slice (some ⟨vb,voff,none⟩) 1 vc]).run prog W=.ok (goInt vs.length) (W.setCells w.heap.size i vs):=λW hWc hWf ty dc=>
  run_copy_cells W _ _ ty 30 w.heap.size i (n+1-i) dc ⟨vb,voff,none⟩ 1 vc vs t67 B2 (by rw[Z1];simp only[Nat.min_def];split<;>omega)
   (λj v hj=>by rw[Addr.add_lit,hWc];exact hOv _ v (Q3 j v hj))
   (λj hj=>by rw[hWc];exact hN _ aa) (λj hj=>by rw[hWf];exact hNf _) h1v
 have hGn:n+1<=G:=by rw[hG];exact grownCap_ge w _ _ _
 have hG63:G<=9223372036854775807:=by have:=grownCap_le_maxLen w (n+1) c 30 (by unfold maxLen;omega);rw[<-hG]at this;unfold maxLen at this;omega
 have hGi:¬(G=i):=aa;have hGim:¬(G=i+1):=aa;have M9:¬(c=i):=aa;have hbN:b≠w.heap.size:=aa;have hdl:(cs.drop i).length=n-i:=by rw[iW,S1]
 have hcpB:∀(W:World),(∀x,W.cell? x=(W1.setCells w.heap.size i vs).cell? x)->(∀x,W.frozen? x=(W1.setCells w.heap.size i vs).frozen? x)->∀ty dc sc,(Builtin.copy_ #[67,67] ty #[.slice (some ⟨w.heap.size,i+1,none⟩) (n-i) dc,.slice (some ⟨b,off+i,none⟩) (n-i) sc]).run prog W=.ok (goInt (cs.drop i).length) (W.setCells w.heap.size (i+1) (cs.drop i)):=λW hWc hWf ty dc sc=>
  run_copy_cells W _ _ ty 30 w.heap.size (i+1) (n-i) dc ⟨b,off+i,none⟩ (n-i) sc (cs.drop i) t67 B2 (by rw[hdl];simp only[Nat.min_def];split<;>omega)
   (λj v hj=>by rw[Addr.add_lit,hWc,World.cell?_setCells_out _ _ _ _ _ (λh _=>absurd h hbN),mX];exact hOb _ v (M3 (i+j) v (by rwa [iV]at hj)))
   (λj hj=>by rw[hWc];exact isSome_setCellsQ _ _ _ _ (λt ht=>hN _ aa) _ (hN _ aa))
   (λj hj=>by rw[hWf,World.frozen?_setCells];exact hNf _) (λv hv=>h1c v (HT hv))
 subst j7;have hE1:∀x,((w.alloc (.cells ROW 30)).drew).cell? x=(w.drew.alloc (.cells ROW 30)).cell? x:=λx=>rfl;have hE2:∀x,((w.alloc (.cells ROW 30)).drew).frozen? x=(w.drew.alloc (.cells ROW 30)).frozen? x:=λx=>rfl;have hF1:∀x,(((w.alloc (.cells ROW 30)).drew.setCells w.heap.size i vs).drew).cell? x=((w.drew.alloc (.cells ROW 30)).setCells w.heap.size i vs).cell? x:=λx=>rfl;have hF2:∀x,(((w.alloc (.cells ROW 30)).drew.setCells w.heap.size i vs).drew).frozen? x=((w.drew.alloc (.cells ROW 30)).setCells w.heap.size i vs).frozen? x:=λx=>rfl;have c8:=cB ((i:Int)+1);have D2:(0:Int)<=(i:Int)+1:=aa;have htn:((i:Int)+1).toNat=i+1:=aa;have Y':(i:Int)<=(n:Int):=aa;clear z6 hik hold hROW hG hRl;go_enter Tryz.func147,Tryz.ntmps147
 go_wp2_with (first
  |(at_builtin;refine Lib.wpList_append_run _ rfl _ _ _ _ rfl _ _ rfl rfl _ _ (hrz _) ?_)
  |(at_builtin;refine wpList_copyQ _ rfl _ _ 67 67 rfl _ _ rfl rfl (hcpA _ hE1 hE2 _ _) ?_)
  |(at_builtin;refine wpList_copyQ _ rfl _ _ 67 67 rfl _ _ rfl rfl (hcpB _ (λ_=>rfl) (λ_=>rfl) _ _ _) ?_))
 go_region_law_o (refine step_copyQ rfl _ _ 67 67 rfl (.slice (some ⟨w.heap.size,i+1,none⟩) (n-i) (G-(i+1))) (.slice (some ⟨b,off+i,none⟩) (n-i) (c-i)) (by simp[Act.eval,Act.put]) (by simp[Act.eval,Act.put]) (hcpB _ hF1 hF2 3 (G-(i+1)) (c-i)) ?_)
 go_wp2
 go_ret
 exact⟨rfl,rfl⟩
open Go Go.RowKit Go.Lib Go.Eng
def setCell_row{w:World}{b:Nat}{cur:Array Value}{e:TypeId}{f:Nat×Nat}(o:Nat)(v:Value)(h:w.heap[b]?=some (.cells cur e f)):∃cur':Array Value,(w.setCell ⟨b,o,none⟩ v).heap[b]?=some (.cells cur' e f)/\cur'.size=cur.size:=by rw[setCell_eq_setRow w b o cur e f v h];exact⟨_,setRow_heap w b cur _ e f h,by simp⟩
def setCells_row(b:Nat){e:TypeId}{f:Nat×Nat}:∀(vs:List Value)(o:Nat)(w:World)(cur:Array Value),w.heap[b]?=some (.cells cur e f)->∃cur':Array Value,(w.setCells b o vs).heap[b]?=some (.cells cur' e f)/\cur'.size=cur.size
 |[],_,_,cur,h=>⟨cur,h,rfl⟩
 |v::r,o,w,cur,h=>by obtain⟨c1,h1,h2⟩:=setCell_row o v h;obtain⟨c2,h3,h4⟩:=setCells_row b r (o+1) _ c1 h1;exact⟨c2,h3,h4.trans h2⟩
def setCells_else(b:Nat):∀(vs:List Value)(o:Nat)(w:World),(∀k,k≠b->(w.setCells b o vs).heap[k]?=w.heap[k]?)/\(w.setCells b o vs).heap.size=w.heap.size/\(w.setCells b o vs).os=w.os/\(w.setCells b o vs).tape=w.tape/\(w.setCells b o vs).output=w.output
 |[],_,_=>⟨λ_ _=>rfl,rfl,rfl,rfl,rfl⟩
 |v::r,o,w=>by
  obtain⟨h1,h2,h3,h4,h5⟩:=setCells_else b r (o+1) (w.setCell ⟨b,o,none⟩ v);refine⟨λk hk=>(h1 k hk).trans ?_,h2.trans ?_,h3,h4,h5⟩
  ·simp[World.setCell,Array.getElem?_modify,Ne.symm hk]
  simp[World.setCell]
def cell_of_row{w:World}{b:Nat}{cur:Array Value}{e:TypeId}{f:Nat×Nat}(h:w.heap[b]?=some (.cells cur e f))(k:Nat):w.cell? ⟨b,k,none⟩=cur[k]?:=by unfold World.cell?;simp[h]
def frozen_of_row{w:World}{b:Nat}{cur:Array Value}{e:TypeId}(h:w.heap[b]?=some (.cells cur e (0,0)))(k:Nat):w.frozen? ⟨b,k,none⟩=false:=by unfold World.frozen?;simp[h]
def shape_of_row{w:World}{b:Nat}{cur:Array Value}{e:TypeId}{f:Nat×Nat}(h:w.heap[b]?=some (.cells cur e f)):w.shape? b=some (e,cur.size):=by unfold World.shape?;simp[h]
def insL(cells:List AC)(n i:Nat)(c:AC):List AC:=cells.take i++c::(cells.take n).drop i
def insL_len{cells:List AC}{n i:Nat}(c:AC)(hi:i<n)(hn:n<=cells.length):(insL cells n i c).length=n+1:=by unfold insL;rw[aI,List.length_cons,dM,iW,dM];omega
def insL_at{cells:List AC}{n i k:Nat}{c:AC}(hi:i<n)(hn:n<=cells.length):(insL cells n i c)[k]?=if k<i then cells[k]? else if k=i then some c else if k<=n then cells[k-1]? else none:=by
 unfold insL;have hl:(cells.take i).length=i:=by rw[dM];omega
 by_cases h1:k<i
 ·rw[ad h1,iw aa,tv h1]
 rw[ab h1,lE aa,hl];by_cases h2:k=i
 ·subst h2;rw[ad rfl,ga];rfl
 rw[ab h2];obtain⟨j,rfl⟩:∃j,k=i+1+j:=⟨k-(i+1),aa⟩;rw[show i+1+j-i=j+1 by omega,List.getElem?_cons_succ,iV,mW];by_cases h3:i+1+j<=n
 ·rw[ad h3,ad aa,show i+1+j-1=i+j by omega]
 rw[ab h3,ab aa]
def insA(H:Hp):List AV->Option (AV×Nat×aX)
 |[.one (.o (.sl id g off n sz)),.one (.i k x),.one (.o (.sl vid vg voff vn vsz))]=>
  match H.get id,H.get vid with
  |some (.arr cells e lo gen),some (.arr vc ve vlo vgen)=>
   match vc with
   |[c]=>if((off=0/\sz=1/\k=.i64/\voff=0/\vn=1/\vsz=1/\e=30/\ve=30)/\(g=gen/\lo<=gen/\vg=vgen/\vlo<=vgen/\id≠vid))/\(0<=x/\x.toNat<n/\n<=cells.length/\(n+1)*24<=140737488355328)then
     some (.one (.o (.sl id (gen+1) 0 (n+1) 1)),id,.arr (insL cells n x.toNat c) 30 (gen+1) (gen+1))else none
   |_=>none
  |_,_=>none
 |_=>none
def insH(f:FuncId)(args:List AV)(H:Hp):Option (AV×Nat×aX):=Bool.rec (motive:=λ_=>Option (AV×Nat×aX)) none (insA H args) (Nat.beq f 147)
def insA_some{H:Hp}{args:List AV}{x:AV×Nat×aX}(h:insA H args=some x):∃id vid n i vg vgen lo vlo gen cells c,args=[.one (.o (.sl id gen 0 n 1)),.one (.i .i64 (i:Nat)),.one (.o (.sl vid vg 0 1 1))]/\H.get id=some (.arr cells 30 lo gen)/\H.get vid=some (.arr [c] 30 vlo vgen) /\
  (lo<=gen/\vg=vgen/\vlo<=vgen/\id≠vid/\i<n/\n<=cells.length/\(n+1)*24<=140737488355328)/\x=(.one (.o (.sl id (gen+1) 0 (n+1) 1)),id,.arr (insL cells n i c) 30 (gen+1) (gen+1)):=by
 unfold insA at h;split at h
 ·rename_i id g off n sz k x vid vg voff vn vsz
  split at h
  ·rename_i cells e lo gen vc ve vlo vgen h1 h2
   split at h
   ·rename_i c
    split at h
    ·rename_i hc
     obtain⟨⟨⟨rfl,rfl,rfl,rfl,rfl,rfl,rfl,rfl⟩,rfl,a2,rfl,a4,a5⟩,b1,b2,b3,b4⟩:=hc;obtain⟨i,rfl⟩:∃i:Nat,x=i:=⟨x.toNat,aa⟩;have e1:((i:Int)).toNat=i:=uM i;rw[e1]at b2 h;exact⟨id,vid,n,i,vg,vg,lo,vlo,g,cells,c,rfl,h1,h2,⟨a2,rfl,a4,a5,b2,b3,b4⟩,(eh h).symm⟩
    cases h
   cases h
  cases h
 cases h
section
variable{m:Nat}{β:Pl}{H:Hp}{w:World}
def insH_ok(f:FuncId)(args:List AV)(x:AV×Nat×aX)(h:insH f args H=some x)(hR:Rel m β H w)(vs:List Value)(ha:ARs β args vs)(S0:H.nx<=m):CallsIn Fence.wide 0 prog f vs.toArray w (oC m β H w [(x.1,H.mod x.2.1 x.2.2)]):=by
 unfold insH at h;cases hf:Nat.beq f 147 with
 |false=>rw[hf]at h;cases h
 |true=>
 rw[hf]at h;have:=aO hf;subst this;obtain⟨id,vid,n,i,vg,vgen,lo,vlo,gen,cells,c,rfl,W6,hov,⟨L7,rfl,hvlo,Q0,U2,P8,Z0⟩,rfl⟩:=insA_some h;obtain⟨v0,v1,v2,rfl⟩:∃a b c,vs=[a,b,c]:=by
  match vs,ha with
  |[a,b,c],_=>exact⟨a,b,c,rfl⟩
 obtain⟨⟨p,cap,o',hp,hlen,d_,rfl,hex⟩,h1,⟨q,vcap,ov,hq,hvlen,hvcap,rfl,hvex⟩,_⟩:=ha;have h1:v1=.int .i64 (i:Int):=h1;subst h1;obtain⟨rfl,hpn⟩:=hex.resolve_left aa;obtain⟨rfl,hqn⟩:=hvex.resolve_left aa;simp only[Nat.add_zero,cr,Nat.zero_add]at hlen hvlen hpn hqn;obtain⟨G0,hhi⟩:=nK hR W6 L7 (ai _) hp;obtain⟨vrow,vhi⟩:=nK hR hov hvlo (ai _) hq;have hbne:p.b≠q.b:=λhb=>by
  rcases hR.sep id vid _ _ gen vg p q W6 hov ⟨L7,ai _⟩ ⟨hvlo,ai _⟩ hp hq hb with hh|hh
  ·exact Q0 hh
  cases hh.1
 obtain⟨us,Y4,J',g_⟩:=mU G0.d 0 n aa;obtain⟨vv,Z1,Q3,hvcell⟩:=mU vrow.d 0 1 aa;rw[List.drop_zero]at J' Q3;obtain⟨cv,rfl⟩:∃cv,vv=[cv]:=by
  match vv,Z1 with
  |[a],_=>exact⟨a,rfl⟩
 have hcv:CR β c cv:=Q3.1;obtain⟨cur,c1,c2,c3,c4,c5⟩:=G0;obtain⟨vcur,d1,d2,d3,d4,d5⟩:=vrow;simp only[Nat.add_zero]at g_ hvcell;have M3:∀j v,us[j]?=some v->w.cell? ⟨p.b,p.o+j,none⟩=some v:=λj v hj=>by rw[<-Addr.add_lit];exact g_ j v hj
 have hvs2:∀j v,[cv][j]?=some v->w.cell? ⟨q.b,q.o+j,none⟩=some v:=λj v hj=>by rw[<-Addr.add_lit];exact hvcell j v hj
 have L5:β id (gen+1)=none:=(hR.obj id _ W6).2.2.2 (gen+1) aa;have h1v:∀v∈[cv],v.oneCell'=true:=λv hv=>by rw[List.mem_singleton.1 hv];exact hcv.kJ
 have Z7:∀k x,k<n+1->(insL cells n i c)[k]?=some x->(k<i/\∃v,us[k]?=some v/\CR β x v)\/(k=i/\x=c)\/(i<k/\∃v,us[k-1]?=some v/\CR β x v):=λk x hk hx=>by
  have D3:∀j y,j<n->cells[j]?=some y->∃v,us[j]?=some v/\CR β y v:=λj y hj hy=>by have B0:j<us.length:=aa;exact⟨us[j],aA B0,J'.get j y _ (by rw[tv hj];exact hy) (aA B0)⟩
  rw[insL_at U2 P8]at hx;by_cases a1:k<i
  ·rw[ad a1]at hx;exact .inl ⟨a1,D3 k x aa hx⟩
  rw[ab a1]at hx;by_cases a2:k=i
  ·rw[ad a2]at hx;cases hx;exact .inr (.inl ⟨a2,rfl⟩)
  rw[ab a2,ad aa]at hx;exact .inr (.inr ⟨aa,D3 (k-1) x aa hx⟩)
 have hlenL:=insL_len c U2 P8;by_cases j6:n+1<=cap
 ·refine(callsIn_wide (n:=0)).2 ((insert_shift p.b p.o n cap i q.b q.o vcap us [cv] w U2 j6 Z0 (Ne.symm hbne) Y4 rfl M3 (λj hj=>?_) (λj _=>frozen_of_row c1 _) hvs2 J'.kJ h1v 30 30 vcur.size cur.size (shape_of_row d1) (shape_of_row c1) aa (frozen_of_row d1 _) (frozen_of_row d1 _)).mono λe w' he=>?_)
  ·rw[cell_of_row c1,sx aa];rfl
  obtain⟨rfl,rfl⟩:=he;have M0:w.drew.heap[p.b]?=some (.cells cur 30 (0,0)):=c1;obtain⟨cur1,r1,r2⟩:=setCells_row p.b (us.drop i) (p.o+(i+1)) w.drew cur M0;obtain⟨cur2,r3,r4⟩:=setCells_row p.b [cv] (p.o+i) _ cur1 r1;obtain⟨e1,e2,e3,e4,e5⟩:=setCells_else p.b (us.drop i) (p.o+(i+1)) w.drew;obtain⟨g1,g2,g3,g4,g5⟩:=setCells_else p.b [cv] (p.o+i) (w.drew.setCells p.b (p.o+(i+1)) (us.drop i));have hdl:(us.drop i).length=n-i:=by rw[iW,Y4]
  have p9:∀j,j<n+1->(w.drew.cell? ⟨p.b,p.o+j,none⟩).isSome=true:=λj hj=>by rw[cell_of_row M0,sx aa];rfl
  have E3:jQ β ((w.drew.setCells p.b (p.o+(i+1)) (us.drop i)).setCells p.b (p.o+i) [cv]) (insL cells n i c) 30 ⟨p.b,p.o,p.n,n+1⟩:=by
   refine⟨cur2,r3,by show cur2.size=p.n;omega,by show p.o+(n+1)<=p.n;omega,by show n+1<=_;omega,λk x hk hx=>?_⟩;have hk:k<n+1:=hk;show∃v,cur2[p.o+k]?=some v/\CR β x v
   rw[<-cell_of_row r3];rcases Z7 k x hk hx with⟨a1,v,hv,hr⟩|⟨rfl,rfl⟩|⟨a1,v,hv,hr⟩
   ·refine⟨v,?_,hr⟩;rw[World.cell?_setCells_out p.b _ _ _ _ (λ_ _=>by show p.o+k<p.o+i\/_;omega),World.cell?_setCells_out p.b _ _ _ _ (λ_ _=>by show p.o+k<p.o+(i+1)\/_;omega)];exact M3 k v hv
   ·refine⟨cv,?_,hcv⟩;have:=World.cell?_setCells_in p.b [cv] (p.o+k) (w.drew.setCells p.b (p.o+(k+1)) (us.drop k)) (λj hj=>?_) 0 (by simp)
    ·exact this
    have hj:j<1:=hj;rw[World.cell?_setCells_out p.b _ _ _ _ (λ_ _=>by show p.o+k+j<p.o+(k+1)\/_;omega),show p.o+k+j=p.o+(k+j) by omega];exact p9 (k+j) aa
   refine⟨v,?_,hr⟩;rw[World.cell?_setCells_out p.b _ _ _ _ (λ_ _=>by show p.o+k<p.o+i\/p.o+i+1<=p.o+k;omega)];have hj:k-(i+1)<(us.drop i).length:=aa;have:=World.cell?_setCells_in p.b (us.drop i) (p.o+(i+1)) w.drew (λj hj=>by rw[show p.o+(i+1)+j=p.o+(i+1+j) by omega];exact p9 _ aa) (k-(i+1)) hj;rw[show p.o+(i+1)+(k-(i+1))=p.o+k by omega]at this;rw[this];have e:(us.drop i)[k-(i+1)]?=some v:=by rw[iV,show i+(k-(i+1))=k-1 by omega];exact hv
   rw[aA hj]at e;exact e
  refine⟨_,rfl,Out.one (β':=plus β id (gen+1) ⟨p.b,p.o,p.n,n+1⟩) ⟨⟨p.b,p.o,p.n,n+1⟩,cap,_,bm _ _ _ _,by show 0+(n+1)*1<=n+1;omega,j6,rfl,.inr ⟨rfl,by show p.o+0+cap*1<=p.n;omega⟩⟩
   (lX hR (ai _) S0 W6 (.arr (insL cells n i c) 30 (gen+1) (gen+1)) (jG L5) (λj hj k=>cD _ _ _ _ (λh=>hj h.1)) (by rw[g2,e2];exact ai _) (g3.trans e3) (g4.trans e4) (g5.trans e5)
    (λb _ hb=>by have hbp:b≠p.b:=λhh=>hb gen p ⟨L7,ai _⟩ hp hh.symm;rw[g1 b hbp,e1 b hbp];rfl)
    (te (hR.obj id _ W6) E3 hlenL.symm)
    (λk r hk hr=>.inr (by
     have X3:k=gen+1:=by have:=hk.1;have:=hk.2;omega
     subst X3;rw[bm]at hr;cases hr;exact⟨gen,p,⟨L7,ai _⟩,hp,rfl⟩)))⟩
 refine(callsIn_wide (n:=0)).2 ((insert_grow p.b p.o n cap i q.b q.o vcap us [cv] w U2 d_ aa Z0 Y4 rfl M3 hvs2 J'.kJ h1v).mono λe w' he=>?_);obtain⟨rfl,rfl⟩:=he;generalize hG:grownCap w (n+1) cap 30=G;have hGn:n+1<=G:=by rw[<-hG];exact grownCap_ge w _ _ _
 generalize hROW:(us.take i).toArray++Builtin.zeroCells (Value.slice none 0 0).cells (n+1-i)++Builtin.zeroCells (Value.slice none 0 0).cells (G-(n+1))=ROW;have hRsz:ROW.size=G:=by rw[<-hROW];simp only[Array.size_append,sA,dM,ur];have:(Value.slice none 0 0).cells.size=1:=rfl;rw[this];omega
 have hRat:∀k,k<i->ROW[k]?=us[k]?:=λk hk=>by rw[<-hROW,Array.append_assoc,HJ (by rw[sA,dM];omega),Ad,tv hk]
 let w1:=(w.alloc (.cells ROW 30)).drew
 have c8:w1.heap[w.heap.size]?=some (.cells ROW 30 (0,0)):=by show(w.heap.push _)[w.heap.size]?=_;rw[HI]
 obtain⟨cur1,r1,r2⟩:=setCells_row w.heap.size [cv] i w1 ROW c8;have r1':(w1.setCells w.heap.size i [cv]).drew.heap[w.heap.size]?=some (.cells cur1 30 (0,0)):=r1;obtain⟨cur2,r3,r4⟩:=setCells_row w.heap.size (us.drop i) (i+1) _ cur1 r1';obtain⟨e1,e2,e3,e4,e5⟩:=setCells_else w.heap.size [cv] i w1;obtain⟨g1,g2,g3,g4,g5⟩:=setCells_else w.heap.size (us.drop i) (i+1) (w1.setCells w.heap.size i [cv]).drew;have hsz1:w1.heap.size=w.heap.size+1:=by show(w.heap.push _).size=_;simp
 have hdl:(us.drop i).length=n-i:=by rw[iW,Y4]
 have p9:∀j,j<n+1->(w1.cell? ⟨w.heap.size,j,none⟩).isSome=true:=λj hj=>by rw[cell_of_row c8,sx aa];rfl
 have E3:jQ β ((w1.setCells w.heap.size i [cv]).drew.setCells w.heap.size (i+1) (us.drop i)) (insL cells n i c) 30 ⟨w.heap.size,0,G,n+1⟩:=by
  refine⟨cur2,r3,by show cur2.size=G;omega,by show 0+(n+1)<=G;omega,by show n+1<=_;omega,λk x hk hx=>?_⟩;have hk:k<n+1:=hk;show∃v,cur2[0+k]?=some v/\CR β x v
  rw[Nat.zero_add,<-cell_of_row r3];have hdrew:∀a,((w1.setCells w.heap.size i [cv]).drew).cell? a=(w1.setCells w.heap.size i [cv]).cell? a:=λ_=>rfl;rcases Z7 k x hk hx with⟨a1,v,hv,hr⟩|⟨rfl,rfl⟩|⟨a1,v,hv,hr⟩
  ·refine⟨v,?_,hr⟩;rw[World.cell?_setCells_out _ _ _ _ _ (λ_ _=>by show k<i+1\/_;omega),hdrew,World.cell?_setCells_out _ _ _ _ _ (λ_ _=>by show k<i\/_;omega),cell_of_row c8,hRat k a1];exact hv
  ·refine⟨cv,?_,hcv⟩;rw[World.cell?_setCells_out _ _ _ _ _ (λ_ _=>by show k<k+1\/_;omega),hdrew];exact World.cell?_setCells_in w.heap.size [cv] k w1 (λj hj=>p9 (k+j) (by have hj:j<1:=hj;omega)) 0 (by simp)
  refine⟨v,?_,hr⟩;have hj:k-(i+1)<(us.drop i).length:=aa;have:=World.cell?_setCells_in w.heap.size (us.drop i) (i+1) (w1.setCells w.heap.size i [cv]).drew (λj hj=>by rw[hdrew,World.cell?_setCells_out _ _ _ _ _ (λ_ _=>by show i+1+j<i\/i+1<=i+1+j;omega)];exact p9 _ aa) (k-(i+1)) hj
  rw[show i+1+(k-(i+1))=k by omega]at this;rw[this];have e:(us.drop i)[k-(i+1)]?=some v:=by rw[iV,show i+(k-(i+1))=k-1 by omega];exact hv
  rw[aA hj]at e;exact e
 refine⟨_,rfl,Out.one (β':=plus β id (gen+1) ⟨w.heap.size,0,G,n+1⟩) ⟨⟨w.heap.size,0,G,n+1⟩,G,_,bm _ _ _ _,by show 0+(n+1)*1<=n+1;omega,hGn,rfl,.inr ⟨rfl,by show 0+0+G*1<=G;omega⟩⟩
  (lX hR (ai _) S0 W6 (.arr (insL cells n i c) 30 (gen+1) (gen+1)) (jG L5) (λj hj k=>cD _ _ _ _ (λh=>hj h.1)) (by rw[g2];show w.heap.size<=(w1.setCells w.heap.size i [cv]).heap.size;omega) (g3.trans e3) (g4.trans e4) (g5.trans e5)
   (λb hb _=>by have hbp:b≠w.heap.size:=aa;rw[g1 b hbp];show(w1.setCells w.heap.size i [cv]).heap[b]?=_;rw[e1 b hbp];show(w.heap.push _)[b]?=_;rw[Array.getElem?_push_lt hb,sx hb])
   (te (hR.obj id _ W6) E3 hlenL.symm)
   (λk r hk hr=>.inl (by
    have X3:k=gen+1:=by have:=hk.1;have:=hk.2;omega
    subst X3;rw[bm]at hr;cases hr;exact ai _)))⟩
end
open Go Go.RowKit Go.Eng
def JZ(c:UInt8):Bool:=Bool.rec (motive:=λ_=>Bool) (Bool.rec (motive:=λ_=>Bool) (both (Nat.ble 48 c.toNat) (Nat.ble c.toNat 57)) true (both (Nat.ble 97 c.toNat) (Nat.ble c.toNat 122))) true (Nat.beq c.toNat 95)
def Pq(l:List UInt8):Bool:=List.rec (motive:=λ_=>Bool) true (λc _ ih=>both (JZ c) ih) l
def Ka(l:List UInt8):Bool:=List.rec (motive:=λ_=>Bool) false (λc l' _=>both (both (Nat.ble 97 c.toNat) (Nat.ble c.toNat 122)) (both (Nat.ble (Rs l') 15) (Pq l'))) l
def Oj(a b:Nat):Nat.ble a b=decide (a<=b):=by
 by_cases h:a<=b
 ·rw[bp h];exact bU h
 rw[bJ h];cases hb:Nat.ble a b with
 |false=>rfl
 |true=>exact absurd (bA hb) h
def Yd(a b:Nat):Nat.beq a b=decide (a=b):=by
 by_cases h:a=b
 ·subst h;rw[cZ];simp
 rw[bJ h];cases hb:Nat.beq a b with
 |false=>rfl
 |true=>exact absurd (aO hb) h
def VH(c:UInt8):JZ c=okB c:=by
 have e:JZ c=(Nat.beq c.toNat 95||(both (Nat.ble 97 c.toNat) (Nat.ble c.toNat 122)||both (Nat.ble 48 c.toNat) (Nat.ble c.toNat 57))):=by unfold JZ;cases Nat.beq c.toNat 95<;>cases both (Nat.ble 97 c.toNat) (Nat.ble c.toNat 122)<;>rfl
 rw[e];simp only[er,Oj,Yd];unfold okB;rw[ix];simp[sE,<-UInt8.toNat_inj];omega
def JY:∀l:List UInt8,Pq l=l.all okB
 |[]=>rfl
 |c::l=>by show both (JZ c) (Pq l)=_;rw[er,VH,JY l];rfl
def Kb(l:List UInt8):Ka l=nmB l:=by
 cases l with
 |nil=>rfl
 |cons c l=>
  have e:Ka (c::l)=both (both (Nat.ble 97 c.toNat) (Nat.ble c.toNat 122)) (both (Nat.ble (Rs l) 15) (Pq l)):=rfl;rw[e,JY,GN];simp only[er,Oj];unfold nmB;rw[ix];have h2:okB c=true\/¬(97<=c.toNat/\c.toNat<=122):=by
   by_cases h:97<=c.toNat/\c.toNat<=122
   ·exact .inl ((GX c).2 (.inr (.inl ⟨aa,aa⟩)))
   exact .inr h
  simp only[List.isEmpty_cons,Bool.not_false,List.length_cons,List.all_cons,aV,bI,sE,true_and];have e1:(97:UInt8).toNat=97:=rfl;have e2:(122:UInt8).toNat=122:=rfl;rw[e1,e2];constructor
  ·rintro⟨⟨a,b⟩,c,d⟩;exact⟨⟨aa,a,b⟩,h2.resolve_right (λh=>h ⟨a,b⟩),d⟩
  rintro⟨⟨a,b,c⟩,d,e⟩;exact⟨⟨b,c⟩,aa,e⟩
def KA(f:FuncId)(args:List AV):Option AV:=
 Bool.rec (motive:=λ_=>Option AV) none (List.rec (motive:=λ_=>Option AV) none (λx l _=>Bool.rec (motive:=λ_=>Option AV) none (lC x none λs=>some (.one (.b (Ka s)))) (RH l)) args) (Nat.beq f 63)
def E1:Env:={ P:=prog,fJ:=KA }
def MV{f:FuncId}{args:List AV}{v:AV}(h:KA f args=some v):f=63/\∃s,args=[.one (.o (.str s))]/\v=.one (.b (nmB s)):=by
 unfold KA at h;cases hf:Nat.beq f 63 with
 |false=>rw[hf]at h;cases h
 |true=>
  rw[hf]at h;refine⟨aO hf,?_⟩;cases args with
  |nil=>cases h
  |cons x l=>
   cases l with
   |cons _ _=>cases h
   |nil=>
    cases x with
    |one c=>
     cases c with
     |o q=>
      cases q with
      |str s=>
       have h':some (AV.one (.b (Ka s)))=some v:=h;cases h'
       exact⟨s,rfl,by rw[Kb]⟩
      |_=>cases h
     |b _=>cases h
     |i _ _=>cases h
    |agg _=>cases h
    |tup _=>cases h
    |any=>cases h
def VI:prog.funcs.toList.all (λfn=>!(fn.name == "runtime.NumGoroutine"))=true:=ae
def Ps(f:FuncId)(fn:Func)(h:prog.funcs[f]?=some fn)(_:fn.body.isSome=true):(fn.name == "runtime.NumGoroutine")=false:=by
 have h1:=List.all_eq_true.1 VI fn (by have:=Array.mem_of_getElem? h;simpa using this)
 simpa using h1
def JU:prog.follows .mixedOrders=true:=ae
def KB(f:FuncId)(args:List AV)(v:AV)(h:KA f args=some v)(β:Pl)(vs:List Value)(w:World)(ha:ARs β args vs):
  CallsIn Fence.wide 0 prog f vs.toArray w λe w'=>∃u,e=.returned u/\AR β v u/\w'.os=w.os/\w'.tape=w.tape/\w'.output=w.output/\w.heap.size<=w'.heap.size/\∀b,b<w.heap.size->w'.heap[b]?=w.heap[b]?:=by
 obtain⟨rfl,s,rfl,rfl⟩:=MV h;cases vs with
 |nil=>exact ha.elim
 |cons x vs=>
  cases vs with
  |cons _ _=>exact ha.2.elim
  |nil=>have hx:x=.string ⟨s.toArray⟩:=ha.1;subst hx;refine(callsIn_wide (n:=0)).2 ((Mt ⟨s.toArray⟩ w).mono λe w' he=>?_);obtain⟨rfl,rfl⟩:=he;exact⟨_,rfl,rfl,rfl,rfl,rfl,ai _,λ_ _=>rfl⟩
def Oy:uU E1:=uU.of3 Ps JU KB
open Go Go.Eng
def wkO:List (Nat×Go.Eng.aX):=
 [(7,.oth (.map [⟨.one (.o (.str [99,111,117,110,116])),.one (.i .i64 0),0⟩,⟨.one (.o (.str [98,105,115,101,120])),.one (.i .i64 1),1⟩,⟨.one (.o (.str [103,114,97,105,110])),.one (.i .i64 2),2⟩,⟨.one (.o (.str [97,114,101,97])),.one (.i .i64 3),3⟩,⟨.one (.o (.str [116,105,109,101])),.one (.i .i64 4),4⟩,⟨.one (.o (.str [119,101,105,103,104,116])),.one (.i .i64 5),5⟩] 6)),
  (8,.arr [.o (.sl 33 5 0 6 2),.o (.mp 7),.o (.sl 35 5 0 6 1),.o (.sl 37 5 0 6 2)] 106 0 0),
  (31,.arr [.o (.str [110,48,49]),.i .i64 1,.o (.str [110,49,52]),.i .i64 10,.o (.str [110,51,52]),.i .i64 6,.o (.str [110,52,56]),.i .i64 10,.o (.str [110,52,53]),.i .i64 6,.o (.str [110,53,48]),.i .i64 10] 133 0 0),
  (33,.arr [.o (.str [99,111,117,110,116]),.o (.sl 31 0 0 6 2),.o (.str [98,105,115,101,120]),.o (.sl 60 0 0 6 2),.o (.str [103,114,97,105,110]),.o (.sl 86 0 0 6 2),.o (.str [97,114,101,97]),.o (.sl 110 0 0 5 2),.o (.str [116,105,109,101]),.o (.sl 132 0 0 4 2),.o (.str [119,101,105,103,104,116]),.o (.sl 160 0 0 7 2)] 51 0 5),
  (35,.arr [.i .i64 0,.i .i64 1,.i .i64 2,.i .i64 3,.i .i64 4,.i .i64 5] 3 0 5),
  (37,.arr [.o .nilS,.o .nilS,.o .nilS,.o .nilS,.o .nilS,.o .nilS,.o .nilS,.o .nilS,.o .nilS,.o .nilS,.o .nilS,.o .nilS] 116 0 5),
  (60,.arr [.o (.str [110,48,49]),.i .i64 1,.o (.str [110,49,52]),.i .i64 10,.o (.str [110,51,52]),.i .i64 6,.o (.str [110,53,49]),.i .i64 2,.o (.str [110,53,52]),.i .i64 10,.o (.str [110,53,54]),.i .i64 6] 133 0 0),
  (86,.arr [.o (.str [110,51,57]),.i .i64 1,.o (.str [110,48,49]),.i .i64 5,.o (.str [110,49,52]),.i .i64 6,.o (.str [110,52,53]),.i .i64 10,.o (.str [110,52,56]),.i .i64 3,.o (.str [110,51,52]),.i .i64 10] 133 0 0),
  (110,.arr [.o (.str [110,48,49]),.i .i64 1,.o (.str [110,50,50]),.i .i64 6,.o (.str [110,49,52]),.i .i64 3,.o (.str [110,53,48]),.i .i64 10,.o (.str [110,52,53]),.i .i64 6] 133 0 0),
  (132,.arr [.o (.str [110,48,56]),.i .i64 1,.o (.str [110,49,56]),.i .i64 10,.o (.str [110,48,49]),.i .i64 3,.o (.str [110,53,55]),.i .i64 12] 133 0 0),
  (160,.arr [.o (.str [115,122,101]),.i .i64 1,.o (.str [115,122,101,117]),.i .i64 10,.o (.str [103,105,110]),.i .i64 18,.o (.str [103,105,110,117]),.i .i64 10,.o (.str [109,97,110,97]),.i .i64 6,.o (.str [109,97,110,97,117]),.i .i64 10,.o (.str [103,117,110]),.i .i64 6] 133 0 0),
  (312,.arr [.i .i64 2,.o (.str [110,49,52]),.b false] 209 0 1),
  (314,.arr [.i .i64 0,.o (.str [98,97,114,108,101,121]),.o (.str [103,114,97,105,110]),.o (.sl 312 1 0 1 3),.o .nilS,.i .i64 1,.o (.str [101,119,101,115]),.o (.str [99,111,117,110,116]),.o (.sl 323 1 0 1 3),.o .nilS,.i .i64 2,.o (.str [114,97,109,115]),.o (.str [99,111,117,110,116]),.o (.sl 333 1 0 1 3),.o .nilS,.i .i64 3,.o (.str [102,108,111,99,107]),.o (.str [99,111,117,110,116]),.o (.sl 344 1 0 1 3),.o .nilS,.i .i64 4,.o (.str [98,97,114,108,101,121]),.o (.str [103,114,97,105,110]),.o (.sl 360 1 0 1 3),.o .nilS,.i .i64 5,.o (.str [101,119,101,115]),.o (.str [99,111,117,110,116]),.o (.sl 369 1 0 1 3),.o .nilS,.i .i64 6,.o (.str [98,97,114,108,101,121]),.o (.str [103,114,97,105,110]),.o (.sl 377 1 0 1 3),.o .nilS,.i .i64 7,.o (.str [102,108,111,99,107]),.o (.str [99,111,117,110,116]),.o (.sl 397 1 0 1 3),.o .nilS] 58 0 7),
  (323,.arr [.i .i64 3,.o (.str [110,48,49]),.b false] 209 0 1),
  (333,.arr [.i .i64 4,.o (.str [110,48,49]),.b false] 209 0 1),
  (344,.arr [.i .i64 7,.o (.str [110,48,49]),.b false] 209 0 1),
  (350,.arr [.i .i64 1,.i .i64 2] 3 0 1),
  (354,.arr [.i .i64 3,.o (.sl 350 1 0 2 1),.i .i64 6,.o (.sl 382 1 0 2 1),.i .i64 7,.o (.sl 403 2 0 3 1)] 82 0 2),
  (360,.arr [.i .i64 1,.o (.str [110,49,52]),.b false] 209 0 1),
  (369,.arr [.i .i64 2,.o (.str [110,48,49]),.b false] 209 0 1),
  (377,.arr [.i .i64 3,.o (.str [110,49,52]),.b false] 209 0 1),
  (382,.arr [.i .i64 0,.i .i64 4] 3 0 1),
  (397,.arr [.i .i64 1,.o (.str [110,49,52]),.b false] 209 0 1),
  (403,.arr [.i .i64 1,.i .i64 2,.i .i64 5] 3 0 2),
  (411,.arr [.o (.sl 314 7 0 8 5),.o (.sl 354 2 0 3 2)] 26 0 0)]
def wk1:Go.Eng.Mark:=
 ⟨[(0,.one (.b false)),
  (1,.one (.o (.ptr 8 0 0 4))),
  (2,.one (.i .i64 (.ofNat 0))),
  (3,.one (.o (.ptr 411 0 0 2))),
  (4,.one (.i .i64 (.ofNat 0)))]++(List.range' 12 12).map (λi=>(i,.any)),
  wkO,412⟩
def wk2:Go.Eng.Mark:=
 ⟨[(0,.one (.b false)),
  (1,.one (.o (.ptr 8 0 0 4))),
  (2,.one (.i .i64 (.ofNat 0))),
  (3,.one (.o (.ptr 411 0 0 2))),
  (4,.one (.i .i64 (.ofNat 0))),
  (5,.one (.o (.sl 573 7 0 8 1))),
  (6,.any),
  (7,.any),
  (8,.one (.i .i64 (.ofNat 0)))]++(List.range' 12 108).map (λi=>(i,.any)),
  wkO++[(573,.arr [.i .i64 60,.i .i64 3,.i .i64 4,.i .i64 7,.i .i64 30,.i .i64 2,.i .i64 90,.i .i64 10] 3 0 7)],1251⟩
def wk3:Go.Eng.Mark:=
 ⟨[(0,.one (.b false)),
  (1,.one (.o (.ptr 8 0 0 4))),
  (2,.one (.i .i64 (.ofNat 0))),
  (3,.one (.o (.ptr 411 0 0 2))),
  (4,.any),
  (5,.one (.o (.sl 573 7 0 8 1)))]++(List.range' 6 174).map (λi=>(i,.any)),
  wkO++[(573,.arr [.i .i64 60,.i .i64 3,.i .i64 4,.i .i64 7,.i .i64 30,.i .i64 2,.i .i64 90,.i .i64 10] 3 0 7)],3209⟩
def wk0:Go.Eng.Mark:=⟨[],[],0⟩
def acL:piece E1 3000 11 0 3 wk0 wk1=true:=ae
def acM:piece E1 3000 11 3 5 wk1 wk2=true:=ae
def acN:piece E1 3000 11 8 4 wk2 wk3=true:=ae
def ZN:EC E1 3000 11 12 wk3=true:=ae
def Nw:(mz E1.P 11).length=15:=ae
def Xw(w:World):Calls prog 11 #[] w (NW w):=by have hf:E1.P.funcs[11]?=some Tryz.f11:=Tryz.func11;refine CU (E:=E1) hf ae ae ?_;refine BZ (E:=E1) Oy acL (by rw[Nw];decide) ?_;refine BZ (E:=E1) Oy acM (by rw[Nw];decide) ?_;refine BZ (E:=E1) Oy acN (by rw[Nw];decide) ?_;exact YL (E:=E1) Oy hf ZN
open Go.ChangeShapes Go.WideShapes Go.ChangeAt Go.RowKit Go.Eng
def yw{w w':World}(h:Eng.Grown w w'):Below w.heap.size w w':=⟨h.1,h.2.1,h.2.2.1,h.2.2.2.1,h.2.2.2.2⟩
section
variable{H:Type}{enc:TypeId×Value->H}{P:Program}
def Ve{f:Func}{s:ChangeSpec}{apart fresh handsOn again:Bool}{W W':World}{args:Array Value}{ds:List (DataW H)}{pa:List MemPlace}(hv:s.vars=[])
  (hW:DataW.Whole enc P f.params.toList s.vars apart W args.toList ds [] pa) {t:TypeId} (ht:f.resultTypes=#[t]) (hu:P.underlying t=some .bool)
  (hr:(s.fn H (ds++[])).results=[.lit (.bool true)]) (ha:(s.fn H (ds++[])).args=ds) (Q3:(s.fn H (ds++[])).vars=[])
  (hb:Below W.heap.size W W') (E7:∀sp:Nat->Bool,(∀p∈pa,sp p.block=true)->DataW.TrodAll enc P W' 0 sp true f.params.toList args.toList ds pa):
  s.post enc P f apart fresh handsOn again W args (.bool true) W':=by
 have below:∀p∈pa,p.block<W.heap.size:=λp hp=>hW.lt p hp;have old:∀p∈pa,(λb=>decide (b<W.heap.size)) p.block=true:=λp hp=>by simpa using below p hp
 have res:∀(b:Nat)(sp:Nat->Bool)(hd:Bool),DataW.TrodAll enc P W' b sp hd f.resultTypes.toList ((Value.bool true).resultList f.resultTypes.size) (s.fn H (ds++[])).results []:=λb sp hd=>by rw[hr,ht];exact trodAll_mk1 (shut_bool hu true)
 have vars:∀sp:Nat->Bool,DataW.TrodVars enc P W' sp s.vars (s.fn H (ds++[])).vars []:=λsp=>by rw[hv,Q3];rfl
 have okr:∀(j:Nat)(t:TypeId)(r:Value),f.resultTypes[j]?=some t->((Value.bool true).resultList f.resultTypes.size)[j]?=some r->Value.okWide P W' .any 0 t r:=by exact ok_one ht rfl (okWide_bool_mk hu true)
 have args':∀sp:Nat->Bool,(∀p∈pa,sp p.block=true)->DataW.TrodAll enc P W' 0 sp true f.params.toList args.toList (s.fn H (ds++[])).args pa:=λsp h=>by rw[ha];exact E7 sp h
 refine⟨ds,[],pa,[],pa,[],hW,res _ _ _,args' _ old,vars _,World.keptBut_mono (λp hp=>⟨hp,.inr (.inl hp)⟩) (hb.frame (·∈pa)),λ_=>?_⟩;obtain⟨_,_,_,_,_,hz,hn⟩:=hW;refine⟨okr,_,_,([]++pa)++[],⟨[]++pa,[],trodAll_append (args' _ (λ_ _=>rfl)) (res _ _ _),vars _,rfl,?_,?_⟩,?_⟩
 ·intro b off hp;have U2:MemPlace.cell b off∈pa:=by simpa using hp
  rw[hb.frozen (below _ U2)];exact hz b off (by simpa using U2)
 ·intro hh;have:=hn hh;simpa using this
 intro p hp _;simpa using hp
end
def Wa(f:FuncId)(args:List AV):Option AV:=
 Bool.rec (motive:=λ_=>Option AV) (KA f args) (Bool.rec (motive:=λ_=>Option AV) none (some (.one (.b true))) (RH args)) (Nat.beq f 11)
def E2:Env:={ P:=prog,fJ:=Wa,eN:=insH,jn:=λid=>Nat.beq id 2 }
def Wb(f:FuncId)(args:List AV)(v:AV)(h:Wa f args=some v)(β:Pl)(vs:List Value)(w:World)(ha:ARs β args vs):
  CallsIn Fence.wide 0 prog f vs.toArray w λe w'=>∃u,e=.returned u/\AR β v u/\w'.os=w.os/\w'.tape=w.tape/\w'.output=w.output/\w.heap.size<=w'.heap.size/\∀b,b<w.heap.size->w'.heap[b]?=w.heap[b]?:=by
 unfold Wa at h;cases hf:Nat.beq f 11 with
 |false=>rw[hf]at h;exact KB f args v h β vs w ha
 |true=>
  rw[hf]at h;have:=aO hf;subst this;cases args with
  |cons _ _=>cases h
  |nil=>
   cases h
   cases vs with
   |cons _ _=>exact ha.elim
   |nil=>refine(callsIn_wide (n:=0)).2 ((Xw w).mono λe w' he=>?_);obtain⟨rfl,h1,h2,h3,h4,h5⟩:=he;exact⟨_,rfl,rfl,h1,h2,h3,h4,h5⟩
def ab4:uU E2:=⟨Ps,JU,Wb,λf args x h hR vs ha S0=>insH_ok f args x h hR vs ha S0⟩
def Tryz.own:ownKnob prog.godebug=none:=ae
end Go.Proofs.YtgepceljhelekaaGreat
end
