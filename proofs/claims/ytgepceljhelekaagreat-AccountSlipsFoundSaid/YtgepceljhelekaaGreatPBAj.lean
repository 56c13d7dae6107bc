/- A part of the proof. -/
import Derived.Test.YtgepceljhelekaaGreatPBAi
import Derived.Sort.LotD5
import Derived.KernelRfl
import Derived.Sort.LotA
import Derived.Sort.LotB
import Derived.Sort.LotD3
set_option maxRecDepth 100000
set_option maxHeartbeats 64000000
set_option linter.all false
open Go.Proofs.Tryz (prog)
namespace Go.Proofs.YtgepceljhelekaaGreat
open Go Go.Eng
def Sq:aq prog 186=true:=ae
def tu:aq prog 71=true:=ae
def zP:aq prog 126=true:=ae
def EO:aq prog 158=true:=ae
def EN:aq prog 159=true:=ae
def Si:aq prog 184=true:=ae
def tyU:=zDm tyF FC Gn GQ EE FB Gm GP ED yz yQ (zDg zq yg Oe MW arQ Wt)
def cvQ{s t:TypeId}{ks kt:IntKind}(hs:prog.underlying s=some (.int ks))(ht:prog.underlying t=some (.int kt)):(∀(tm:PT AV)(H:Hp)(d:Option Tmp)(ty:TypeId)(pos:String)(af:Array Edge)(g:Option (Nat×Bool))(x:Operand),aA prog tm H ⟨d,.convert s t x,ty,pos,af,g⟩=Qh (λ_ a=>.i kt (kt.wrap a)) H (cu prog tm H ⟨d,.convert s t x,ty,pos,af,g⟩) (ev tm x)) /\
  (∀(H:Hp)(alt:aj)(k:IntKind)(a:Int),Qh (λ_ a=>.i kt (kt.wrap a)) H alt (.one (.i k a))=.val (.one (.i kt (kt.wrap a))) H):=⟨λ_ _ _ _ _ _ _ _=>Bm hs ht,λ_ _ _ _=>rfl⟩
def ixS:(∀{st:Bool}{E:Env}{A:ag}{d:Option Tmp}{H:Hp}{next:ag->Hp->Prop}{ty:TypeId}{pos:String}{af:Array Edge}{gd:Option (Nat×Bool)}{t:TypeId}{x i:Operand},SK st E ⟨d,.index t x i,ty,pos,af,gd⟩ A H next=vN next A d (iK H (mJ E.P t) (ev A.tm x) (ev A.tm i) (aA E.P A.tm H ⟨d,.index t x i,ty,pos,af,gd⟩)))/\mJ prog 9=true /\
  (∀{st:Bool}{E:Env}{A:ag}{d:Option Tmp}{H:Hp}{next:ag->Hp->Prop}{ty:TypeId}{pos:String}{af:Array Edge}{gd:Option (Nat×Bool)}{a b:TypeId}{x:Operand},SK st E ⟨d,.convert a b x,ty,pos,af,gd⟩ A H next=vN next A d (aA E.P A.tm H ⟨d,.convert a b x,ty,pos,af,gd⟩)):=⟨nf,wP,zt⟩
section
variable{α:Type}[Inhabited α]{c:α->List AC}{cf:α->α->Int}{cl N:Nat}
theorem OL(hm:Cmp c cf cl N)(H:Hp)(id gen n:Nat)(d:Array α)(a b:Nat)(hs:Srt c H id gen n d)(hN:N<=H.nx)(A6:a<b)(hb:b<=n)(hn:n<=1099511627776):
  Con E2 186 [.one (.o (.sl id gen 0 n 4)),.one (.i .i64 a),.one (.i .i64 b),.one (.o (.clo cl []))] H (λk=>k=id) λr H'=>r=.tup []/\Srt c H' id gen n (Go.Sort.reverseRange d a b):=by
 refine Con.iM (λH=>Srt c H id gen n d) hs (λH=>N<=H.nx) hN λH hs hN=>?_;refine C1.nk 34 [] Tryz.func186 λtm h0 h1 h2 h3=>?_;unfold Go.Sort.reverseRange;generalize E0:Go.Sort.reverseLoop a (b-1) d=R;have fin:∀(e:ax)(A:ag)(H3:Hp)(dc:Array α),(e=.normal\/e=.ret)->A.dfr=[]->Fr (λk=>k=id) H H3->Srt c H3 id gen n dc->dc=R->∃w H4,aH E2 [] (e,A,H3)=.ok [(w,H4)]/\Fr (λk=>k=id) H H4/\∀lg':List Nat,w=.tup []/\Srt c ⟨H4.t,H4.nx,lg'⟩ id gen n R:=λe A H3 dc he h1 h2 h3 h4=>⟨_,H3,bp he h1,h2,λ_=>⟨rfl,by rw[<-h4];exact h3⟩⟩;have hid:=hs.lt;have I4:IntKind.i64.wrap ((b:Int)-1)=((b-1:Nat):Int):=by rw[aI aa aa];omega
 replace E0:=ah E0;refine zW tyF ?_;refine R1.cR λK k1 k2 k3 k4=>?_;refine R1.loop (λz A H3=>∃(i j:Nat)(dc:Array α),z=j-i/\i<=n/\j<n/\Fr (λk=>k=id) H H3/\Srt c H3 id gen n dc/\Hd (Go.Sort.reverseLoop i j dc=R)/\iC A id gen n (fI A i (pz A j (A.nt=34/\A.dfr=[])))) ?_ (b-1-a)
  ⟨a,b-1,d,rfl,aa,aa,Fr.refl _,hs,E0,zL⟩
 clear h0 h1 h2 h3 tm hs E0 hid I4 k3;rintro z A H3 ⟨i,j,dc,rfl,hi,hj,f3,hs,hr,t0,t8,t9,A0,B0⟩;have hid:=hs.lt;have K0:=hs.sz;obtain⟨lo,Y1,hg⟩:=hs.row;have C0:=hr.out;rw[Go.Sort.reverseLoop]at C0;clear hr;by_cases E5:i<j
 ·rw[ad E5]at C0;have E6:(i:Int)<(j:Int):=aa;have I2:i<n:=aa;have Z7:=bw i;have hwj:IntKind.i64.wrap ((j:Int)-1)=((j-1:Nat):Int):=by rw[aI aa aa];omega
  have lv:=hm.ltH (aD hN f3.nx);have W0:=hm.len;have d1:i<dc.size:=aa;have d2:j<dc.size:=aa;replace C0:=ah C0;replace K0:=ah K0;replace d1:=ah d1;replace d2:=ah d2;refine zW tyF ?_;refine R1.cR λK2 q1 q2 q3 q4=>?_;refine zW (zDe tyF (ixC I2) (ixC hj) (swQ hm.len d1.out d2.out)) ?_;apply q1.out;exact⟨j-1-(i+1),aa,i+1,j-1,Go.Sort.swp dc i j,rfl,aa,aa,(f3.mod _ (.inr rfl)).mod _ (.inr rfl),⟨by rw[swp_size];exact K0.out,⟨gen,ai _,ao rfl⟩,hid⟩,C0,zL⟩
 rw[ab E5]at C0;have E6:¬(i:Int)<(j:Int):=aa;replace C0:=ah C0;replace K0:=ah K0;refine zW tyF ?_;apply k2.out;exact fin _ _ _ _ (.inl rfl) qe f3 hs C0.out
end
def VD:List UInt8:=(List.range 256).map λm=>UInt8.ofNat (Go.Sort.bitsLen m)
def tW{next:ag->Hp->Prop}{A:ag}{d:Option Tmp}{H:Hp}{s:List UInt8}{k:IntKind}{m:Nat}{alt:aj}(hs:s=VD)(hm:m<256)(hn:vN next A d (.val (.one (.i .u8 (Go.Sort.bitsLen m:Int))) H)):vN next A d (iK H true (.one (.o (.str s))) (.one (.i k (m:Int))) alt):=by
 have h:s[m]?=some (UInt8.ofNat (Go.Sort.bitsLen m)):=by rw[hs];unfold VD;rw[pf,List.getElem?_range hm];rfl
 rw[Mp h];have e:((UInt8.ofNat (Go.Sort.bitsLen m)).toNat:Int)=(Go.Sort.bitsLen m:Int):=by have:Go.Sort.bitsLen m<=8:=(Go.Sort.bitsLen_le_iff m 8).2 aa;rw[UInt8.toNat_ofNat'];omega
 rw[e];exact hn
def ei{x:Nat}(h:256<=x):Go.Sort.bitsLen x=8+Go.Sort.bitsLen (x/256):=by
 have a:∀k,Go.Sort.bitsLen x<=8+k↔Go.Sort.bitsLen (x/256)<=k:=λk=>by rw[Go.Sort.bitsLen_le_iff,Go.Sort.bitsLen_le_iff,Nat.pow_add,Gv aE,yW]
 have b:=(a (Go.Sort.bitsLen (x/256))).2 (ai _);have c:8<=Go.Sort.bitsLen x:=by
  by_cases h8:Go.Sort.bitsLen x<=7
  ·have:=(Go.Sort.bitsLen_le_iff x 7).1 h8;omega
  omega
 have d:=(a (Go.Sort.bitsLen x-8)).1 aa;omega
def fb{x:Nat}(h:x<=65536):Go.Sort.bitsLen x<=17:=(Go.Sort.bitsLen_le_iff x 17).2 aa
def wU(H:Hp)(x:Nat)(hx:x<=65536):Con E2 126 [.one (.i .u64 x)] H (λ_=>False) λr _=>r=.one (.i .i64 (Go.Sort.bitsLen x:Int)):=by
 refine Con.nO λH=>?_;refine C1.jf 25 [.tmp 2] Tryz.func126 λtm h0=>?_;have c1:¬(4294967296:Int)<=(x:Int):=aa;have hb:=fb hx;by_cases c16:65536<=x
 ·have c2:(65536:Int)<=(x:Int):=aa;have e0:shF .shr .u64 (x:Int) 16=((x/65536:Nat):Int):=Bx (k:=16) aE;have hy:x/65536=1:=aa;have hbx:Go.Sort.bitsLen x=16+Go.Sort.bitsLen (x/65536):=by have h1:=ei (x:=x) aa;have h2:=ei (x:=x/256) aa;rw[Nat.div_div_eq_div_mul,show 256*256=65536 from rfl]at h2;omega
  generalize x/65536=y at e0 hy hbx;have e2:IntKind.i64.wrap (0+16)=16:=aE;have c3i:¬(256:Int)<=(y:Int):=aa;have e3:IntKind.u8.wrap (y:Int)=(y:Int):=by rw[IntKind.wrap_u8];omega
  have e4:=bZ (Go.Sort.bitsLen y:Int);have e5:IntKind.i64.wrap (16+(Go.Sort.bitsLen y:Int))=(Go.Sort.bitsLen x:Int):=by rw[aI aa aa];omega
  have hy2:y<256:=aa;clear hy hbx;refine zW (qA tyU (shI (op:=.shr) (show(0:Int)<=16 by decide))) ?_;refine zG (zDe tyU ixS (cvQ jY fH) (cvQ fH dJ)) λK hK=>?_;refine tW ae hy2 ?_;refine zK (zDe tyU ixS (cvQ jY fH) (cvQ fH dJ)) ?_;exact⟨_,_,au (.i .i64 (Go.Sort.bitsLen x:Int)) (.inr rfl) qe qp,Fr.refl _,λ_=>rfl⟩
 have c2:¬(65536:Int)<=(x:Int):=aa;by_cases c3:256<=x
 ·have c3i:(256:Int)<=(x:Int):=aa;have e1:shF .shr .u64 (x:Int) 8=((x/256:Nat):Int):=Bx (k:=8) aE;have e2:IntKind.i64.wrap (0+8)=8:=aE;have e3:IntKind.u8.wrap ((x/256:Nat):Int)=((x/256:Nat):Int):=by rw[IntKind.wrap_u8];omega
  have e4:IntKind.i64.wrap (Go.Sort.bitsLen (x/256):Int)=(Go.Sort.bitsLen (x/256):Int):=aI aa (by have:=ei c3;omega);have e5:IntKind.i64.wrap (8+(Go.Sort.bitsLen (x/256):Int))=(Go.Sort.bitsLen x:Int):=by have:=ei c3;rw[aI aa aa];omega
  refine zW (qA tyU (shI (op:=.shr) (show(0:Int)<=8 by decide))) ?_;refine zG (zDe tyU ixS (cvQ jY fH) (cvQ fH dJ)) λK hK=>?_;refine tW ae aa ?_;refine zK (zDe tyU ixS (cvQ jY fH) (cvQ fH dJ)) ?_;exact⟨_,_,au (.i .i64 (Go.Sort.bitsLen x:Int)) (.inr rfl) qe qp,Fr.refl _,λ_=>rfl⟩
 have c3i:¬(256:Int)<=(x:Int):=aa;have e3:IntKind.u8.wrap (x:Int)=(x:Int):=by rw[IntKind.wrap_u8];omega
 have e4:=bZ (Go.Sort.bitsLen x:Int);have e5:IntKind.i64.wrap (0+(Go.Sort.bitsLen x:Int))=(Go.Sort.bitsLen x:Int):=by rw[aI aa aa];omega
 refine zW (qA tyU (shI (op:=.shr) (show(0:Int)<=8 by decide))) ?_;refine zG (zDe tyU ixS (cvQ jY fH) (cvQ fH dJ)) λK hK=>?_;refine tW ae aa ?_;refine zK (zDe tyU ixS (cvQ jY fH) (cvQ fH dJ)) ?_;exact⟨_,_,au (.i .i64 (Go.Sort.bitsLen x:Int)) (.inr rfl) qe qp,Fr.refl _,λ_=>rfl⟩
def oJ(H:Hp)(x:Nat)(hx:x<=65536):Con E2 71 [.one (.i .u64 x)] H (λ_=>False) λr _=>r=.one (.i .i64 (Go.Sort.bitsLen x:Int)):=by refine Con.nO λH=>?_;refine C1.jf 8 [.tmp 2] Tryz.func71 λtm h0=>?_;refine zW tyF ?_;refine zG (qA tyF zP) λK hK=>?_;refine WE.con (wU H x hx) λw' H1 g1 hw=>?_;subst hw;refine zK tyF ?_;exact⟨_,_,au (.i .i64 (Go.Sort.bitsLen x:Int)) (.inr rfl) qe qp,g1,λ_=>rfl⟩
def Be(H:Hp)(x:Nat)(hx:x<=65536):Con E2 158 [.one (.i .i64 x)] H (λ_=>False) λr _=>r=.one (.i .u64 ((1 <<< Go.Sort.bitsLen x:Nat):Int)):=by
 refine Con.nO λH=>?_;refine C1.jf 7 [.tmp 2] Tryz.func158 λtm h0=>?_;have e1:IntKind.u64.wrap (x:Int)=(x:Int):=og aa;have hb:=fb hx;have e2:shF .shl .u64 1 (Go.Sort.bitsLen x:Int)=((1 <<< Go.Sort.bitsLen x:Nat):Int):=by have:=Eh (x:=1) (k:=Go.Sort.bitsLen x) aa;rw[show((1:Nat):Int)=1 from rfl]at this;rw[this,ua,Nat.one_mul,ph (vY (Nat.pow_le_pow_right aE hb) aE)]
 have e3:(0:Int)<=(Go.Sort.bitsLen x:Int):=aa;refine zW tyF ?_;refine zG (zDe tyU ixS (cvQ dJ mQ) tu) λK hK=>?_;refine WE.con (oJ H x hx) λw' H1 g1 hw=>?_;subst hw;refine zK (qA tyU (shI (op:=.shl) e3)) ?_;exact⟨_,_,au (.i .u64 ((1 <<< Go.Sort.bitsLen x:Nat):Int)) (.inr rfl) qe qp,g1,λ_=>rfl⟩
def Bd(H:Hp)(q x:Nat)(hx:x<18446744073709551616)(hg:H.get q=some (.arr [.i .u64 (x:Int)] 256 0 0))(hq:q<H.nx):
  Con E2 159 [.one (.o (.ptr q 0 0 1))] H (λk=>k=q) λr H'=>r=.one (.i .u64 (Go.Sort.xorNextN x:Int))/\H'.get q=some (.arr [.i .u64 (Go.Sort.xorNextN x:Int)] 256 0 0):=by
 refine Con.iM (λH=>H.get q=some (.arr [.i .u64 (x:Int)] 256 0 0)) hg (λH=>q<H.nx) hq λH hg hq=>?_;refine C1.jf 33 [.tmp 2] Tryz.func159 λtm h0=>?_;have p64:(18446744073709551616:Nat)=2^64:=aE;obtain⟨y,hy⟩:∃y,y=x ^^^ (x*8192%18446744073709551616):=⟨_,rfl⟩;obtain⟨z,hz⟩:∃z,z=y ^^^ (y/128):=⟨_,rfl⟩;obtain⟨u,hu⟩:∃u,u=z ^^^ (z*131072%18446744073709551616):=⟨_,rfl⟩;have ly:y<18446744073709551616:=by rw[hy,p64];exact vZ aa aa
 have lz:z<18446744073709551616:=by rw[hz,p64];exact vZ aa aa
 have lu:u<18446744073709551616:=by rw[hu,p64];exact vZ aa aa
 have hR:Go.Sort.xorNextN x=u:=by unfold Go.Sort.xorNextN;rw[hu,hz,hy]
 rw[hR];have a1:shF .shl .u64 (x:Int) 13=((x*8192%18446744073709551616:Nat):Int):=Eh (k:=13) aE;have a2:oA .xor .u64 (x:Int) ((x*8192%18446744073709551616:Nat):Int)=(y:Int):=by rw[Ev hx aa,hy]
 have a3:shF .shr .u64 (y:Int) 7=((y/128:Nat):Int):=Bx (k:=7) aE;have a4:oA .xor .u64 (y:Int) ((y/128:Nat):Int)=(z:Int):=by rw[Ev ly aa,hz]
 have a5:shF .shl .u64 (z:Int) 17=((z*131072%18446744073709551616:Nat):Int):=Eh (k:=17) aE;have a6:oA .xor .u64 (z:Int) ((z*131072%18446744073709551616:Nat):Int)=(u:Int):=by rw[Ev lz aa,hu]
 clear hR hu hz hy p64;refine zW (zDe tyU (shI (op:=.shl) (show(0:Int)<=13 by decide)) (shI (op:=.shr) (show(0:Int)<=7 by decide)) (shI (op:=.shl) (show(0:Int)<=17 by decide))) ?_;exact⟨_,_,au (.i .u64 (u:Int)) (.inr rfl) qe qp,(((Fr.refl (X:=λk=>k=q) H).mod _ (.inr rfl)).mod _ (.inr rfl)).mod _ (.inr rfl),λ_=>⟨rfl,ao rfl⟩⟩
section
variable{α:Type}[Inhabited α]{c:α->List AC}{cf:α->α->Int}{cl N:Nat}
def zV(a L M:Nat):Nat->Nat->UInt64×Array α->Array α
 |0,_,st=>st.2
 |k+1,i,st=>zV a L M k (i+1) (Go.Sort.breakStep a L M st i)
theorem Lb(d:Array α)(a b:Nat)(h:8<=b-a):Go.Sort.breakPatterns d a b=zV a (b-a) (1 <<< Go.Sort.bitsLen (b-a)) 3 (a+(b-a)/4*2-1) (UInt64.ofNat (b-a),d):=by unfold Go.Sort.breakPatterns;rw[ad h];rfl
theorem Np(hm:Cmp c cf cl N)(H:Hp)(id gen n:Nat)(d:Array α)(a b:Nat)(hs:Srt c H id gen n d)(hN:N<=H.nx)(A6:a<b)(hb:b<=n)(hn:n<=65536):
  Con E2 184 [.one (.o (.sl id gen 0 n 4)),.one (.i .i64 a),.one (.i .i64 b),.one (.o (.clo cl []))] H (λk=>k=id) λr H'=>r=.tup []/\Srt c H' id gen n (Go.Sort.breakPatterns d a b):=by
 refine Con.iM (λH=>Srt c H id gen n d) hs (λH=>N<=H.nx) hN λH hs hN=>?_;refine C1.nk 67 [] Tryz.func184 λtm h0 h1 h2 h3=>?_;generalize E0:Go.Sort.breakPatterns d a b=R;have fin:∀(e:ax)(A:ag)(H3:Hp)(dc:Array α),(e=.normal\/e=.ret)->A.dfr=[]->Fr (λk=>k=id) H H3->Srt c H3 id gen n dc->dc=R->∃w H4,aH E2 [] (e,A,H3)=.ok [(w,H4)]/\Fr (λk=>k=id) H H4/\∀lg':List Nat,w=.tup []/\Srt c ⟨H4.t,H4.nx,lg'⟩ id gen n R:=λe A H3 dc he h1 h2 h3 h4=>⟨_,H3,bp he h1,h2,λ_=>⟨rfl,by rw[<-h4];exact h3⟩⟩;have hid:=hs.lt;obtain⟨L,hL⟩:∃L,L=b-a:=⟨_,rfl⟩;have hw0:IntKind.i64.wrap ((b:Int)-(a:Int))=(L:Int):=by rw[aI aa aa];omega
 by_cases h8:8<=L
 case neg=>
  have h8i:¬(8:Int)<=(L:Int):=aa;have C0:d=R:=by rw[<-E0];unfold Go.Sort.breakPatterns;rw[ab aa]
  clear E0;replace C0:=ah C0;replace hL:=ah hL;refine zW tyF ?_;exact fin _ _ _ _ (.inl rfl) qe (Fr.refl _) hs C0.out
 have h8i:(8:Int)<=(L:Int):=aa;rw[Lb d a b aa,<-hL]at E0;obtain⟨M,hM⟩:∃M:Nat,M=1 <<< Go.Sort.bitsLen L:=⟨_,rfl⟩;have hM1:1<=M:=by rw[hM,ua];exact Nat.two_pow_pos _
 have hM2:M<=2*L:=by rw[hM,ua];exact Go.Sort.two_pow_bitsLen_le aa
 rw[<-hM]at E0;have hLu:IntKind.u64.wrap (L:Int)=(L:Int):=og aa;have hqq:IntKind.i64.wrap ((L:Int).tdiv 4)=((L/4:Nat):Int):=by rw[rQ aa,aI aa aa];omega
 have q6:IntKind.i64.wrap (((L/4:Nat):Int)*2)=((L/4*2:Nat):Int):=by rw[aI aa aa];omega
 have hq3:IntKind.i64.wrap ((a:Int)+((L/4*2:Nat):Int))=((a+L/4*2:Nat):Int):=by rw[aI aa aa];omega
 have hq4:IntKind.i64.wrap (((a+L/4*2:Nat):Int)-1)=((a+L/4*2-1:Nat):Int):=by rw[aI aa aa];omega
 have hq5:IntKind.i64.wrap (((a+L/4*2:Nat):Int)+1)=((a+L/4*2+1:Nat):Int):=by rw[aI aa aa];omega
 replace E0:=ah E0;replace hL:=ah hL;replace hM:=ah hM;refine zW (zDd tyU ixS (cvQ dJ Pe)) ?_;have gA:Gr H ((H.new (.arr [.i .u64 0] 256 0 0)).mod H.nx (.arr [.i .u64 (L:Int)] 256 0 0)):=((Fr.refl _).new _).mod _ (.inl (ai _));have hsA:=hs.fr gA aF;have hqA:((H.new (.arr [.i .u64 0] 256 0 0)).mod H.nx (.arr [.i .u64 (L:Int)] 256 0 0)).get H.nx=some (.arr [.i .u64 (L:Int)] 256 0 0):=ao rfl;have b6:H.nx≠id:=aa;have hqH:H.nx<=H.nx:=ai _;generalize I7:H.nx=q at hqA b6 |-;have hqlt:q<((H.new (.arr [.i .u64 0] 256 0 0)).mod q (.arr [.i .u64 (L:Int)] 256 0 0)).nx:=by show q<H.nx+1;omega
 refine R1.gen (λA1 H1=>Gr H H1/\Srt c H1 id gen n d/\H1.get q=some (.arr [.i .u64 (L:Int)] 256 0 0)/\q<H1.nx/\iC A1 id gen n (ja A1 a (slot A1.tm 3=.one (.o (.clo cl []))/\fI A1 L (lV A1 q (A1.nt=67/\A1.dfr=[])))))
  ⟨by rw[<-I7];exact gA,by rw[<-I7];exact hsA,hqA,hqlt,zL⟩ ?_
 replace hqH:H.nx<=q:=aa;clear h0 h1 h2 h3 tm hs hid hw0 hLu gA hsA hqA hqlt I7;rintro A H1 ⟨g1,hs,hg,O8,t0,t1,t3,t8,t9,A0,B0⟩;have hid:=hs.lt;refine zG (qA tyF EO) λK hK=>?_;have V5:=hL.out;refine WE.con (Be H1 L aa) λw' H2 g2 hw=>?_;rw[<-hM.out]at hw;subst hw;have F2:=hs.fr g2 aF;have hid2:=F2.lt;obtain⟨hg,O8⟩:=bq g2 O8 hg;have f2:Fr (λk=>k=id) H H2:=(Fr.refl _).then (g1.gr g2) λ_ h=>h.elim;clear g1 g2 hs hid;replace V5:=ah V5;replace f2:=ah f2;have h4:(4:Int)≠0:=aE;refine zK (qA tyU (tS h4)) ?_;clear hq4 q6 hq3;refine R1.cR λK2 k1 k2 k3 k4=>?_;refine R1.loop (λz A H3=>∃(t:Nat)(x:UInt64)(dc:Array α),z=3-t/\t<=3/\Fr (λk=>k=id) H H3/\Srt c H3 id gen n dc/\H3.get q=some (.arr [.i .u64 (x.toNat:Int)] 256 0 0)/\q<H3.nx/\Hd (zV a L M (3-t) (a+L/4*2-1+t) (x,dc)=R) /\
   slot A.tm 0=.one ((.o (.sl id gen 0 n 4)))/\slot A.tm 1=.one (.i .i64 (a:Int))/\slot A.tm 3=.one ((.o (.clo cl [])))/\slot A.tm 8=.one (.i .i64 (L:Int))/\slot A.tm 9=.one ((.o (.ptr q 0 0 1)))/\slot A.tm 10=.one ((.i .u64 (M:Int)))/\slot A.tm 11=.one (.i .i64 ((a+L/4*2-1+t:Nat):Int))/\A.nt=67/\A.dfr=[]) ?_ 3
  ⟨0,UInt64.ofNat L,d,rfl,aE,f2.out,F2,by rw[hg,UInt64.toNat_ofNat'];rw[ph (by have:=V5.out;omega)],O8,E0,zL⟩
 clear t0 t1 t3 t8 t9 A0 B0 A F2 hid2 hg O8 f2 E0 k3 hK K;rintro z A H3 ⟨t,x,dc,rfl,ht,f3,hs,hg,O8,hr,t0,t1,t3,t8,t9,t10,t11,A0,B0⟩;have hid:=hs.lt;have V5:=hL.out;have q6:IntKind.i64.wrap (((L/4:Nat):Int)*2)=((L/4*2:Nat):Int):=by rw[aI aa aa];omega
 have hq3:IntKind.i64.wrap ((a:Int)+((L/4*2:Nat):Int))=((a+L/4*2:Nat):Int):=by rw[aI aa aa];omega
 by_cases ht3:t<3
 case neg=>have U4:¬((a+L/4*2-1+t:Nat):Int)<=((a+L/4*2+1:Nat):Int):=aa;have ht4:3-t=0:=aa;have C0:=hr.out;rw[ht4,zV]at C0;replace C0:dc=R:=C0;clear hr ht4;replace C0:=ah C0;replace V5:=ah V5;refine zW (qA tyU (tS h4)) ?_;apply k2.out;exact fin _ _ _ _ (.inl rfl) qe f3 hs C0.out
 have U4:((a+L/4*2-1+t:Nat):Int)<=((a+L/4*2+1:Nat):Int):=aa;have C0:=hr.out;rw[show 3-t=(3-(t+1))+1 from by omega,zV]at C0;unfold Go.Sort.breakStep at C0;dsimp only at C0
 clear hr;have j7:Go.Sort.xorNextN x.toNat=(Go.Sort.xorNext x).toNat:=(Go.Sort.xorNext_toNat x).symm;have lx:=x.toNat_lt;have ly:=(Go.Sort.xorNext x).toNat_lt;generalize hy:Go.Sort.xorNext x=y at C0 j7 ly;obtain⟨o,ho⟩:∃o,o=y.toNat &&& (M-1):=⟨_,rfl⟩;have ho2:o<=M-1:=by rw[ho];exact Nat.and_le_right
 rw[<-ho]at C0;have hMu:IntKind.u64.wrap ((M:Int)-1)=((M-1:Nat):Int):=by rw[show((M:Int)-1)=((M-1:Nat):Int)from by omega];exact og aa
 have hand:oA .and .u64 (y.toNat:Int) ((M-1:Nat):Int)=(o:Int):=by rw[Yw ly aa,ho]
 have Y6:=bZ (o:Int);have hio:=bZ ((o:Int)-(L:Int));have Z7:IntKind.i64.wrap (((a+L/4*2-1+t:Nat):Int)+1)=((a+L/4*2-1+(t+1):Nat):Int):=by rw[aI aa aa];omega
 clear ho hy;have M4:=Bd H3 q x.toNat lx hg O8;rw[j7]at M4;clear j7;have b1:a+L/4*2-1+t<n:=aa;generalize hix:a+L/4*2-1+t=ix at U4 Z7 b1 C0 t11;replace C0:=ah C0;replace V5:=ah V5;replace hix:=ah hix;replace M4:=ah M4;refine zW (qA tyU (tS h4)) ?_;refine R1.ed λK3 q1 q2 q3 q4=>?_;refine zG (qA tyF EN) λK5 U0=>?_;refine WE.con M4.out λw' H4 g4⟨hw,hg4⟩=>?_;subst hw;clear M4;have O3:=hs.fr g4 (λh=>b6 h.symm);have P7:=O3.lt;have hql4:=ay O8 g4.nx;have f4:Fr (λk=>k=id) H H4:=f3.then g4 λj h=>by subst h;exact .inl hqH
 clear hs hg O8 hid f3 g4;refine zS (zDd tyU ixS (cvQ mQ dJ)) ?_;apply U0.out;obtain⟨o2,L5⟩:∃o2,o2=if o>=L then o-L else o:=⟨_,rfl⟩;have O0:=C0.out;rw[<-L5]at O0;clear C0;have ho2L:o2<L:=by have:=V5.out;rw[L5];split<;>omega
 replace O0:=ah O0;refine R1.gen (λA5 H5=>H4=H5/\iC A5 id gen n (ja A5 a (slot A5.tm 3=.one (.o (.clo cl []))/\fI A5 L (lV A5 q (slot A5.tm 10=.one (.i .u64 (M:Int))/\lW A5 ix o (A5.nt=67/\A5.dfr=[])))))) ⟨rfl,zL⟩ ?_;clear t0 t1 t3 t8 t9 t10 t11 A0 B0 A;rintro A _ ⟨rfl,t0,t1,t3,t8,t9,t10,t11,t12,A0,B0⟩;have hwa:IntKind.i64.wrap ((a:Int)+(o2:Int))=((a+o2:Nat):Int):=by have:=V5.out;rw[aI aa aa];omega
 refine zW tyF ?_;refine R1.eV (λB H5=>H4=H5/\iC B id gen n (ja B a (slot B.tm 3=.one (.o (.clo cl []))/\fI B L (lV B q (slot B.tm 10=.one (.i .u64 (M:Int))/\lW B ix o2 (B.nt=67/\B.dfr=[])))))) (λK4 m1 m2 m3=>?_) ?_
 ·by_cases hoL:L<=o
  ·have hoi:(L:Int)<=(o:Int):=aa;clear hio;have hio:IntKind.i64.wrap ((o:Int)-(L:Int))=(o2:Int):=by have:=V5.out;rw[L5,ad hoL,aI aa aa];omega
   replace L5:=ah L5;refine zW tyF ?_;apply m1.out;exact⟨rfl,zL⟩
  have hoi:¬(L:Int)<=(o:Int):=aa;rw[ab hoL]at L5;subst L5;refine zW tyF ?_;apply m1.out;exact⟨rfl,zL⟩
 clear t0 t1 t3 t8 t9 t10 t11 t12 A0 B0 A hio L5 Y6 hand hMu U4;rintro A _ ⟨rfl,t0,t1,t3,t8,t9,t10,t11,t12,A0,B0⟩;have K0:=O3.sz;obtain⟨lo,Y1,hg⟩:=O3.row;have lv:=hm.ltH (aD hN f4.nx);have W0:=hm.len;have b2:a+o2<n:=by have:=V5.out;omega
 have d1:ix<dc.size:=aa;have d2:a+o2<dc.size:=aa;replace K0:=ah K0;replace d1:=ah d1;replace d2:=ah d2;refine zW (zDe tyF (ixC b1) (ixC b2) (swQ hm.len d1.out d2.out)) ?_;apply q1.out;refine zW tyF ?_;exact⟨3-(t+1),aa,t+1,y,Go.Sort.swp dc ix (a+o2),rfl,aa,(f4.mod _ (.inr rfl)).mod _ (.inr rfl),⟨by rw[swp_size];exact K0.out,⟨gen,ai _,ao rfl⟩,P7⟩,by rw[az b6,az b6];exact hg4,hql4,by rw[show a+L/4*2-1+(t+1)=ix+1 from by have:=hix.out;omega];exact O0,zL⟩
end
def xX(cs ds:List Int):∀D,fX cs ds D≠0->(1<=fX cs ds D/\fX cs ds D<=4)/\(fX cs ds D<=2->∃a,D=[a])
 |[],h=>absurd rfl h
 |[a],h=>by
  refine⟨?_,λ_=>⟨a,rfl⟩⟩;rw[Mg]at h |-;by_cases h1:cs.getD a 0=ds.getD a 0+1
  ·rw[ad h1];decide
  by_cases h2:cs.getD a 0+1=ds.getD a 0
  ·rw[ab h1,ad h2];decide
  rw[ab h1,ab h2]at h;exact absurd rfl h
 |[a,b],h=>by
  rw[Mh]at h |-;by_cases hb:b=a+1
  ·rw[ad hb]at h |-;by_cases h1:ds.getD b 0=0/\1<=ds.getD a 0/\cs.getD a 0=0/\cs.getD b 0=ds.getD a 0
   ·rw[ad h1];exact⟨aE,λh=>absurd h aE⟩
   by_cases h2:ds.getD a 0=0/\1<=ds.getD b 0/\cs.getD b 0=0/\cs.getD a 0=ds.getD b 0
   ·rw[ab h1,ad h2];exact⟨aE,λh=>absurd h aE⟩
   rw[ab h1,ab h2]at h;exact absurd rfl h
  rw[ab hb]at h;exact absurd rfl h
 |_::_::_::_,h=>absurd rfl h
def Yg(cs ds:List Int)(n:Nat):fX ds cs (ik ds cs n)=Cq (fX cs ds (ik cs ds n)):=by rw[CD ds cs n];exact Mi cs ds n _ rfl
def sC{nm:List UInt8}{us:List Pr}(N0:aR nm us=0){n:Int}(C5:1<=n){x:Sp}(hx:x∈dI us (aC us n) (dG nm us) n):(1<=x.1/\x.1<=4)/\x.2.2≠n/\1<=x.2.2/\x.2.2<=1099511627776:=by obtain⟨h1,h2,h3⟩:=(vM N0 C5 x).1 hx;unfold okN at h1;rw[aT,bB,bB]at h1;have e:x.1=fX (aC us n) (aC us x.2.2) (ik (aC us n) (aC us x.2.2) us.length):=congrArg Prod.fst h2;rw[e]at h3 |-;refine⟨(xX _ _ _ h3).1,λhn=>h3 ?_,h1⟩;rw[hn];have:ik (aC us n) (aC us n) us.length=[]:=WN _ _ λj _=>zf _;rw[this];rfl
def Rb{nm:List UInt8}{us:List Pr}(N0:aR nm us=0){n:Int}(C5:1<=n)(E4:n<=1099511627776){x:Sp}(hx:x∈dI us (aC us n) (dG nm us) n):
  ∃y∈dI us (aC us x.2.2) (dG nm us) x.2.2,y.2.2=n/\y.1=Cq x.1/\(x.1<=2->y.2.1=x.2.1):=by
 obtain⟨h1,h2,h3⟩:=(vM N0 C5 x).1 hx;have W5:=h1;unfold okN at W5;rw[aT,bB,bB]at W5;have e:x.1=fX (aC us n) (aC us x.2.2) (ik (aC us n) (aC us x.2.2) us.length):=congrArg Prod.fst h2;have eg:x.2.1=Vp us (aC us n) (aC us x.2.2) (ik (aC us n) (aC us x.2.2) us.length):=congrArg (λy:Sp=>y.2.1) h2;have hk:(Ej us x.2.2 n).1=Cq x.1:=by rw[e];exact Yg _ _ _
 have hr:=xX (aC us n) (aC us x.2.2) (ik (aC us n) (aC us x.2.2) us.length) (by rw[<-e];exact h3);rw[<-e]at hr;have hb:Cq x.1≠0:=by have:x.1=1\/x.1=2\/x.1=3\/x.1=4:=aa;unfold Cq;rcases this with h|h|h|h<;>rw[h]<;>decide
 refine⟨Ej us x.2.2 n,(vM N0 W5.1 _).2 ⟨?_,rfl,by rw[hk];exact hb⟩,rfl,hk,λh=>?_⟩
 ·show okN n=true;unfold okN;rw[aL C5,aL E4];rfl
 obtain⟨a,ha⟩:=hr.2 h;rw[eg,ha];show Vp us (aC us x.2.2) (aC us n) (ik (aC us x.2.2) (aC us n) us.length)=_;rw[CD,ha];rfl
def tyS:=zDg tyF IV Kq KK An Ja
def sR(H:Hp)(v:AC)(l:List Sp):Prop:=SlC H v 3 l.length (l.flatMap spC)
def OR(x:Sp):(spC x).length=3:=rfl
def sR.gr{H H':Hp}{v:AC}{l:List Sp}(h:sR H v l)(hg:Gr H H'):sR H' v l:=SlC.gr h hg
def sR.len{H:Hp}{v:AC}{l:List Sp}(h:sR H v l):eo H 1 (.one v)=.val (.one (.i .i64 (l.length:Int))) H:=SlC.len h
def sR.lt{H:Hp}{v:AC}{l:List Sp}(h:sR H v l):ltV (.one v) H.nx:=sj h
def sR.nil{H:Hp}:sR H (.o .nilS) []:=⟨by simp,.inl ⟨rfl,rfl⟩⟩
structure SpAt(cells:List AC)(o:Nat)(x:Sp):Prop where
 all:(cells.drop o).take 3=[.i .i64 x.1,.o (.str x.2.1),.i .i64 x.2.2]
 le:o+3<=cells.length
 le1:o+1<=cells.length
 le2:o+1+1<=cells.length
 le3:o+2+1<=cells.length
 f0:(cells.drop o).headD (.b false)=.i .i64 x.1
 f1:(cells.drop (o+1)).headD (.b false)=.o (.str x.2.1)
 f2:(cells.drop (o+2)).headD (.b false)=.i .i64 x.2.2
def sR.open{H:Hp}{v:AC}{l:List Sp}(h:sR H v l)(hn:0<l.length):∃id g off cells,v=.o (.sl id g off l.length 3)/\id<H.nx/\rowOf (H.get id) g=some cells/\∀(i:Nat)(x:Sp),l[i]?=some x->SpAt cells (off+i*3) x:=by
 obtain⟨id,g,off,h1,h2,hr⟩:=SlC.pos h hn;have T3:=hr;obtain⟨cells,h3,h6,h7⟩:=hr;refine⟨id,g,off,cells,h1,h2,h3,λi x hx=>?_⟩;obtain⟨cells',k3,k6,k7⟩:=Rd.at (c:=spC) OR T3 hx;rw[h3]at k3;cases k3
 rw[spC]at k7;obtain⟨d0,d1,d2⟩:=Yz k7;exact⟨k7,k6,aa,aa,aa,d0,d1,d2⟩
def getD_some{l:List Int}{i:Nat}(h:i<l.length):l[i]?=some (l.getD i 0):=by rw[bt,aO h];rfl
def Od:loadT prog 129=some (true,7):=ae
def Pb:cD prog 129=some 7:=ae
def Yo:(ba prog 129).map (λz=>(ofValue z).cells)=some [.o .nilS,.o .nilS,.o .nilS,.o .nilS,.i .i64 0,.i .i64 0,.o .nilS]:=ae
def CV:bK prog 129 0=some (0,26,2):=ae
def CW:bK prog 129 1=some (2,22,1):=ae
def CX:bK prog 129 2=some (3,27,1):=ae
def CY:bK prog 129 3=some (4,3,1):=ae
def CZ:bK prog 129 4=some (5,3,1):=ae
def Da:bK prog 129 5=some (6,67,1):=ae
def yI:Nat->Option (Nat×Nat):=λi=>(#[(0,2),(2,1),(3,1),(4,1),(5,1),(6,1)]:Array (Nat×Nat))[i]?
def XV:iR prog 129=some yI:=ae
def QM:yI 0=some (0,2):=rfl
def QN:yI 2=some (3,1):=rfl
def QO:yI 4=some (5,1):=rfl
def IU:loadT prog 127=some (false,1):=ae
def Ko:cD prog 127=some 1:=ae
def Ob:loadT prog 67=some (false,1):=ae
def OZ:cD prog 67=some 1:=ae
def yp:bV prog 67=some (30,1):=ae
def Of:kI prog 67=some 1:=ae
def MU:dp prog 67=1:=ae
def TZ:loadT prog 194=some (false,1):=ae
def VB:cD prog 194=some 1:=ae
def Uh:kI prog 194=some 2:=ae
def Uq:jl prog 194=some (3,4):=ae
def Fw:bO prog 3=1:=ae
def TW:loadT prog 193=some (false,1):=ae
def VA:cD prog 193=some 1:=ae
def aai:(ba prog 193).map (λz=>(ofValue z).cells)=some [.o .vA]:=ae
def TV:loadT prog 196=some (false,1):=ae
def Vz:cD prog 196=some 1:=ae
def aah:(ba prog 196).map (λz=>(ofValue z).cells)=some [.o .vA]:=ae
def TX:loadT prog 242=some (false,1):=ae
def TY:loadT prog 244=some (false,1):=ae
def wN{v:List Int}{i j:Nat}{x:Int}:(v.set i x).getD j 0=if i=j/\j<v.length then x else v.getD j 0:=by
 rw[bt,GB,bt];by_cases h:i=j
 ·subst h;rw[ad rfl];by_cases h2:i<v.length
  ·rw[ad h2,ad ⟨rfl,h2⟩];rfl
  rw[ab h2,ab (λh=>h2 h.2),iw aa]
 rw[ab h,ab (λhh=>h hh.1)]
def xa(v:List Int)(x:Fx)(l:List Fx):bm v (x::l)=bm (v.set x.1.toNat x.2.2.1) l:=rfl
def fG:∀(l:List Fx)(v:List Int)(j:Nat),(∀x∈l,x.1.toNat≠j)->(bm v l).getD j 0=v.getD j 0
 |[],_,_,_=>rfl
 |x::l,v,j,h=>by rw[xa,fG l _ j λy hy=>h y (aU _ hy),wN,ab λhh=>h x (bh ..) hh.1]
def ic:∀(l:List Fx)(v:List Int),List.Pairwise (λx y:Fx=>x.1.toNat≠y.1.toNat) l->∀x∈l,x.1.toNat<v.length->(bm v l).getD x.1.toNat 0=x.2.2.1
 |[],_,_,_,h,_=>absurd h List.not_mem_nil
 |y::l,v,hp,x,hx,hl=>by
  obtain⟨h1,h2⟩:=List.pairwise_cons.1 hp;rw[xa];rcases List.mem_cons.1 hx with rfl|hx
  ·rw[fG l _ _ λz hz e=>h1 z hz e.symm,wN,ad ⟨rfl,hl⟩]
  exact ic l _ h2 x hx (by rw[fq];exact hl)
def Tm{a b:List Int}(hl:a.length=b.length)(h:∀j,j<a.length->a.getD j 0=b.getD j 0):a=b:=by refine List.ext_getElem hl λj h1 h2=>?_;have:=h j h1;rw[bt,bt,aO h1,aO h2]at this;exact this
def xb{v:List Int}{l k:List Fx}(hp:l.Perm k)(h:List.Pairwise (λx y:Fx=>x.1.toNat≠y.1.toNat) l):bm v l=bm v k:=by
 have hk:List.Pairwise (λx y:Fx=>x.1.toNat≠y.1.toNat) k:=(hp.pairwise_iff λ{x y}h=>λe=>h e.symm).1 h;refine Tm (by rw[dF,dF]) λj hj=>?_;rw[dF]at hj;by_cases hm:∃x∈l,x.1.toNat=j
 ·obtain⟨x,hx,rfl⟩:=hm;rw[ic l v h x hx hj,ic k v hk x (hp.mem_iff.1 hx) hj]
 rw[fG l v j λx hx e=>hm ⟨x,hx,e⟩,fG k v j λx hx e=>hm ⟨x,hp.mem_iff.2 hx,e⟩]
def QY(v:List Int)(l k:List Fx):bm v (l++k)=bm (bm v l) k:=by unfold bm;rw[List.foldl_append]
def oV{a b:List Int}:∀(ps:List Int)(n:Int),(∀i∈ps,a.getD i.toNat 0=b.getD i.toNat 0)->bL a n ps=bL b n ps
 |[],_,_=>rfl
 |i::ps,n,h=>by rw[bL,bL,h i (bh ..)];exact oV ps _ λj hj=>h j (aU _ hj)
def ye(v:List Int):List Int->Int
 |[]=>0
 |i::l=>v.getD i.toNat 0+ye v l
def yO{v:List Int}(hv:∀j,0<=v.getD j 0/\v.getD j 0<=1099511627776):∀(ps:List Int)(n:Int),0<=n->n+ps.length*1099511627776<=4611686018427387904->bL v n ps=n+ye v ps
 |[],n,_,_=>by show n=n+0;omega
 |i::ps,n,h0,h=>by have hi:=hv i.toNat;rw[List.length_cons]at h;rw[bL,aI aa aa,yO hv ps _ aa aa,ye];omega
def Kn{v:List Int}{i:Int}{x:Int}:∀(ps:List Int),(∀j∈ps,0<=j)->0<=i->i.toNat<v.length->List.Pairwise (λa b:Int=>a<b) ps->ye (v.set i.toNat x) ps=if i∈ps then ye v ps-v.getD i.toNat 0+x else ye v ps
 |[],_,_,_,_=>by rw[ab List.not_mem_nil];rfl
 |j::ps,hps,hi,hl,hp=>by
  obtain⟨h1,h2⟩:=List.pairwise_cons.1 hp;have hj:=hps j (bh ..);have ih:=Kn (x:=x) ps (λk hk=>hps k (aU _ hk)) hi hl h2;rw[ye,ye,ih,wN];by_cases e:i=j
  ·subst e;rw[ad ⟨rfl,hl⟩,ab (λhm=>by have:=h1 i hm;omega),ad (bh ..)];omega
  have e2:¬(i.toNat=j.toNat/\j.toNat<v.length):=λhh=>e (by have:=hh.1;omega);rw[ab e2];by_cases hm:i∈ps
  ·rw[ad hm,ad (aU _ hm)];omega
  rw[ab hm,ab (λhh=>(List.mem_cons.1 hh).elim (λh=>e h) hm)]
structure gK(v:List Int)(lr:List Rl)(K:Int->Int->Int):Prop where
 vb:∀j,0<=v.getD j 0/\v.getD j 0<=1099511627776
 vl:v.length<=64
 tr:∀r∈lr,0<=r.1/\r.1<v.length
 pr:∀r∈lr,∀i∈r.2,0<=i/\i<v.length
 pa:∀r∈lr,List.Pairwise (λa b:Int=>a<b) r.2
 pl:∀r∈lr,r.2.length<=64
 tp:∀r∈lr,∀s∈lr,r.1∉s.2
 td:List.Pairwise (λr s:Rl=>r.1≠s.1) lr
 kb:∀i to,K i to≠0->(1<=to/\to<=1099511627776)/\to≠v.getD i.toNat 0/\K i to≠5
section
variable(v:List Int)(lr:List Rl)(K:Int->Int->Int)
def Rz(x:Fx):Prop:=(0<=x.1/\x.1<v.length)/\x.2.1=v.getD x.1.toNat 0/\x.2.2.2=K x.1 x.2.2.1/\x.2.2.2≠0/\∃r∈lr,x.1∈r.2
structure cL(l:List Fx):Prop where
 ok:∀x∈l,Rz v lr K x
 pw:List.Pairwise (λx y:Fx=>x.1.toNat≠y.1.toNat) l
def ee(now:List Int):List Rl->Option (List Fx)
 |[]=>some []
 |r::l=>if bL now 0 r.2=v.getD r.1.toNat 0 then ee now l else if bL now 0 r.2<1\/1099511627776<bL now 0 r.2 then none else
  (ee now l).map λT=>(r.1,v.getD r.1.toNat 0,bL now 0 r.2,if K r.1 (bL now 0 r.2)=0 then 5 else K r.1 (bL now 0 r.2))::T
end
def dR:List Fx->Nat
 |[]=>0
 |x::l=>(if x.2.2.2=5 then 2 else 1)+dR l
def ny:∀l:List Fx,l.length<=dR l
 |[]=>ai _
 |x::l=>by have:=ny l;rw[dR,List.length_cons];split<;>omega
variable{v:List Int}{lr:List Rl}{K:Int->Int->Int}
def Pd{now now':List Int}:∀(l:List Rl)(T:List Fx),(∀r∈l,bL now' 0 r.2=v.getD r.1.toNat 0\/bL now' 0 r.2=bL now 0 r.2)->ee v K now l=some T->∃T',ee v K now' l=some T'/\dR T'<=dR T
 |[],T,_,h=>⟨[],rfl,Nat.zero_le _⟩
 |r::l,T,hr,h=>by
  rw[ee]at h;rw[ee];have h2:=λT=>Pd l T λs hs=>hr s (aU _ hs);by_cases e:bL now 0 r.2=v.getD r.1.toNat 0
  ·rw[ad e]at h;have e':bL now' 0 r.2=v.getD r.1.toNat 0:=(hr r (bh ..)).elim id λh=>h.trans e;rw[ad e'];exact h2 T h
  rw[ab e]at h;by_cases b:bL now 0 r.2<1\/1099511627776<bL now 0 r.2
  ·rw[ad b]at h;cases h
  rw[ab b]at h;cases ht:ee v K now l with
  |none=>rw[ht]at h;cases h
  |some T1=>
   rw[ht]at h;cases h
   obtain⟨T',t1,t2⟩:=h2 T1 ht;by_cases e':bL now' 0 r.2=v.getD r.1.toNat 0
   ·rw[ad e'];exact⟨T',t1,by rw[dR];omega⟩
   have es:bL now' 0 r.2=bL now 0 r.2:=(hr r (bh ..)).resolve_left e';rw[ab e',es,ab b,t1];refine⟨_,rfl,?_⟩;rw[dR,dR];exact Nat.add_le_add_left t2 _
def yR{now:List Int}:∀(l:List Rl)(T:List Fx),ee v K now l=some T->∀r∈l,bL now 0 r.2≠v.getD r.1.toNat 0->∃x∈T,x.1=r.1
 |[],_,_,_,h,_=>absurd h List.not_mem_nil
 |s::l,T,h,r,hr,hw=>by
  rw[ee]at h;by_cases e:bL now 0 s.2=v.getD s.1.toNat 0
  ·rw[ad e]at h;rcases List.mem_cons.1 hr with rfl|hr
   ·exact absurd e hw
   exact yR l T h r hr hw
  rw[ab e]at h;by_cases b:bL now 0 s.2<1\/1099511627776<bL now 0 s.2
  ·rw[ad b]at h;cases h
  rw[ab b]at h;cases ht:ee v K now l with
  |none=>rw[ht]at h;cases h
  |some T1=>
   rw[ht]at h;cases h
   rcases List.mem_cons.1 hr with rfl|hr
   ·exact⟨_,bh ..,rfl⟩
   obtain⟨x,hx,e⟩:=yR l T1 ht r hr hw;exact⟨x,aU _ hx,e⟩
def YS(h:List.Pairwise (λr s:Rl=>r.1≠s.1) lr){n m:Nat}{r s:Rl}(hn:lr[n]?=some r)(hm:lr[m]?=some s)(hnm:n≠m):r.1≠s.1:=by
 obtain⟨h1,rfl⟩:=List.getElem?_eq_some_iff.1 hn;obtain⟨h2,rfl⟩:=List.getElem?_eq_some_iff.1 hm;rcases Nat.lt_or_gt_of_ne hnm with h3|h3
 ·exact List.pairwise_iff_getElem.1 h n m h1 h2 h3
 exact(List.pairwise_iff_getElem.1 h m n h2 h1 h3).symm
def mf(v:List Int)(lr:List Rl)(now:List Int)(n:Nat):Prop:=∃r,lr[n]?=some r/\bL now 0 r.2≠v.getD r.1.toNat 0
def Qe(htd:List.Pairwise (λr s:Rl=>r.1≠s.1) lr){now:List Int}{T:List Fx}(ht:ee v K now lr=some T){given:List Nat}(hg:given.Nodup)(hw:∀n∈given,mf v lr now n):given.length<=T.length:=by
 have h1:(given.map λn=>(lr.getD n (0,[])).1).Nodup:=by refine List.pairwise_map.2 (wc (λ{a b}ha hb A6=>?_) hg);obtain⟨r,hr,_⟩:=hw a ha;obtain⟨s,hs,_⟩:=hw b hb;rw[bt,bt,hr,hs];exact YS htd hr hs A6
 have h2:=GF (l₂:=T.map λx=>x.1) h1 λt hm=>by obtain⟨n,hn,rfl⟩:=List.mem_map.1 hm;obtain⟨r,hr,hwr⟩:=hw n hn;obtain⟨x,hx,e⟩:=yR lr T ht r (iY hr) hwr;refine List.mem_map.2 ⟨x,hx,?_⟩;rw[bt,hr];exact e
 rwa [cT,cT]at h2
def cL.perm{l k:List Fx}(h:cL v lr K l)(hp:l.Perm k):cL v lr K k:=
 ⟨λx hx=>h.ok x (hp.mem_iff.2 hx),(hp.pairwise_iff λ{x y}h=>λe=>h e.symm).1 h.pw⟩
def KL(v:List Int)(lr:List Rl)(K:Int->Int->Int)(c:Nat):Prop:=∀I T,cL v lr K I->ee v K (bm v I) lr=some T->c<=I.length+dR T
structure eO(v:List Int)(lr:List Rl)(K:Int->Int->Int)(c:Nat)(I T items rest:List Fx)(given:List Nat):Prop where
 io:cL v lr K I
 to:ee v K (bm v I) lr=some T
 co:I.length+dR T=c
 pe:I.Perm (items++rest)
 nd:given.Nodup
 gw:∀n∈given,mf v lr (bm v I) n
section
variable{c:Nat}{I T items rest:List Fx}{given:List Nat}
def eO.now(h:eO v lr K c I T items rest given):bm v I=bm (bm v items) rest:=by rw[xb h.pe h.io.pw,QY]
def eO.cost(G0:gK v lr K)(h:eO v lr K c I T items rest given):items.length+rest.length+given.length<=c:=by have h1:=Qe G0.td h.to h.nd h.gw;have h2:=ny T;have h3:=h.pe.length_eq;rw[bA]at h3;have:=h.co;omega
def eO.itm(h:eO v lr K c I T items rest given):cL v lr K items:=by have:=h.io.perm h.pe;exact⟨λx hx=>this.ok x (ef _ hx),(List.pairwise_append.1 this.pw).1⟩
def eO.same(G0:gK v lr K)(h:eO v lr K c I T items rest given){r:Rl}(hr:r∈lr)(hn:∀x∈rest,x.1∉r.2):bL (bm v items) 0 r.2=bL (bm v I) 0 r.2:=by rw[h.now];refine oV _ _ λi hi=>(fG rest _ _ λx hx e=>hn x hx ?_).symm;have h1:=(G0.pr r hr i hi).1;have h2:=((h.io.perm h.pe).ok x (dM _ hx)).1;have:x.1=i:=aa;rw[this];exact hi
def eO.VO(G0:gK v lr K)(h:eO v lr K c I T items rest given){w:Nat}{r:Rl}(hr:lr[w]?=some r)(hg:w∉given)(hw:bL (bm v items) 0 r.2≠v.getD r.1.toNat 0):
  items.length+given.length+1<=c/\(eO v lr K c I T items rest (w::given)\/∃x rest',x.1∈r.2/\x∈rest/\eO v lr K c I T (items++[x]) rest' given/\bL (bm v I) 0 r.2=v.getD r.1.toNat 0):=by
 by_cases hI:bL (bm v I) 0 r.2=v.getD r.1.toNat 0
 ·have hx:∃x∈rest,x.1∈r.2:=gh λhn=>hw ((h.same G0 (iY hr) λx hx hm=>hn ⟨x,hx,hm⟩).trans hI);obtain⟨x,hx,hm⟩:=hx;have hc:=h.cost G0;have hl:1<=rest.length:=List.length_pos_of_mem hx;refine⟨aa,.inr ⟨x,rest.erase x,hm,hx,⟨h.io,h.to,h.co,?_,h.nd,h.gw⟩,hI⟩⟩;refine h.pe.trans ?_;rw[bW];exact(GG hx).append_left items
 have h2:eO v lr K c I T items rest (w::given):=⟨h.io,h.to,h.co,h.pe,List.nodup_cons.2 ⟨hg,h.nd⟩,λn hn=>(List.mem_cons.1 hn).elim (λe=>by rw[e];exact⟨r,hr,hI⟩) (h.gw n)⟩;have hc:=h2.cost G0;rw[List.length_cons]at hc;exact⟨aa,.inl h2⟩
def eO.right(G0:gK v lr K)(C6:KL v lr K c)(h:eO v lr K c I T items rest given)(hw:∀n,n∉given->¬mf v lr (bm v items) n):
  rest=[]\/items.length+given.length+1<=c/\∃n∈given,∃r,lr[n]?=some r/\∃x rest',x.1∈r.2/\x∈rest/\eO v lr K c I T (items++[x]) rest' given:=by
 by_cases hx:∃x∈rest,∃n∈given,∃r,lr[n]?=some r/\x.1∈r.2
 ·obtain⟨x,hx,n,hn,r,hr,hm⟩:=hx;have hc:=h.cost G0;have hl:1<=rest.length:=List.length_pos_of_mem hx;refine .inr ⟨aa,n,hn,r,hr,x,rest.erase x,hm,hx,⟨h.io,h.to,h.co,?_,h.nd,h.gw⟩⟩;refine h.pe.trans ?_;rw[bW];exact(GG hx).append_left items
 left;obtain⟨T',t1,t2⟩:=Pd (v:=v) (K:=K) (now:=bm v I) (now':=bm v items) lr T (λr hr=>by
  obtain⟨n,hn⟩:=wu hr;by_cases hg:n∈given
  ·exact .inr (h.same G0 hr λx T7 hm=>hx ⟨x,T7,n,hg,r,hn,hm⟩)
  exact .inl (gh λhh=>hw n hg ⟨r,hn,hh⟩)) h.to
 have h1:=C6 items T' h.itm t1;have h3:=h.pe.length_eq;rw[bA]at h3;have:=h.co;exact List.eq_nil_of_length_eq_zero aa
def eO.forced(G0:gK v lr K){x:Fx}(h:eO v lr K c I T (items++[x]) rest given)(hc:items.length+given.length+1=c){r:Rl}(hr:r∈lr)(hm:x.1∈r.2)(hI:bL (bm v I) 0 r.2=v.getD r.1.toNat 0):
  rest=[]/\x.2.2.1=v.getD x.1.toNat 0+v.getD r.1.toNat 0-bL (bm v items) 0 r.2:=by
 have h1:=h.cost G0;rw[bA,List.length_singleton]at h1;have E0:rest=[]:=List.eq_nil_of_length_eq_zero aa;subst E0;have hio:=h.io.perm h.pe;rw[List.append_nil]at hio;have hxo:=hio.ok x (dM _ (bh ..));have hnow:bm v I=(bm v items).set x.1.toNat x.2.2.1:=by rw[xb h.pe h.io.pw,List.append_nil,JV]
 have bd:∀(l:List Fx)(j:Nat),cL v lr K l->0<=(bm v l).getD j 0/\(bm v l).getD j 0<=1099511627776:=λl j hl=>by
  by_cases hm:∃y∈l,y.1.toNat=j
  ·obtain⟨y,hy,rfl⟩:=hm;have hyo:=hl.ok y hy;have N6:=hyo.1;rw[ic l v hl.pw y hy aa];have:=(G0.kb y.1 y.2.2.1 (by rw[<-hyo.2.2.1];exact hyo.2.2.2.1)).1;omega
  rw[fG l v j λy hy e=>hm ⟨y,hy,e⟩];exact G0.vb j
 have O4:cL v lr K items:=⟨λy hy=>hio.ok y (ef _ hy),(List.pairwise_append.1 hio.pw).1⟩;have hpl:=G0.pl r hr;have e1:=yO (λj=>bd I j h.io) r.2 0 (mT _) aa;have e2:=yO (λj=>bd items j O4) r.2 0 (mT _) aa;have Y0:=hxo.1;have e3:=Kn (v:=bm v items) (x:=x.2.2.1) r.2 (λj hj=>(G0.pr r hr j hj).1) Y0.1 (by rw[dF];omega) (G0.pa r hr);rw[ad hm]at e3;have e4:(bm v items).getD x.1.toNat 0=v.getD x.1.toNat 0:=fG items v _ λy hy=>(List.pairwise_append.1 hio.pw).2.2 y hy x (bh ..);rw[hnow,e3,e4]at e1;rw[hnow]at hI;refine⟨rfl,?_⟩;omega
end
def oh(l:List Fx):Prop:=List.Pairwise (λx y:Fx=>x.1<y.1) l
def BY:List Fx->Fx->List Fx
 |[],x=>[x]
 |y::l,x=>if x.1<y.1 then x::y::l else y::BY l x
theorem sx:∀(l:List Fx)(x:Fx),(BY l x).Perm (l++[x])
 |[],_=>wa _
 |y::l,x=>by
  rw[BY];split
  ·exact(List.perm_append_comm (l₁:=[x]) (l₂:=y::l))
  exact(sx l x).cons y
theorem JK:∀(l:List Fx)(x:Fx),oh l->(∀y∈l,y.1≠x.1)->oh (BY l x)
 |[],_,_,_=>List.pairwise_singleton _ _
 |y::l,x,h,hn=>by
  obtain⟨h1,h2⟩:=List.pairwise_cons.1 h;have hyx:=hn y (bh ..);rw[BY];by_cases c:x.1<y.1
  ·rw[ad c];refine List.pairwise_cons.2 ⟨λz hz=>?_,h⟩;rcases List.mem_cons.1 hz with rfl|hz
   ·exact c
   have:=h1 z hz;omega
  rw[ab c];refine List.pairwise_cons.2 ⟨λz hz=>?_,JK l x h2 λz hz=>hn z (aU _ hz)⟩;have hz2:=(sx l x).mem_iff.1 hz;rcases List.mem_append.1 hz2 with hz2|hz2
  ·exact h1 z hz2
  rw[List.mem_singleton.1 hz2];omega
theorem Ts:∀(T l:List Fx),(∀x∈T,∀y∈l,y.1≠x.1)->List.Pairwise (λx y:Fx=>x.1≠y.1) T->oh l->(T.foldl BY l).Perm (l++T)/\oh (T.foldl BY l)
 |[],l,_,_,h=>⟨by rw[List.append_nil];exact wa _,h⟩
 |x::T,l,hn,hp,h=>by
  obtain⟨p1,p2⟩:=List.pairwise_cons.1 hp;have hx:=hn x (bh ..);obtain⟨a,b⟩:=Ts T (BY l x) (λt ht y hy=>by
   have:=(sx l x).mem_iff.1 hy;rcases List.mem_append.1 this with h1|h1
   ·exact hn t (aU _ ht) y h1
   rw[List.mem_singleton.1 h1];exact p1 t ht) p2 (JK l x h hx)
  refine⟨a.trans ?_,b⟩;have:=(sx l x).append_right T;rw[bW]at this;exact this
theorem Nd{f g:List Fx}(hf:oh f)(hg:oh g)(hp:f.Perm g):f=g:=by refine List.Perm.eq_of_pairwise (λa b _ _ h1 h2=>?_) hf hg hp;omega
variable{v:List Int}{lr:List Rl}{K:Int->Int->Int}
def rH{now:List Int}:∀(l:List Rl)(T:List Fx),ee v K now l=some T->(T.map λx=>x.1).Sublist (l.map λr=>r.1)
 |[],T,h=>by cases h;exact List.Sublist.refl _
 |r::l,T,h=>by
  rw[ee]at h;by_cases e:bL now 0 r.2=v.getD r.1.toNat 0
  ·rw[ad e]at h;exact(rH l T h).cons _
  rw[ab e]at h;by_cases b:bL now 0 r.2<1\/1099511627776<bL now 0 r.2
  ·rw[ad b]at h;cases h
  rw[ab b]at h;cases ht:ee v K now l with
  |none=>rw[ht]at h;cases h
  |some T1=>
   rw[ht]at h;cases h
   exact(rH l T1 ht).cons₂ _
def mC{now:List Int}:∀(l:List Rl)(T:List Fx),ee v K now l=some T->∀x∈T,(∃r∈l,x.1=r.1)/\x.2.1=v.getD x.1.toNat 0/\x.2.2.2=if K x.1 x.2.2.1=0 then 5 else K x.1 x.2.2.1
 |[],T,h,x,hx=>by cases h;cases hx
 |r::l,T,h,x,hx=>by
  rw[ee]at h;have up:(∃s∈l,x.1=s.1)->∃s∈r::l,x.1=s.1:=λ⟨s,hs,e⟩=>⟨s,aU _ hs,e⟩;by_cases e:bL now 0 r.2=v.getD r.1.toNat 0
  ·rw[ad e]at h;obtain⟨a,b⟩:=mC l T h x hx;exact⟨up a,b⟩
  rw[ab e]at h;by_cases b:bL now 0 r.2<1\/1099511627776<bL now 0 r.2
  ·rw[ad b]at h;cases h
  rw[ab b]at h;cases ht:ee v K now l with
  |none=>rw[ht]at h;cases h
  |some T1=>
   rw[ht]at h;cases h
   rcases List.mem_cons.1 hx with rfl|hx
   ·exact⟨⟨r,bh ..,rfl⟩,rfl,rfl⟩
   obtain⟨a,b⟩:=mC l T1 ht x hx;exact⟨up a,b⟩
def Mr(G0:gK v lr K){now:List Int}{T:List Fx}(h:ee v K now lr=some T):List.Pairwise (λx y:Fx=>x.1≠y.1) T:=
 List.pairwise_map.1 ((List.pairwise_map.2 G0.td).sublist (rH lr T h))
def Ks(G0:gK v lr K){I T:List Fx}(hI:cL v lr K I){now:List Int}(h:ee v K now lr=some T):∀x∈T,∀y∈I,y.1≠x.1:=λx hx y hy e=>by obtain⟨⟨r,hr,e2⟩,_⟩:=mC lr T h x hx;obtain⟨_,_,_,_,s,hs,hm⟩:=hI.ok y hy;exact G0.tp r hr s hs (by rw[<-e2,<-e];exact hm)
def Sol(v:List Int)(lr:List Rl)(K:Int->Int->Int)(c:Nat)(f:List Fx):Prop:=∃I T,cL v lr K I/\ee v K (bm v I) lr=some T/\I.length+dR T=c/\f.Perm (I++T)/\oh f
def YO{l:List Fx}(h:∀x∈l,0<=x.1):List.Pairwise (λx y:Fx=>x.1.toNat≠y.1.toNat) l->List.Pairwise (λx y:Fx=>x.1≠y.1) l:=λhp=>hp.imp λA6 e=>A6 (by rw[e])
def Sol.of(G0:gK v lr K){I T:List Fx}(h1:cL v lr K I)(h2:ee v K (bm v I) lr=some T)(hA:oh I):Sol v lr K (I.length+dR T) (T.foldl BY I):=by obtain⟨p,q⟩:=Ts T I (λx hx y hy=>Ks G0 h1 h2 x hx y hy) (Mr G0 h2) hA;exact⟨I,T,h1,h2,rfl,p,q⟩
def gy(f:List Fx):List (Int×Int):=f.map λx=>(x.1,x.2.2.1)
open Classical in
def Sol.fix(G0:gK v lr K){c:Nat}{f:List Fx}(h:Sol v lr K c f):∀x∈f,x.2.1=v.getD x.1.toNat 0/\x.2.2.2=if K x.1 x.2.2.1=0 then 5 else K x.1 x.2.2.1:=λx hx=>by
 obtain⟨I,T,h1,h2,_,h4,_⟩:=h;rcases List.mem_append.1 (h4.mem_iff.1 hx)with hx|hx
 ·obtain⟨_,a,b,d,_⟩:=h1.ok x hx;refine⟨a,?_⟩;rw[b]at d;rw[b,ab d]
 exact(mC lr T h2 x hx).2
def Fu:∀{f g:List Fx},(∀x∈f,x.2.1=v.getD x.1.toNat 0/\x.2.2.2=if K x.1 x.2.2.1=0 then 5 else K x.1 x.2.2.1)->(∀x∈g,x.2.1=v.getD x.1.toNat 0/\x.2.2.2=if K x.1 x.2.2.1=0 then 5 else K x.1 x.2.2.1)->gy f=gy g->f=g
 |[],[],_,_,_=>rfl
 |[],_::_,_,_,h=>by cases h
 |_::_,[],_,_,h=>by cases h
 |x::f,y::g,hf,hg,h=>by
  have h1:(x.1,x.2.2.1)=(y.1,y.2.2.1):=(sM h).1;have h2:gy f=gy g:=(sM h).2;obtain⟨a1,a2⟩:=hf x (bh ..);obtain⟨b1,b2⟩:=hg y (bh ..);obtain⟨x1,x2,x3,x4⟩:=x;obtain⟨y1,y2,y3,y4⟩:=y;cases h1
  have a1:x2=v.getD x1.toNat 0:=a1;have b1:y2=v.getD x1.toNat 0:=b1;have a2:x4=if K x1 x3=0 then 5 else K x1 x3:=a2;have b2:y4=if K x1 x3=0 then 5 else K x1 x3:=b2;rw[a1,b1,a2,b2,Fu (λz hz=>hf z (aU _ hz)) (λz hz=>hg z (aU _ hz)) h2]
def eb:List Fx->List Fx->Bool
 |[],[]=>false
 |[],_::_=>true
 |_::_,[]=>false
 |x::a,y::b=>if x.1≠y.1 then decide (x.1<y.1)else if x.2.2.1≠y.2.2.1 then decide (x.2.2.1<y.2.2.1)else eb a b
def uE:∀a:List Fx,eb a a=false
 |[]=>rfl
 |x::a=>by rw[eb,ab (λh=>h rfl),ab (λh=>h rfl)];exact uE a
def np:∀{a b c:List Fx},eb a b=true->eb b c=true->eb a c=true
 |[],[],_,h,_=>by cases h
 |[],_::_,[],_,k=>by cases k
 |[],_::_,_::_,_,_=>rfl
 |_::_,[],_,h,_=>by cases h
 |_::_,_::_,[],_,k=>by cases k
 |x::a,y::b,z::c,h,k=>by
  rw[eb]at h k |-;by_cases c1:x.1≠y.1
  ·rw[ad c1,bB]at h;by_cases c2:y.1≠z.1
   ·rw[ad c2,bB]at k;rw[ad aa,bB];omega
   rw[ad aa,bB];omega
  rw[ab c1]at h;by_cases c2:y.1≠z.1
  ·rw[ad c2,bB]at k;rw[ad aa,bB];omega
  rw[ab c2]at k;rw[ab aa];by_cases d1:x.2.2.1≠y.2.2.1
  ·rw[ad d1,bB]at h;by_cases d2:y.2.2.1≠z.2.2.1
   ·rw[ad d2,bB]at k;rw[ad aa,bB];omega
   rw[ad aa,bB];omega
  rw[ab d1]at h;by_cases d2:y.2.2.1≠z.2.2.1
  ·rw[ad d2,bB]at k;rw[ad aa,bB];omega
  rw[ab d2]at k;rw[ab aa];exact np h k
def ER:∀{a b:List Fx},eb a b=false->eb b a=false->gy a=gy b
 |[],[],_,_=>rfl
 |[],_::_,h,_=>by cases h
 |_::_,[],_,k=>by cases k
 |x::a,y::b,h,k=>by
  rw[eb]at h k;by_cases c1:x.1≠y.1
  ·rw[ad c1,fm]at h;rw[ad (Ne.symm c1),fm]at k;omega
  rw[ab c1]at h;rw[ab (λe=>c1 (Ne.symm e))]at k;by_cases d1:x.2.2.1≠y.2.2.1
  ·rw[ad d1,fm]at h;rw[ad (Ne.symm d1),fm]at k;omega
  rw[ab d1]at h;rw[ab (λe=>d1 (Ne.symm e))]at k;show(x.1,x.2.2.1)::gy a=(y.1,y.2.2.1)::gy b;have e1:x.1=y.1:=gh c1;have e2:x.2.2.1=y.2.2.1:=gh d1;rw[ER h k,e1,e2]
def Sol.tri(G0:gK v lr K){c:Nat}{f g:List Fx}(hf:Sol v lr K c f)(hg:Sol v lr K c g)(h:eb f g=false)(k:eb g f=false):f=g:=Fu (hf.fix G0) (hg.fix G0) (ER h k)
def KN(l:List (List Fx)):Prop:=List.Pairwise (λa b=>eb a b=true) l
variable{v:List Int}{lr:List Rl}{K:Int->Int->Int}
def dQ{α:Type}(w:α->Nat):List α->Nat
 |[]=>0
 |x::l=>w x+dQ w l
theorem Ep{α:Type}{w:α->Nat}{l k:List α}(h:l.Perm k):dQ w l=dQ w k:=by
 induction h with
 |nil=>rfl
 |cons x _ ih=>rw[dQ,dQ,ih]
 |swap x y l=>rw[dQ,dQ,dQ,dQ];omega
 |trans _ _ ih1 ih2=>rw[ih1,ih2]
theorem Kl{α:Type}[BEq α][LawfulBEq α]{w:α->Nat}:∀(l k:List α),l.Nodup->(∀x∈l,x∈k)->dQ w l<=dQ w k
 |[],_,_,_=>Nat.zero_le _
 |x::l,k,hn,hs=>by obtain⟨h1,h2⟩:=List.nodup_cons.1 hn;have hx:=hs x (bh ..);have ih:=Kl (w:=w) l (k.erase x) h2 λy hy=>(List.mem_erase_of_ne (λe=>h1 (by rw[<-e];exact hy))).2 (hs y (aU _ hy));rw[Ep (w:=w) (GG hx),dQ,dQ];omega
theorem xY{α:Type}{w:α->Nat}(p:α->Bool):∀l:List α,dQ w l=dQ w (l.filter p)+dQ w (l.filter λx=>!p x)
 |[]=>rfl
 |x::l=>by
  have ih:=xY (w:=w) p l;rw[List.filter_cons,List.filter_cons];cases h:p x with
  |true=>show w x+dQ w l=(w x+dQ w (l.filter p))+dQ w (l.filter λx=>!p x);omega
  |false=>show w x+dQ w l=dQ w (l.filter p)+(w x+dQ w (l.filter λx=>!p x));omega
theorem Kk{α β:Type}{w:β->Nat}(g:α->β):∀l:List α,dQ w (l.map g)=dQ (λx=>w (g x)) l
 |[]=>rfl
 |x::l=>by rw[List.map_cons,dQ,dQ,Kk g l]
theorem Kj{α:Type}{w:α->Nat}:∀l:List α,(∀x∈l,1<=w x)->l.length<=dQ w l
 |[],_=>Nat.zero_le _
 |x::l,h=>by have h1:=h x (bh ..);have h2:=Kj l λy hy=>h y (aU _ hy);rw[dQ,List.length_cons];omega
variable{v:List Int}{lr:List Rl}{K:Int->Int->Int}
def BC{now V:List Int}:∀(l:List Rl),(∀r∈l,bL now 0 r.2=V.getD r.1.toNat 0/\(V.getD r.1.toNat 0≠v.getD r.1.toNat 0->1<=V.getD r.1.toNat 0/\V.getD r.1.toNat 0<=1099511627776)) ->
  ∃T,ee v K now l=some T/\∀x∈T,x.2.2.1=V.getD x.1.toNat 0/\V.getD x.1.toNat 0≠v.getD x.1.toNat 0
 |[],_=>⟨[],rfl,λ_ h=>absurd h List.not_mem_nil⟩
 |r::l,h=>by
  obtain⟨T,t1,t2⟩:=BC (now:=now) l λs hs=>h s (aU _ hs);obtain⟨a,b⟩:=h r (bh ..);rw[ee,a];by_cases e:V.getD r.1.toNat 0=v.getD r.1.toNat 0
  ·rw[ad e];exact⟨T,t1,t2⟩
  have hb:=b e;rw[ab e,ab aa,t1];refine⟨_,rfl,λx hx=>?_⟩;rcases List.mem_cons.1 hx with rfl|hx
  ·exact⟨rfl,e⟩
  exact t2 x hx
def Ou(v:List Int)(K:Int->Int->Int)(x:Fx):Fx:=(x.1,v.getD x.1.toNat 0,x.2.2.1,K x.1 x.2.2.1)
def wF(K:Int->Int->Int)(x:Fx):Nat:=if K x.1 x.2.2.1=0 then 2 else 1
def CC{T:List Fx}(G0:gK v lr K)(h:∀x∈T,x.2.2.2=if K x.1 x.2.2.1=0 then 5 else K x.1 x.2.2.1):dR T=dQ (wF K) T:=by
 induction T with
 |nil=>rfl
 |cons x T ih=>
  rw[dR,dQ,ih λy hy=>h y (aU _ hy),h x (bh ..)];congr 1
  unfold wF;by_cases hk:K x.1 x.2.2.1=0
  ·rw[ad hk,ad hk,ad rfl]
  rw[ab hk,ab hk,ab (G0.kb _ _ hk).2.2]
open Classical in
def Sol.Uz(G0:gK v lr K){f:List Fx}(hf:oh f)(hr:∀x∈f,(0<=x.1/\x.1<v.length)/\x.2.2.1≠v.getD x.1.toNat 0/\(1<=x.2.2.1/\x.2.2.1<=1099511627776)/\(K x.1 x.2.2.1≠0\/∃r∈lr,r.1=x.1))(hV:∀r∈lr,bL (bm v f) 0 r.2=(bm v f).getD r.1.toNat 0):
  ∃c g,Sol v lr K c g/\c<=dQ (wF K) f:=by
 have hp:List.Pairwise (λx y:Fx=>x.1.toNat≠y.1.toNat) f:=wc (λ{x y}hx hy hxy e=>by have:=(hr x hx).1;have:=(hr y hy).1;omega) hf
 have Q0:∀x∈f,(bm v f).getD x.1.toNat 0=x.2.2.1:=λx hx=>ic f v hp x hx (by have:=(hr x hx).1;omega);have M4:∀j,(∀x∈f,x.1.toNat≠j)->(bm v f).getD j 0=v.getD j 0:=λj h=>fG f v j h;let p:Fx->Bool:=λx=>decide (∃r∈lr,x.1∈r.2)
 let I:=(f.filter p).map (Ou v K)
 have hI:cL v lr K I:=by
  refine⟨λy hy=>?_,List.pairwise_map.2 (hp.sublist List.filter_sublist)⟩;obtain⟨x,hx,rfl⟩:=List.mem_map.1 hy;obtain⟨Y0,U7⟩:=List.mem_filter.1 hx;have U7:=rS U7;obtain⟨a1,a2,a3,a4⟩:=hr x Y0;have hk:K x.1 x.2.2.1≠0:=a4.resolve_right λ⟨r,hr,e⟩=>by obtain⟨s,hs,hm⟩:=U7;exact G0.tp r hr s hs (by rw[e];exact hm)
  exact⟨a1,rfl,rfl,hk,U7⟩
 have hIc:∀y∈I,∃x∈f,x.1=y.1/\x.2.2.1=y.2.2.1/\∃r∈lr,x.1∈r.2:=λy hy=>by obtain⟨x,hx,rfl⟩:=List.mem_map.1 hy;obtain⟨Y0,U7⟩:=List.mem_filter.1 hx;exact⟨x,Y0,rfl,rfl,rS U7⟩
 have hsum:∀r∈lr,bL (bm v I) 0 r.2=(bm v f).getD r.1.toNat 0:=λr N4=>by
  rw[<-hV r N4];refine oV _ _ λi hi=>?_;have hib:=G0.pr r N4 i hi;by_cases hm:∃x∈f,x.1=i
  ·obtain⟨x,hx,rfl⟩:=hm;rw[Q0 x hx];have hy:Ou v K x∈I:=List.mem_map_of_mem (List.mem_filter.2 ⟨hx,aL ⟨r,N4,hi⟩⟩);exact ic I v hI.pw (Ou v K x) hy (by show x.1.toNat<_;omega)
  rw[M4 i.toNat λx hx e=>hm ⟨x,hx,by have:=(hr x hx).1;omega⟩];refine fG I v i.toNat λy hy e=>?_;obtain⟨x,hx,e2,_⟩:=hIc y hy;exact hm ⟨x,hx,by have:=(hr x hx).1;omega⟩
 have hdif:∀j:Nat,(bm v f).getD j 0≠v.getD j 0->∃x∈f,x.1.toNat=j:=λj hj=>gh λhn=>hj (M4 j λx hx e=>hn ⟨x,hx,e⟩);obtain⟨T,t1,t2⟩:=BC (v:=v) (K:=K) (now:=bm v I) (V:=bm v f) lr λr N4=>⟨hsum r N4,λI1=>by obtain⟨x,hx,e⟩:=hdif _ I1;rw[<-e,Q0 x hx];exact(hr x hx).2.2.1⟩
 have hA:oh I:=List.pairwise_map.2 (hf.sublist List.filter_sublist);refine⟨_,_,Sol.of G0 hI t1 hA,?_⟩;have hT:=λx hx=>(mC lr T t1 x hx).2.2;rw[CC G0 hT];have e1:=xY (w:=wF K) p f;have e2:I.length<=dQ (wF K) (f.filter p):=by show((f.filter p).map (Ou v K)).length<=_;rw[cT];exact Kj _ λx _=>by unfold wF;split<;>omega
 have e3:dQ (wF K) T<=dQ (wF K) (f.filter λx=>!p x):=by
  have key:∀k:List Fx,dQ (wF K) k=dQ (λq:Int×Int=>if K q.1 q.2=0 then 2 else 1) (gy k):=λk=>(Kk (w:=λq:Int×Int=>if K q.1 q.2=0 then 2 else 1) (λx:Fx=>(x.1,x.2.2.1)) k).symm;rw[key,key];refine Kl _ _ ?_ λq hq=>?_
  ·refine List.pairwise_map.2 ((Mr G0 t1).imp λ{a b}A6 e=>A6 ?_);exact(sO e).1
  obtain⟨x,hx,rfl⟩:=List.mem_map.1 hq;obtain⟨u1,u2⟩:=t2 x hx;obtain⟨y,hy,e⟩:=hdif _ u2;obtain⟨⟨r,N4,C0⟩,_⟩:=mC lr T t1 x hx;have h1:=G0.tr r N4;have h2:=(hr y hy).1;have exy:y.1=x.1:=aa;refine List.mem_map.2 ⟨y,List.mem_filter.2 ⟨hy,?_⟩,?_⟩
  ·rw[wv,fm];rintro⟨s,hs,hm⟩;exact G0.tp r N4 s hs (by rw[<-C0,<-exy];exact hm)
  show(y.1,y.2.2.1)=(x.1,x.2.2.1);rw[exy,u1,<-e,Q0 y hy]
 omega
def Xn(G0:gK v lr K){c:Nat}(h:∀c' f,Sol v lr K c' f->c<=c'):KL v lr K c:=λI T h1 h2=>by obtain⟨a,b⟩:=Ts I [] (λ_ _ _ hy=>absurd hy List.not_mem_nil) (YO (λx hx=>(h1.ok x hx).1.1) h1.pw) List.Pairwise.nil;rw[gQ]at a;have e:bm v I=bm v (I.foldl BY []):=xb a.symm h1.pw;have:=h _ _ (Sol.of G0 (h1.perm a.symm) (by rw[<-e];exact h2) b);rwa [a.length_eq]at this
variable{v:List Int}{lr:List Rl}{K:Int->Int->Int}
def Got(limit:Nat)(found:List (List Fx))(f:List Fx):Prop:=if limit=0 then∃g∈found,eb f g=false else f∈found\/limit<found.length
structure FOk(v:List Int)(lr:List Rl)(K:Int->Int->Int)(c limit:Nat)(found:List (List Fx)):Prop where
 st:KN found
 so:∀f∈found,Sol v lr K c f
 on:limit=0->found.length<=1
def FOk.nil{c limit:Nat}:FOk v lr K c limit []:=⟨List.Pairwise.nil,λ_ h=>absurd h List.not_mem_nil,λ_=>Nat.zero_le _⟩
def Got.mem{limit:Nat}{found:List (List Fx)}{f:List Fx}(h:f∈found):Got limit found f:=by
 unfold Got;by_cases c:limit=0
 ·rw[ad c];exact⟨f,h,uE f⟩
 rw[ab c];exact .inl h
def Sx{a b:List Fx}(h:eb a b=true):eb b a=false:=by
 cases k:eb b a with
 |false=>rfl
 |true=>have:=np h k;rw[uE]at this;cases this
def ng(limit:Nat)(a b:List (List Fx)):Prop:=∀g,Got limit a g->Got limit b g
def ng.Yc{limit:Nat}{a:List (List Fx)}:ng limit a a:=λ_ h=>h
def ng.trans{limit:Nat}{a b c:List (List Fx)}(h:ng limit a b)(k:ng limit b c):ng limit a c:=λg hg=>k g (h g hg)
def Fq(limit:Nat)(found:List (List Fx))(i:Nat)(f:List Fx):List (List Fx):=if limit=0 then(found.take i++f::found.drop i).take 1 else found.take i++f::found.drop i
def Xb(G0:gK v lr K){c limit i:Nat}{found:List (List Fx)}{f:List Fx}(hF:FOk v lr K c limit found)(hs:Sol v lr K c f)(hi:i<=found.length)(h1:∀j g,j<i->found[j]?=some g->eb g f=true)(h2:∀j g,i<=j->found[j]?=some g->eb g f=false)
  (hn:∀g,found[i]?=some g->gy g≠gy f):FOk v lr K c limit (Fq limit found i f)/\Got limit (Fq limit found i f) f/\ng limit found (Fq limit found i f):=by
 have X3:KN (found.take i++f::found.drop i):=by
  have t1:KN (found.take i):=List.Pairwise.sublist (List.take_sublist i found) hF.st;have t2:KN (found.drop i):=List.Pairwise.sublist (List.drop_sublist i found) hF.st;have b1:∀g∈found.take i,eb g f=true:=λg hg=>by
   obtain⟨j,hj⟩:=wu hg;have D0:j<i:=by have:=(List.getElem?_eq_some_iff.1 hj).1;rw[dY]at this;omega
   rw[sP D0]at hj;exact h1 j g D0 hj
  have b2:∀g∈found.drop i,eb f g=true:=λg hg=>by
   obtain⟨j,hj⟩:=wu hg;rw[gS]at hj;have hb:=h2 (i+j) g (Nat.le_add_right i j) hj;cases hk:eb f g with
   |true=>rfl
   |false=>
    exfalso;have e:=ER hb hk;cases j with
    |zero=>exact hn g hj e
    |succ j=>have D0:=(List.getElem?_eq_some_iff.1 hj).1;have I2:i<found.length:=aa;have h3:eb found[i] found[i+(j+1)]=true:=List.pairwise_iff_getElem.1 hF.st i (i+(j+1)) I2 D0 aa;have h4:=(List.getElem?_eq_some_iff.1 hj).2;rw[h4,hs.tri G0 (hF.so g (iY hj)) hk hb |>.symm]at h3;have h5:=h2 i found[i] (ai _) (aO I2);rw[h5]at h3;cases h3
  exact List.pairwise_append.2 ⟨t1,List.pairwise_cons.2 ⟨b2,t2⟩,λa ha b hb=>(List.mem_cons.1 hb).elim (λe=>by rw[e];exact b1 a ha) λhb=>np (b1 a ha) (b2 b hb)⟩
 have I0:∀g,g∈found.take i++f::found.drop i↔g=f\/g∈found:=λg=>by
  have e:found.take i++found.drop i=found:=ud i found;rw[js,List.mem_cons];constructor
  ·rintro(h|h|h)
   ·exact .inr (by rw[<-e];exact ef _ h)
   ·exact .inl h
   exact .inr (by rw[<-e];exact dM _ h)
  rintro(h|h)
  ·exact .inr (.inl h)
  rw[<-e]at h;exact(List.mem_append.1 h).elim .inl λh=>.inr (.inr h)
 have V7:∀g∈found.take i++f::found.drop i,Sol v lr K c g:=λg hg=>((I0 g).1 hg).elim (λe=>by rw[e];exact hs) (hF.so g);have hlen:(found.take i++f::found.drop i).length=found.length+1:=by rw[bA,List.length_cons,dY,iZ];omega
 unfold Fq;by_cases c0:limit=0
 ·rw[ad c0];generalize hl:found.take i++f::found.drop i=l at X3 I0 V7 hlen;cases l with
  |nil=>rw[List.length_nil]at hlen;omega
  |cons h l=>
   obtain⟨p1,p2⟩:=List.pairwise_cons.1 X3;have hb:∀g∈h::l,eb g h=false:=λg hg=>(List.mem_cons.1 hg).elim (λe=>by rw[e];exact uE h) λhg=>Sx (p1 g hg);have got:∀g,(∃g'∈h::l,eb g g'=false)->Got limit [h] g:=λg⟨g',R2,hgb⟩=>by
    unfold Got;rw[ad c0];refine⟨h,List.mem_singleton.2 rfl,?_⟩;cases hk:eb g h with
    |false=>rfl
    |true=>
     rcases List.mem_cons.1 R2 with rfl|R2
     ·rw[hk]at hgb;cases hgb
     rw[np hk (p1 g' R2)]at hgb;cases hgb
   refine⟨⟨List.pairwise_singleton _ _,λg hg=>V7 g (by rw[List.mem_singleton.1 hg];exact bh ..),λ_=>ai _⟩,got f ⟨f,(I0 f).2 (.inl rfl),uE f⟩,λg hg=>?_⟩;unfold Got at hg;rw[ad c0]at hg;obtain⟨g',R2,hgb⟩:=hg;exact got g ⟨g',(I0 g').2 (.inr R2),hgb⟩
 rw[ab c0];refine⟨⟨X3,V7,λh=>absurd h c0⟩,Got.mem ((I0 f).2 (.inl rfl)),λg hg=>?_⟩;unfold Got at hg |-;rw[ab c0]at hg |-;exact hg.elim (λh=>.inl ((I0 g).2 (.inr h))) λh=>.inr (by rw[hlen];omega)
theorem Bj(lc:List Cl)(t:Int):∀(l acc:List Int),iQ lc t acc l=true->(∀i∈l,0<=i/\i<lc.length)/\(∀y,acc.getLast?=some y->∀i∈l,y<i)/\List.Pairwise (λa b:Int=>a<b) l
 |[],_,_=>⟨λ_ h=>absurd h List.not_mem_nil,λ_ _ _ h=>absurd h List.not_mem_nil,List.Pairwise.nil⟩
 |m::l,acc,h=>by
  rw[iQ]at h;by_cases c1:m<0
  ·rw[ad c1]at h;cases h
  rw[ab c1]at h;by_cases c2:(lc.length:Int)<=m
  ·rw[ad c2]at h;cases h
  rw[ab c2]at h;by_cases c3:DQ acc m=true
  ·rw[ad c3]at h;cases h
  rw[ab c3]at h;by_cases c4:sS lc m≠sS lc t
  ·rw[ad c4]at h;cases h
  rw[ab c4]at h;obtain⟨a1,a2,a3⟩:=Bj lc t l (acc++[m]) h;have hl:(acc++[m]).getLast?=some m:=List.getLast?_concat;have hm:=a2 m hl;refine⟨λi hi=>?_,λy hy i hi=>?_,List.pairwise_cons.2 ⟨hm,a3⟩⟩
  ·rcases List.mem_cons.1 hi with rfl|hi
   ·omega
   exact a1 i hi
  have hym:y<m:=by unfold DQ at c3;rw[hy]at c3;have:¬decide (m<=y)=true:=c3;rw[bB]at this;omega
  rcases List.mem_cons.1 hi with rfl|hi
  ·exact hym
  have:=hm i hi;omega
theorem JP(lc:List Cl):∀(l:List Rl)(T S:List Int),goR lc T S l=true->(∀r∈l,(0<=r.1/\r.1<lc.length)/\iQ lc r.1 [] r.2=true/\∀t∈T,t≠r.1)/\List.Pairwise (λr s:Rl=>r.1≠s.1) l /\
  ∀j:Nat,j<lc.length->¬((((j:Int)∈T)\/∃r∈l,r.1=(j:Int))/\(((j:Int)∈S)\/∃r∈l,(j:Int)∈r.2))
 |[],T,S,h=>by
  rw[goR,rN]at h;refine⟨λ_ h=>absurd h List.not_mem_nil,List.Pairwise.nil,λj hj⟨h1,h2⟩=>?_⟩;have:=h j (List.mem_range.2 hj);rw[wv,Bool.and_eq_false_iff,yU,yU]at this;have h1:=h1.resolve_right λ⟨_,h,_⟩=>absurd h List.not_mem_nil;have h2:=h2.resolve_right λ⟨_,h,_⟩=>absurd h List.not_mem_nil;rcases this with h3|h3
  ·exact h3 _ h1 (fl _)
  exact h3 _ h2 (fl _)
 |x::l,T,S,h=>by
  rw[goR]at h;by_cases c1:x.1<0
  ·rw[ad c1]at h;cases h
  rw[ab c1]at h;by_cases c2:(lc.length:Int)<=x.1
  ·rw[ad c2]at h;cases h
  rw[ab c2]at h;by_cases c3:T.any (λy=>y==x.1)=true
  ·rw[ad c3]at h;cases h
  rw[ab c3]at h;by_cases c4:iQ lc x.1 [] x.2=false
  ·rw[ad c4]at h;cases h
  rw[ab c4]at h;obtain⟨a1,a2,a3⟩:=JP lc l (T++[x.1]) (S++x.2) h;refine⟨λr hr=>?_,List.pairwise_cons.2 ⟨λr hr=>(a1 r hr).2.2 x.1 (dM _ (bh ..)),a2⟩,λj hj⟨h1,h2⟩=>a3 j hj ⟨?_,?_⟩⟩
  ·rcases List.mem_cons.1 hr with rfl|hr
   ·refine⟨aa,by simpa using c4,λt ht e=>c3 (List.any_eq_true.2 ⟨t,ht,by rw[e];exact fl _⟩)⟩
   obtain⟨b1,b2,b3⟩:=a1 r hr;exact⟨b1,b2,λt ht=>b3 t (ef _ ht)⟩
  ·rcases h1 with h1|⟨r,hr,e⟩
   ·exact .inl (ef _ h1)
   rcases List.mem_cons.1 hr with rfl|hr
   ·exact .inl (dM _ (List.mem_singleton.2 e.symm))
   exact .inr ⟨r,hr,e⟩
  rcases h2 with h2|⟨r,hr,e⟩
  ·exact .inl (ef _ h2)
  rcases List.mem_cons.1 hr with rfl|hr
  ·exact .inl (dM _ e)
  exact .inr ⟨r,hr,e⟩
theorem aa8{lc:List Cl}{lr:List Rl}{v:List Int}{K:Int->Int->Int}(h:goR lc [] [] lr=true)(hl:lc.length<=64)(hlen:v.length=lc.length)(hv:∀x∈v,1<=x/\x<=1099511627776)
  (hk:∀i to,K i to≠0->(1<=to/\to<=1099511627776)/\to≠v.getD i.toNat 0/\K i to≠5):gK v lr K:=by
 obtain⟨a1,a2,a3⟩:=JP lc lr [] [] h;have pr:∀r∈lr,∀i∈r.2,0<=i/\i<v.length:=λr hr=>by rw[hlen];exact(Bj lc r.1 r.2 [] (a1 r hr).2.1).1
 have pa:∀r∈lr,List.Pairwise (λa b:Int=>a<b) r.2:=λr hr=>(Bj lc r.1 r.2 [] (a1 r hr).2.1).2.2;refine⟨λj=>?_,aa,λr hr=>by rw[hlen];exact(a1 r hr).1,pr,pa,λr hr=>?_,λr hr s hs hm=>?_,a2,hk⟩
 ·rw[bt];cases e:v[j]? with
  |none=>exact⟨mT _,aE⟩
  |some x=>have:=hv x (iY e);show 0<=x/\x<=_;omega
 ·have hn:(r.2.map λi=>i.toNat).Nodup:=List.pairwise_map.2 (wc (λ{a b}ha hb A6 e=>by have:=pr r hr a ha;have:=pr r hr b hb;omega) (pa r hr))
  have:=GF (l₂:=List.range 64) hn λi hi=>by obtain⟨m,hm,rfl⟩:=List.mem_map.1 hi;have:=pr r hr m hm;exact List.mem_range.2 aa
  rwa [cT,wj]at this
 have h1:=(a1 r hr).1;have e:((r.1.toNat:Nat):Int)=r.1:=aa;exact a3 r.1.toNat aa ⟨.inr ⟨r,hr,e.symm⟩,.inr ⟨s,hs,by rw[e];exact hm⟩⟩
variable{v:List Int}{lr:List Rl}{K:Int->Int->Int}
structure SelOk(R out:List (List Fx)):Prop where
 st:KN out
 me:∀f∈out,f∈R
 af:∀g∈R,g∉out->∀f∈out,eb f g=true
theorem tX(v:List Int):∀(l:List Rl)(n:Nat)(acc:List Int),pb v n acc l=[]↔acc=[]/\∀r∈l,bL v 0 r.2=v.getD r.1.toNat 0
 |[],n,acc=>by rw[pb];exact⟨λh=>⟨h,λ_ h=>absurd h List.not_mem_nil⟩,λh=>h.1⟩
 |r::l,n,acc=>by
  rw[pb,tX v l];by_cases e:bL v 0 r.2=v.getD r.1.toNat 0
  ·rw[ad e];exact⟨λh=>⟨h.1,λs hs=>(List.mem_cons.1 hs).elim (λe2=>by rw[e2];exact e) (h.2 s)⟩,λh=>⟨h.1,λs hs=>h.2 s (aU _ hs)⟩⟩
  rw[ab e];refine⟨λh=>absurd h.1 (by simp),λh=>absurd (h.2 r (bh ..)) e⟩
variable{v:List Int}{lr:List Rl}{K:Int->Int->Int}
def kM{now:List Int}:∀(l:List Rl)(T:List Fx),ee v K now l=some T->∀x∈T,∃r∈l,x.1=r.1/\x.2.2.1=bL now 0 r.2/\bL now 0 r.2≠v.getD r.1.toNat 0/\1<=bL now 0 r.2/\bL now 0 r.2<=1099511627776
 |[],T,h,x,hx=>by cases h;cases hx
 |r::l,T,h,x,hx=>by
  rw[ee]at h;by_cases e:bL now 0 r.2=v.getD r.1.toNat 0
  ·rw[ad e]at h;obtain⟨s,hs,a⟩:=kM l T h x hx;exact⟨s,aU _ hs,a⟩
  rw[ab e]at h;by_cases b:bL now 0 r.2<1\/1099511627776<bL now 0 r.2
  ·rw[ad b]at h;cases h
  rw[ab b]at h;cases ht:ee v K now l with
  |none=>rw[ht]at h;cases h
  |some T1=>
   rw[ht]at h;cases h
   rcases List.mem_cons.1 hx with rfl|hx
   ·exact⟨r,bh ..,rfl,rfl,e,aa,aa⟩
   obtain⟨s,hs,a⟩:=kM l T1 ht x hx;exact⟨s,aU _ hs,a⟩
def JO(G0:gK v lr K){r s:Rl}(hr:r∈lr)(hs:s∈lr)(e:r.1=s.1):r=s:=by
 obtain⟨n,hn⟩:=wu hr;obtain⟨m,hm⟩:=wu hs;by_cases h:n=m
 ·subst h;rw[hn]at hm;exact dX hm
 exact absurd e (YS G0.td hn hm h)
def Sol.right(G0:gK v lr K){c:Nat}{f:List Fx}(h:Sol v lr K c f):∀r∈lr,bL (bm v f) 0 r.2=(bm v f).getD r.1.toNat 0:=λr hr=>by
 obtain⟨I,T,h1,h2,h3,h4,h5⟩:=h;have X1:∀x∈f,0<=x.1/\x.1<v.length:=λx hx=>by
  rcases List.mem_append.1 (h4.mem_iff.1 hx)with hx|hx
  ·exact(h1.ok x hx).1
  obtain⟨s,hs,e,_⟩:=kM lr T h2 x hx;rw[e];exact G0.tr s hs
 have hp:List.Pairwise (λx y:Fx=>x.1.toNat≠y.1.toNat) f:=wc (λ{x y}hx hy hxy e=>by have:=X1 x hx;have:=X1 y hy;omega) h5
 have hI:∀i∈r.2,(bm v f).getD i.toNat 0=(bm v I).getD i.toNat 0:=λi hi=>by
  have hib:=G0.pr r hr i hi;by_cases hm:∃x∈I,x.1=i
  ·obtain⟨x,hx,rfl⟩:=hm;rw[ic I v h1.pw x hx aa,ic f v hp x (h4.mem_iff.2 (ef _ hx)) aa]
  rw[fG I v i.toNat λx hx e=>hm ⟨x,hx,by have:=(h1.ok x hx).1;omega⟩];refine fG f v i.toNat λx hx e=>?_;have hxb:=X1 x hx;have e2:x.1=i:=aa;rcases List.mem_append.1 (h4.mem_iff.1 hx)with hx|hx
  ·exact hm ⟨x,hx,e2⟩
  obtain⟨s,hs,e3,_⟩:=kM lr T h2 x hx;exact G0.tp s hs r hr (by rw[<-e3,e2];exact hi)
 rw[oV r.2 0 hI];have hrb:=G0.tr r hr;by_cases e:bL (bm v I) 0 r.2=v.getD r.1.toNat 0
 ·rw[e];refine(fG f v _ λx hx e2=>?_).symm;have hxb:=X1 x hx;have e3:x.1=r.1:=aa;rcases List.mem_append.1 (h4.mem_iff.1 hx)with hx|hx
  ·obtain⟨_,_,_,_,s,hs,hm⟩:=h1.ok x hx;exact G0.tp r hr s hs (by rw[<-e3];exact hm)
  obtain⟨s,hs,e4,_,e5,_⟩:=kM lr T h2 x hx;rw[JO G0 hs hr (by rw[<-e4,e3])]at e5;exact e5 e
 obtain⟨x,hx,ex⟩:=yR lr T h2 r hr e;obtain⟨s,hs,e4,e5,_⟩:=kM lr T h2 x hx;rw[JO G0 hs hr (by rw[<-e4,ex])]at e5;have:=ic f v hp x (h4.mem_iff.2 (dM _ hx)) (by rw[ex];omega);rw[ex]at this;rw[this,e5]
def Qx(G0:gK v lr K){c:Nat}(h:∀c'<c,∀f,¬Sol v lr K c' f):KL v lr K c:=
 Xn G0 λc' f hs=>Nat.not_lt.1 λhl=>h c' hl f hs
def Sol.cost(G0:gK v lr K){c:Nat}{f:List Fx}(h:Sol v lr K c f):dQ (wF K) f=c:=by
 obtain⟨I,T,h1,h2,h3,h4,_⟩:=h;rw[Ep h4,<-h3];have hT:=CC G0 λx hx=>(mC lr T h2 x hx).2.2;have X2:∀a b:List Fx,dQ (wF K) (a++b)=dQ (wF K) a+dQ (wF K) b:=λa b=>by
  induction a with
  |nil=>exact(Nat.zero_add _).symm
  |cons x a ih=>rw[List.cons_append,dQ,dQ,ih];omega
 have hI:∀l:List Fx,(∀x∈l,Rz v lr K x)->dQ (wF K) l=l.length:=λl hl=>by
  induction l with
  |nil=>rfl
  |cons x l ih=>
   rw[dQ,ih λy hy=>hl y (aU _ hy),List.length_cons];obtain⟨_,_,a,b,_⟩:=hl x (bh ..);have:wF K x=1:=by unfold wF;rw[ab (by rw[<-a];exact b)]
   omega
 rw[X2,hI I h1.ok,hT]
theorem tv:aq prog 169=true:=ae
theorem Hw:aq prog 143=true:=ae
theorem tyH:type_of% (zDd tyF arQ (tS (show(8:Int)≠0 by decide))):=zDd tyF arQ (tS (show(8:Int)≠0 by decide))
section
variable{α:Type}[Inhabited α]{c:α->List AC}{cf:α->α->Int}{cl N:Nat}
theorem XL(hm:Cmp c cf cl N)(hsw:Go.Sort.SWO (ltF cf))(id gen n:Nat)(hn:n<=65536)(H:Hp)(d:Array α)(a b lim:Nat)(hs:Srt c H id gen n d)(hN:N<=H.nx)(A6:a<=b)(hb:b<=n)(h12:b-a<=12)(W2:lim<=64):
  Con E2 169 [.one (.o (.sl id gen 0 n 4)),.one (.i .i64 a),.one (.i .i64 b),.one (.i .i64 lim),.one (.o (.clo cl []))] H (λk=>k=id) λr H'=>r=.tup []/\∃d',Srt c H' id gen n d'/\Go.Sort.PermIn a b d d'/\Go.Sort.SortedIn (ltF cf) a b d':=by
 refine Con.iM (λH=>Srt c H id gen n d) hs (λH=>N<=H.nx) hN λH hs hN=>?_;refine C1.EP 148 [] Tryz.func169 λtm h0 h1 h2 h3 h4=>?_;obtain⟨L,hL⟩:∃L,L=b-a:=⟨_,rfl⟩;have hwL:IntKind.i64.wrap ((b:Int)-(a:Int))=(L:Int):=by rw[aI aa aa];omega
 have h12i:(L:Int)<=12:=aa;replace hL:=ah hL;refine zW tyF ?_;refine R1.cR λK k1 k2 k3 k4=>?_;refine R1.loop (λz A H3=>H3=H/\iC A id gen n (ja A a (eJ A b (eK A 4 (.o (.clo cl [])) 148 [])))) ?_ 0 ⟨rfl,zL⟩;clear h0 h1 h2 h3 h4 tm k3;rintro z A H3 ⟨rfl,t0,t1,t2,t4,A0,B0⟩;have hid:=hs.lt;refine R1.cR λK2 q1 q2 q3 q4=>?_;refine zW tyF ?_;refine zG (qA tyF zN) λK5 U0=>?_;refine WE.con (Fs hm H3 id gen n d a b hs hN A6 hb aa) λw' H4 g4⟨hw,O3⟩=>?_;subst hw;obtain⟨x1,x2⟩:=Go.Sort.insertionSort_holds hsw d a b A6 (by have:=hs.sz;omega);replace x1:=ah x1;replace x2:=ah x2;replace O3:=ah O3;refine zK tyF ?_;exact q4.out _ _ (k4.out _ _ ⟨_,_,bp (.inr rfl) qe,g4,λ_=>⟨rfl,_,O3.out,x1.out,x2.out⟩⟩)
theorem Rf(hm:Cmp c cf cl N)(hsw:Go.Sort.SWO (ltF cf))(H:Hp)(id gen n:Nat)(d:Array α)(hs:Srt c H id gen n d)(hN:N<=H.nx)(hn:n<=12):
  Con E2 143 [.one (.o (.sl id gen 0 n 4)),.one (.o (.clo cl []))] H (λk=>k=id) λr H'=>r=.tup []/\∃d',Srt c H' id gen n d'/\d'.toList.Perm d.toList/\Go.Sort.SortedIn (ltF cf) 0 n d':=by
 have hbd:=hm.bd;refine Con.iM (λH=>Srt c H id gen n d) hs (λH=>N<=H.nx) hN λH hs hN=>?_;refine C1.fK 14 [] Tryz.func143 λtm h0 h1=>?_;have hid:=hs.lt;have K0:=hs.sz;have e1:IntKind.u64.wrap (n:Int)=(n:Int):=og aa;have hb:=fb (show n<=65536 by omega);replace K0:=ah K0;refine zW tyF ?_;refine zG (zDe tyU ixS (cvQ dJ mQ) tu) λK hK=>?_;refine WE.con (oJ H n aa) λw' H1 g1 hw=>?_;subst hw;have R4:=hs.fr g1 aF;have hid1:=R4.lt;refine zS (qA tyF tv) ?_;refine WE.con (XL hm hsw id gen n aa H1 d 0 n (Go.Sort.bitsLen n) R4 (aD hN g1.nx) (Nat.zero_le _) (ai _) aa aa) λw' H2 g2⟨hw,d',F2,hp,V7⟩=>?_;subst hw;replace F2:=ah F2;replace hp:=ah hp;replace V7:=ah V7;refine zK tyF ?_;refine⟨_,_,bp (.inl rfl) qe,((Fr.refl (X:=λk=>k=id) H).then g1 λ_ h=>h.elim).then g2 λ_ h=>.inr h,λ_=>⟨rfl,d',F2.out,?_,V7.out⟩⟩;have h3:=hp.out.2.2;have e2:n=d.size:=K0.out.symm;have e3:n=d'.size:=F2.out.1.symm;rw[show d'.extract 0 n=d' from by rw[e3];exact yX,show d.extract 0 n=d from by rw[e2];exact yX]at h3;exact h3
end
theorem Wh:aq prog 171=true:=ae
theorem Ng:aq prog 170=true:=ae
theorem Nf:aq prog 146=true:=ae
def FxB(x:Fx):Prop:=(0<=x.1/\x.1<=64)/\1<=x.2.2.1/\x.2.2.1<=1099511627776
def cxF(x y:Fx):Int:=if x.1≠y.1 then x.1-y.1 else x.2.2.1-y.2.2.1
def oB:List Fx->List Fx->Int
 |[],[]=>0
 |[],_::_=>-1
 |_::_,[]=>1
 |x::a,y::b=>if cxF x y≠0 then cxF x y else oB a b
theorem Ad:∀a b:List Fx,(oB a b<0↔eb a b=true)/\(oB a b=0↔gy a=gy b)
 |[],[]=>by simp[oB,eb,gy]
 |[],_::_=>by simp[oB,eb,gy]
 |_::_,[]=>by simp[oB,eb,gy]
 |x::a,y::b=>by
  obtain⟨h1,h2⟩:=Ad a b;have e:gy (x::a)=gy (y::b)↔(x.1=y.1/\x.2.2.1=y.2.2.1)/\gy a=gy b:=by show(x.1,x.2.2.1)::gy a=(y.1,y.2.2.1)::gy b↔_;rw[sH,Prod.mk.injEq]
  rw[e,oB,eb];unfold cxF;by_cases c1:x.1≠y.1
  ·rw[ad c1,ad (show x.1-y.1≠0 by omega),ad c1,bB];exact⟨aa,⟨λh=>aa,λh=>absurd h.1.1 c1⟩⟩
  rw[ab c1,ab c1];by_cases c2:x.2.2.1≠y.2.2.1
  ·rw[ad (show x.2.2.1-y.2.2.1≠0 by omega),ad c2,bB];exact⟨aa,⟨λh=>aa,λh=>absurd h.1.2 c2⟩⟩
  rw[ab (show¬x.2.2.1-y.2.2.1≠0 by omega),ab c2];exact⟨h1,h2.trans ⟨λh=>⟨⟨aa,aa⟩,h⟩,λh=>h.2⟩⟩
def YV(found:List (List Fx))(f:List Fx)(i:Nat):Prop:=i<=found.length/\(∀j g,j<i->found[j]?=some g->eb g f=true)/\∀j g,i<=j->found[j]?=some g->eb g f=false
theorem SQ(H:Hp)(x y:Fx)(hx:FxB x)(hy:FxB y):Con E2 171 [.agg (fxC x),.agg (fxC y)] H (λ_=>False) λr _=>r=.one (.i .i64 (cxF x y)):=by
 refine Con.nO λH=>?_;obtain⟨x1,x2,x3,x4⟩:=x;obtain⟨y1,y2,y3,y4⟩:=y;have bx:(0<=x1/\x1<=64)/\1<=x3/\x3<=1099511627776:=hx;have bv:(0<=y1/\y1<=64)/\1<=y3/\y3<=1099511627776:=hy;have hw:=bZ (x1-y1);have N2:=bZ (x3-y3);show C1 E2 _ [.agg [.i .i64 x1,.i .i64 x2,.i .i64 x3,.i .i64 x4],.agg [.i .i64 y1,.i .i64 y2,.i .i64 y3,.i .i64 y4]] H λv h'=>Fr _ H h'/\∀_:List Nat,v=.one (.i .i64 (if x1≠y1 then x1-y1 else x3-y3));clear hx hy bx bv;refine C1.fK 20 [.tmp 4] Tryz.func171 λtm h0 h1=>?_;by_cases hq:x1=y1
 ·have ce:=beq_iff_eq.2 hq;rw[ab (λh=>h hq)];clear hq;refine zW tyF ?_;exact⟨_,_,au (.i .i64 (x3-y3)) (.inr rfl) qe qp,((Fr.refl _).new _).new _,λ_=>rfl⟩
 have ce:(x1==y1)=false:=aW hq;rw[ad hq];clear hq;refine zW tyF ?_;exact⟨_,_,au (.i .i64 (x1-y1)) (.inr rfl) qe qp,((Fr.refl _).new _).new _,λ_=>rfl⟩
theorem SM(H:Hp)(v w:AC)(l k:List Fx)(hv:SlF H v l)(hw:SlF H w k)(hl:∀x∈l,FxB x)(hk:∀x∈k,FxB x)(hL:l.length<=1000000)(hK:k.length<=1000000):
  Con E2 170 [.one v,.one w,.one (.o (.clo 171 []))] H (λ_=>False) λr _=>r=.one (.i .i64 (oB l k)):=by
 refine Con.iM (λH=>SlF H v l) hv (λH=>SlF H w k) hw λH hv hw=>?_;refine C1.HA 39 [.tmp 6] Tryz.func170 λtm h0 h1 h2=>?_;have fin:=Ax E2 H 6 (oB l k);generalize E0:oB l k=r0 at fin;have l1:=hv.len;have l3:=hv.lt;have l4:=hw.lt;refine zW tyF ?_;refine R1.ed λK k1 k2 k3 k4=>?_;refine R1.loop (λm A H2=>∃i:Nat,m=l.length-i/\i<=l.length/\i<=k.length/\oB (l.drop i) (k.drop i)=r0/\Gr H H2/\wy A.tm 0 1 2 11 (v) (w) (.o (.clo 171 [])) (v) (hY A l.length i (A.nt=39/\A.dfr=[]))) ?_ l.length ⟨0,rfl,Nat.zero_le _,Nat.zero_le _,E0,Fr.refl _,zL⟩;clear h0 h1 h2 tm l1 l3 l4 k3 E0;rintro m A H2 ⟨i,rfl,hi,hik,hr,g2,t0,t1,t2,t11,t12,t13,A0,B0⟩;have O6:=hv.gr g2;have hw2':=hw.gr g2;have m1:=O6.len;have m2:=hw2'.len;have m3:=O6.lt;have m4:=hw2'.lt;refine zW tyF ?_;refine zI tyF (λhc=>?_) (λhc=>?_)
 ·have D0:i<l.length:=aa;have ex:=aO D0;have S0:=List.drop_eq_getElem_cons D0;have Y2:=dK D0;have I0:=cU D0;generalize l[i]=x at ex S0 Y2 I0;have N2:=bw i;have bx:=hl x I0;obtain⟨id,g,off,cells,rfl,hid,B2,Q0⟩:=O6.open aa;have Y0:=Q0 i x ex;have y1:=Y0.all;have y2:=Y0.le;clear Q0 Y0 ex Y2 I0;rw[S0]at hr;refine zW tyF ?_;refine R1.ed λK2 q1 q2 q3 q4=>?_;rw[fxC]at y1;obtain⟨x1,x2,x3,x4⟩:=x;refine zG (qA tyF (ixC D0)) λK hK=>?_;apply hK.out;refine R1.gen (λA1 H1=>Gr H2 H1/\H2.nx<H1.nx/\H1.get H2.nx=some (.arr [.i .i64 x1,.i .i64 x2,.i .i64 x3,.i .i64 x4] 80 0 0)/\gU A1.tm 0 1 2 (.o (.sl id g off l.length 4)) (w) (.o (.clo 171 [])) (gT A1 i (ko A1.tm 8 11 (.o (.ptr H2.nx 0 0 4)) (.o (.sl id g off l.length 4)) (hY A1 l.length i (A1.nt=39/\A1.dfr=[])))))
   ⟨((Fr.refl _).new _).mod _ (.inl (ai _)),aZ _,ao rfl,zL⟩ ?_
  clear t0 t1 t2 t11 t12 t13 A0 B0 A B2 hid y1 y2 hK K m1 m2 m3 m4;rintro A H3 ⟨g3,n3,rx,t0,t1,t2,t7,t8,t11,t12,t13,A0,B0⟩;have j5:=hw2'.gr g3;have m2:=j5.len;have m4:=j5.lt;by_cases hik2:i<k.length
  ·have o8:¬((k.length:Int)<=(i:Int)):=aa;have ey:=aO hik2;have hdk:=List.drop_eq_getElem_cons hik2;have I0:=cU hik2;generalize k[i]=y at ey hdk I0;have bv:=hk y I0;rw[hdk,oB]at hr;obtain⟨id',g',off',cells',rfl,Q7,hgr',hat'⟩:=j5.open aa;have U7:=hat' i y ey;have y3:=U7.all;have y4:=U7.le;clear hat' U7 ey I0 hdk S0;rw[fxC]at y3;obtain⟨z1,z2,z3,z4⟩:=y;refine zW (qA tyF (ixC hik2)) ?_;refine zG (qA tyF Wh) λK hK=>?_;refine WE.con (SQ _ (x1,x2,x3,x4) (z1,z2,z3,z4) bx bv) λw' H4 g4 hq=>?_;subst hq;generalize cxF (x1,x2,x3,x4) (z1,z2,z3,z4)=c at hr;have g24:Gr H2 H4:=((g3.new _).mod _ (.inl g3.nx)).gr g4;by_cases hcz:c=0
   ·have ce:=beq_iff_eq.2 hcz;rw[ab (λh=>h hcz)]at hr;clear hcz;refine zK tyF ?_;apply q1.out;refine zW tyF ?_;exact⟨l.length-(i+1),aa,i+1,rfl,D0,hik2,hr,g2.gr g24,zL⟩
   have ce:(c==0)=false:=aW hcz;replace hr:=ah hr;replace hcz:=ah hcz;refine zK tyF ?_;exact q4.out _ _ (k4.out _ _ (fin (c) _ _ qp qe (g2.gr g24) ((by have h:=hr.out;rw[ad hcz.out]at h;exact h))))
  have o8:(k.length:Int)<=(i:Int):=aa;have C4:k.drop i=[]:=mR aa;rw[C4,oB]at hr;replace hr:=ah hr;clear hik2 C4 S0;refine zW tyF ?_;exact q4.out _ _ (k4.out _ _ (fin (1) _ _ qp qe (g2.gr g3) (hr.out)))
 have U2:i=l.length:=aa;refine zW tyF ?_;apply k2.out;rw[U2,dD]at hr;by_cases B4:l.length<k.length
 ·have o8:((l.length:Int)<(k.length:Int)):=aa;have hdk:k.drop l.length=k[l.length]::k.drop (l.length+1):=List.drop_eq_getElem_cons B4;rw[hdk,oB]at hr;replace hr:=ah hr;clear hdk U2 B4 hc;refine zW tyF ?_;exact fin (-1) _ _ qp qe (g2) (hr.out)
 have o8:¬((l.length:Int)<(k.length:Int)):=aa;have hdk:k.drop l.length=[]:=mR aa;rw[hdk,oB]at hr;replace hr:=ah hr;clear hdk U2 B4 hc;refine zW tyF ?_;exact fin (0) _ _ qp qe (g2) (hr.out)
theorem HP(H:Hp)(v w:AC)(l k:List Fx)(hv:SlF H v l)(hw:SlF H w k)(hl:∀x∈l,FxB x)(hk:∀x∈k,FxB x)(hL:l.length<=1000000)(hM:k.length<=1000000):
  Con E2 146 [.one v,.one w] H (λ_=>False) λr _=>r=.one (.i .i64 (oB l k)):=by
 refine Con.iM (λH=>SlF H v l) hv (λH=>SlF H w k) hw λH hv hw=>?_;refine C1.fK 8 [.tmp 4] Tryz.func146 λtm h0 h1=>?_;have l3:=hv.lt;have l4:=hw.lt;refine zG (qA tyF Ng) λK hK=>?_;apply hK.out;refine zG (qA tyF Ng) λK hK=>?_;refine WE.con (SM H v w l k hv hw hl hk hL hM) λw' H2 g2 hq=>?_;subst hq;refine zK tyF ?_;exact⟨_,_,au (.i .i64 (oB l k)) (.inr rfl) qe qp,g2,λ_=>rfl⟩
theorem Zd:aq prog 145=true:=ae
theorem tyR:type_of% (zDm tyU Ob OZ yp Of MU Od Pb CV CW CX (zDm CY CZ Da IU Ko TW VA TV Vz TZ VB (zDe Uq Uh TX TY))):=
 zDm tyU Ob OZ yp Of MU Od Pb CV CW CX (zDm CY CZ Da IU Ko TW VA TV Vz TZ VB (zDe Uq Uh TX TY))
def FnR(H:Hp)(c:List AC)(f:List Fx):Prop:=∃v,c=[v]/\SlF H v f
theorem FnR.gr{H H':Hp}{c:List AC}{f:List Fx}(h:FnR H c f)(hg:Gr H H'):FnR H' c f:=let ⟨u,h1,h2⟩:=h;⟨u,h1,h2.gr hg⟩
def xZ(H:Hp)(v:AC)(l:List (List Fx)):Prop:=SlR FnR 1 H v l
theorem xZ.gr{H H':Hp}{v:AC}{l:List (List Fx)}(h:xZ H v l)(hg:Gr H H'):xZ H' v l:=SlR.dV h hg.nx (λi hi=>hg.get i hi aF) λ_ _ h=>h.gr hg
theorem xZ.len{H:Hp}{v:AC}{l:List (List Fx)}(h:xZ H v l):eo H 1 (.one v)=.val (.one (.i .i64 (l.length:Int))) H:=SlR.len h
theorem xZ.lt{H:Hp}{v:AC}{l:List (List Fx)}(h:xZ H v l):ltV (.one v) H.nx:=SlR.lt h
theorem xZ.open{H:Hp}{v:AC}{l:List (List Fx)}(h:xZ H v l)(hn:0<l.length):∃id g off cells,v=.o (.sl id g off l.length 1)/\id<H.nx/\rowOf (H.get id) g=some cells/\∀(i:Nat)(x:List Fx),l[i]?=some x->∃u,SlF H u x/\(cells.drop (off+i*1)).headD (.b false)=u/\off+i*1+1<=cells.length:=by
 obtain⟨id,g,off,cells,h1,h2,h3,h4⟩:=SlR.open h hn;refine⟨id,g,off,cells,h1,h2,h3,λi x hx=>?_⟩;obtain⟨h5,c,h6,h7,u,rfl,h8⟩:=h4 i x hx;refine⟨u,h8,?_,h5⟩;cases hd:cells.drop (off+i*1)with
 |nil=>rw[hd]at h6;cases h6
 |cons a l=>rw[hd]at h6;have:[a]=[u]:=h6;cases this;rfl
theorem Ke{found:List (List Fx)}{f:List Fx}(hs:KN found){i j:Nat}{g h:List Fx}(E5:i<=j)(hg:found[i]?=some g)(hh:found[j]?=some h):(eb h f=true->eb g f=true)/\(eb g f=false->eb h f=false):=by
 have key:eb h f=true->eb g f=true:=λhb=>by
  rcases cO i j with h1|h1
  ·obtain⟨a,rfl⟩:=List.getElem?_eq_some_iff.1 hg;obtain⟨b,rfl⟩:=List.getElem?_eq_some_iff.1 hh;exact np (List.pairwise_iff_getElem.1 hs i j a b h1) hb
  have:i=j:=aa;subst this;rw[hg]at hh;cases hh;exact hb
 refine⟨key,λhb=>?_⟩;cases hk:eb h f with
 |false=>rfl
 |true=>rw[key hk]at hb;cases hb
theorem Ws(H:Hp)(v w:AC)(l:List (List Fx))(f:List Fx)(hv:xZ H v l)(hw:SlF H w f)(hs:KN l)(hb:∀g∈l,(∀x∈g,FxB x)/\g.length<=1000000)(hf:∀x∈f,FxB x)(hfl:f.length<=1000000)(hL:l.length<=1000000):
  Con E2 145 [.one v,.one w,.one (.o (.clo 146 []))] H (λ_=>False) λr _=>∃(i:Nat)(b:Bool),r=.tup [(false,[.i .i64 (i:Int)]),(false,[.b b])]/\YV l f i/\(b=true↔∃g,l[i]?=some g/\gy g=gy f):=by
 refine Con.iM (λH=>xZ H v l) hv (λH=>SlF H w f) hw λH hv hw=>?_;refine C1.HA 49 [.tmp 6,.tmp 7] Tryz.func145 λtm h0 h1 h2=>?_;have l1:=hv.len;have l3:=hv.lt;have l4:=hw.lt;refine zW tyR ?_;refine R1.ed λK k1 k2 k3 k4=>?_;refine R1.loop (λm A H2=>∃i j:Nat,m=j-i/\i<=j/\j<=l.length/\(∀q g,q<i->l[q]?=some g->eb g f=true)/\(∀q g,j<=q->l[q]?=some g->eb g f=false)/\Gr H H2/\gU A.tm 0 1 2 (v) (w) (.o (.clo 146 [])) (fI A l.length (lU A i j (A.nt=49/\A.dfr=[])))) ?_ l.length
  ⟨0,l.length,rfl,Nat.zero_le _,ai _,λq g h=>absurd h (Nat.not_lt_zero q),λq g h hg=>(by rw[iw h]at hg;cases hg),Fr.refl _,zL⟩
 clear h0 h1 h2 tm l1 l3 l4 k3;rintro m A H2 ⟨i,j,rfl,E5,hjl,Y1,hhi,g2,t0,t1,t2,t8,t9,t10,A0,B0⟩;have O6:=hv.gr g2;have hw2':=hw.gr g2;have m1:=O6.len;have m3:=O6.lt;have m4:=hw2'.lt;replace Y1:=ah Y1;replace hhi:=ah hhi;by_cases hc:i<j
 ·have U4:(i:Int)<(j:Int):=aa;have e0:shF .shr .u64 ((i+j:Nat):Int) 1=(((i+j)/2:Nat):Int):=Bx (k:=1) aE;have e1:IntKind.i64.wrap ((i:Int)+(j:Int))=((i+j:Nat):Int):=by rw[aI aa aa];omega
  have e2:IntKind.u64.wrap ((i+j:Nat):Int)=((i+j:Nat):Int):=og aa;have e3:=bZ (((i+j)/2:Nat):Int);obtain⟨h,hh⟩:∃h,h=(i+j)/2:=⟨_,rfl⟩;have hih:i<=h:=aa;have hhj:h<j:=aa;rw[<-hh]at e0 e3;clear hh;have D0:h<l.length:=aa;have ex:=aO D0;have I0:=cU D0;generalize l[h]=g at ex I0;obtain⟨bg,bgl⟩:=hb g I0;obtain⟨id,gg,off,cells,rfl,hid,B2,Q0⟩:=O6.open aa;obtain⟨u,hu,y1,y2⟩:=Q0 h g ex;have lu:=hu.lt;have e4:=bw h;replace ex:=ah ex;clear Q0 I0;refine zW (qA tyR (shI (op:=.shr) (show(0:Int)<=1 by decide))) ?_;refine R1.cR λK2 q1 q2 q3 q4=>?_;refine zW (zDf tyR (shI (op:=.shr) (show(0:Int)<=1 by decide)) ixS (cvQ dJ mQ) (cvQ mQ dJ)) ?_;refine zG (zDd tyR (ixC D0) Nf) λK5 U0=>?_;refine WE.con (HP H2 u w g f hu hw2' bg hf bgl hfl) λw' H3 g3 hq=>?_;subst hq;obtain⟨c1,c2⟩:=Ad g f;generalize oB g f=c at c1 c2;replace c1:=ah c1;replace c2:=ah c2;by_cases hcn:c<0
  ·refine zK tyR ?_;apply q1.out;refine⟨j-(h+1),aa,h+1,j,rfl,aa,hjl,λq g' hq R2=>?_,hhi.out,g2.gr g3,zL⟩;exact(Ke hs (show q<=h by omega) R2 ex.out).1 (c1.out.1 hcn)
  refine zK tyR ?_;apply q1.out;refine⟨h-i,aa,i,h,rfl,hih,aa,Y1.out,λq g' hq R2=>?_,g2.gr g3,zL⟩;refine(Ke hs hq ex.out R2).2 ?_;cases hk:eb g f with
  |false=>rfl
  |true=>exact absurd (c1.out.2 hk) hcn
 have U4:¬(i:Int)<(j:Int):=aa;have hij2:i=j:=aa;subst hij2;refine zW tyR ?_;apply k2.out;have fin:∀(b:Bool)(A:ag)(H3:Hp),slot A.tm 6=.one (.i .i64 (i:Int))->slot A.tm 7=.one (.b b)->A.dfr=[]->Gr H H3->(b=true↔∃g,l[i]?=some g/\gy g=gy f)->∃w H4,aH E2 [.tmp 6,.tmp 7] (.ret,A,H3)=.ok [(w,H4)]/\Gr H H4/\∀_:List Nat,∃(i:Nat)(b:Bool),w=.tup [(false,[.i .i64 (i:Int)]),(false,[.b b])]/\YV l f i/\(b=true↔∃g,l[i]?=some g/\gy g=gy f):=λb A H3 h1 h2 h3 h4 h5=>
  ⟨_,H3,bC (.i .i64 (i:Int)) (.b b) (.inr rfl) h3 h1 h2,h4,λ_=>⟨i,b,rfl,⟨hjl,Y1.out,hhi.out⟩,h5⟩⟩
 by_cases D0:i<l.length
 ·have hlti:(i:Int)<(l.length:Int):=aa;have ex:=aO D0;have I0:=cU D0;generalize l[i]=g at ex I0;obtain⟨bg,bgl⟩:=hb g I0;obtain⟨id,gg,off,cells,rfl,hid,B2,Q0⟩:=O6.open aa;obtain⟨u,hu,y1,y2⟩:=Q0 i g ex;have lu:=hu.lt;replace ex:=ah ex;replace fin:=ah fin;clear Q0 I0;refine zG (zDd tyR (ixC D0) Nf) λK5 U0=>?_;refine WE.con (HP H2 u w g f hu hw2' bg hf bgl hfl) λw' H3 g3 hq=>?_;subst hq;obtain⟨c1,c2⟩:=Ad g f;generalize oB g f=c at c1 c2;replace c1:=ah c1;replace c2:=ah c2;refine zK tyR ?_;refine fin.out (c==0) _ _ qp qp qe (g2.gr g3) ?_;rw[gP];refine c2.out.trans ⟨λh=>⟨g,ex.out,h⟩,λ⟨g',h1,h2⟩=>?_⟩;rw[ex.out]at h1;cases h1;exact h2
 have hlti:¬(i:Int)<(l.length:Int):=aa;have ex:l[i]?=none:=iw aa;replace ex:=ah ex;replace fin:=ah fin;refine zW tyR ?_;refine fin.out false _ _ qp qp qe g2 ⟨λh=>(by cases h),λ⟨g',h1,_⟩=>?_⟩;rw[ex.out]at h1;cases h1
theorem Cr:aq prog 101=true:=ae
theorem Wg:aq prog 144=true:=ae
theorem Kt:prog.underlying 30=some (.slice 80):=ae
theorem Hj:dp prog 30=1:=ae
theorem vA:type_of% (Ot Hj Kt):=Ot Hj Kt
def tt(H:Hp)(v:AC)(l:List Fx)(r:Option Nat):Prop:=dz H v 80 4 l.length (l.flatMap fxC) r
theorem tt.slF{H:Hp}{v:AC}{l:List Fx}{r:Option Nat}(h:tt H v l r):SlF H v l:=dz.slc h
theorem Ac(H:Hp)(v:AC)(l:List Fx)(hv:SlF H v l)(hL:l.length*32<=140737488355328):
  Con E2 101 [.one v] H (λ_=>False) λr H'=>∃v' q,r=.one v'/\tt H' v' l q/\∀i,q=some i->H.nx<=i:=by
 refine Con.Iw (λH=>SlF H v l) hv λH e hv=>?_;rw[<-e];clear e;refine C1.jf 8 [.tmp 2] Tryz.func101 λtm h0=>?_;obtain⟨z,hz,S2⟩:=ME;have q5:SlC H v 4 l.length (l.flatMap fxC):=hv;have D0:=hv.lt;rcases id q5 with⟨hc,⟨rfl,D3⟩|⟨id,g,off,rfl,hid,hr⟩⟩
 ·have hl:l=[]:=List.eq_nil_of_length_eq_zero D3;subst hl;clear hz S2 z q5 hc D3 hv;refine zW (qA tyF vA) ?_;exact⟨_,_,au (.o .nilS) (.inr rfl) qe qp,Fr.refl _,λ_=>⟨_,none,rfl,.inl ⟨rfl,rfl,rfl,rfl⟩,λi h=>by cases h⟩⟩
 obtain⟨v',H',X2,ho,hf⟩:=Cm (P:=prog) (H:=H.new (.arr [] 80 0 0)) (t:=30) (id:=H.nx) pX Le hz S2 aE (aJ rfl) (aZ _) (q5.gr ((Fr.refl _).new _)) aa;have hg:Gr H H':=((Fr.refl _).new _).then hf λi h=>.inl aa;have I3:=ho.lt;clear hz S2 z hc;replace hv:=ah hv;replace q5:=ah q5;replace hr:=ah hr;replace hf:=ah hf;refine zW (zDd tyF vA YP) ?_;exact⟨_,_,au v' (.inr rfl) qe qp,hg,λ_=>⟨v',some H.nx,rfl,ho,λi h=>by cases h;exact ai _⟩⟩
abbrev FxN:={x:Fx // 0<=x.1/\x.1<=64}
instance:Inhabited FxN:=⟨⟨(0,0,0,0),⟨mT _,aE⟩⟩⟩
def fxN(x:FxN):List AC:=fxC x.1
def cfX(x y:FxN):Int:=x.1.1-y.1.1
theorem SP(H:Hp)(x y:FxN):Con E2 144 [.agg (fxN x),.agg (fxN y)] H (λ_=>False) λr _=>r=.one (.i .i64 (cfX x y)):=by refine Con.nO λH=>?_;obtain⟨⟨x1,x2,x3,x4⟩,hx⟩:=x;obtain⟨⟨y1,y2,y3,y4⟩,hy⟩:=y;replace hx:0<=x1/\x1<=64:=hx;replace hy:0<=y1/\y1<=64:=hy;have hw:=bZ (x1-y1);show C1 E2 _ [.agg [.i .i64 x1,.i .i64 x2,.i .i64 x3,.i .i64 x4],.agg [.i .i64 y1,.i .i64 y2,.i .i64 y3,.i .i64 y4]] H λv h'=>Fr _ H h'/\∀_:List Nat,v=.one (.i .i64 (x1-y1));clear hx hy;refine C1.fK 10 [.tmp 4] Tryz.func144 λtm h0 h1=>?_;refine zW tyF ?_;exact⟨_,_,au (.i .i64 (x1-y1)) (.inr rfl) qe qp,((Fr.refl _).new _).new _,λ_=>rfl⟩
theorem cmpT:Cmp fxN cfX 144 0 where
 len:=λx=>rfl
 lt:=λx i hi=>by obtain⟨⟨x1,x2,x3,x4⟩,hx⟩:=x;have:i∈([]:List Nat):=hi;cases this
 bd:=Wg
 con:=λH x y _=>SP H x y
theorem swoT:Go.Sort.SWO (ltF cfX)where
 irrefl:=λx=>by unfold ltF cfX;exact aV aa
 trans:=λx y z h1 h2=>by unfold ltF cfX at *;rw[bB]at *;omega
 ntrans:=λx y z h1 h2=>by unfold ltF cfX at *;rw[fm]at *;omega
theorem TJ(H:Hp)(cl:FuncId):Con E2 182 [.one (.o .nilS),.one (.i .i64 0),.one (.i .i64 0),.one (.o (.clo cl []))] H (λ_=>False) λr _=>r=.tup []:=by refine Con.nO λH=>?_;refine C1.nk 53 [] Tryz.func182 λtm h0 h1 h2 h3=>?_;have hw:IntKind.i64.wrap (0+1)=1:=aE;refine zW tyF ?_;refine R1.cR λK k1 k2 k3 k4=>?_;refine R1.loop (λz A H1=>Gr H H1/\kO A 2 8 (.i .i64 (0:Int)) (.i .i64 (1:Int)) 53 []) ?_ 0 ⟨Fr.refl _,zL⟩;clear h0 h1 h2 h3 tm k3;rintro z A H1 ⟨g1,t2,t8,A0,B0⟩;have hc:¬(1:Int)<0:=aE;refine zW tyF ?_;apply k2.out;exact⟨_,_,bp (.inl rfl) qe,g1,λ_=>rfl⟩
theorem UK(H:Hp)(cl:FuncId):Con E2 169 [.one (.o .nilS),.one (.i .i64 0),.one (.i .i64 0),.one (.i .i64 0),.one (.o (.clo cl []))] H (λ_=>False) λr _=>r=.tup []:=by refine Con.nO λH=>?_;refine C1.EP 148 [] Tryz.func169 λtm h0 h1 h2 h3 h4=>?_;have hw:IntKind.i64.wrap (0-0)=0:=aE;refine zW tyF ?_;refine R1.cR λK k1 k2 k3 k4=>?_;refine R1.loop (λz A H1=>Gr H H1/\yf A 0 1 2 4 (.o .nilS) (.i .i64 (0:Int)) (.i .i64 (0:Int)) (.o (.clo cl [])) 148 []) ?_ 0 ⟨Fr.refl _,zL⟩;clear h0 h1 h2 h3 h4 tm k3;rintro z A H1 ⟨g1,t0,t1,t2,t4,A0,B0⟩;have hc:(0:Int)<=12:=aE;refine R1.cR λK2 q1 q2 q3 q4=>?_;refine zW tyF ?_;refine zG (qA tyF zN) λK5 U0=>?_;refine WE.con (TJ H1 cl) λw' H2 g2 Q2=>?_;subst Q2;refine zK tyF ?_;exact q4.out _ _ (k4.out _ _ ⟨_,_,bp (.inr rfl) qe,g1.gr g2,λ_=>rfl⟩)
theorem Rj(H:Hp)(cl:FuncId):Con E2 143 [.one (.o .nilS),.one (.o (.clo cl []))] H (λ_=>False) λr _=>r=.tup []:=by refine Con.nO λH=>?_;refine C1.fK 14 [] Tryz.func143 λtm h0 h1=>?_;have e1:IntKind.u64.wrap 0=0:=og (x:=0) aE;have hlen:=oJ H 0 aE;rw[show((0:Nat):Int)=0 from rfl,show((Go.Sort.bitsLen 0:Nat):Int)=0 from rfl]at hlen;replace hlen:=ah hlen;refine zW tyF ?_;refine zG (zDe tyU ixS (cvQ dJ mQ) tu) λK hK=>?_;refine WE.con hlen.out λw' H1 g1 hw=>?_;subst hw;clear hlen;refine zS (qA tyF tv) ?_;refine WE.con (UK H1 cl) λw' H2 g2 hw=>?_;subst hw;refine zK tyF ?_;exact⟨_,_,bp (.inl rfl) qe,g1.gr g2,λ_=>rfl⟩
def Xi:(l:List Fx)->(∀x∈l,0<=x.1/\x.1<=64)->List FxN
 |[],_=>[]
 |x::l,h=>⟨x,h x (bh ..)⟩::Xi l λy hy=>h y (aU _ hy)
theorem vm:∀(l:List Fx)(h:∀x∈l,0<=x.1/\x.1<=64),(Xi l h).map Subtype.val=l
 |[],_=>rfl
 |x::l,h=>by rw[Xi,List.map_cons,vm l]
theorem wM:∀(l:List FxN),l.flatMap fxN=(l.map Subtype.val).flatMap fxC
 |[]=>rfl
 |x::l=>by rw[List.flatMap_cons,wM l,List.map_cons,List.flatMap_cons];rfl
theorem Ri(H:Hp)(v:AC)(l:List Fx)(r:Option Nat)(hv:tt H v l r)(hl:∀x∈l,0<=x.1/\x.1<=64)(hn:l.length<=12):
  Con E2 143 [.one v,.one (.o (.clo 144 []))] H (λk=>r=some k) λq H'=>q=.tup []/\∃out,tt H' v out r/\out.Perm l/\List.Pairwise (λx y:Fx=>¬y.1<x.1) out:=by
 rcases hv with⟨rfl,h0,_,rfl⟩|⟨id,lo,gen,rfl,rfl,hg,Y1,hlen,hid⟩
 ·have Y4:l=[]:=List.eq_nil_of_length_eq_zero h0;subst Y4;intro lg;refine N1.mono (Rj H 144 lg) λw h'⟨h1,h2⟩=>⟨h1.mono λ_ h=>h.elim,λlg'=>⟨h2 lg',[],.inl ⟨rfl,rfl,rfl,rfl⟩,wa _,List.Pairwise.nil⟩⟩
 have hd:Srt fxN H id gen l.length (Xi l hl).toArray:=by
  refine⟨?_,⟨lo,Y1,?_⟩,hid⟩
  ·have:=congrArg List.length (vm l hl);rw[cT]at this;rw[pj];exact this
  rw[hg];unfold cm;rw[yY,wM,vm]
 intro lg;refine N1.mono (Rf cmpT swoT H id gen l.length _ hd (Nat.zero_le _) aa lg) λw h'⟨h1,h2⟩=>⟨h1.mono λk h=>by rw[h],λlg'=>?_⟩;obtain⟨h3,d',h4,h5,h6⟩:=h2 lg';refine⟨h3,d'.toList.map Subtype.val,?_,?_,?_⟩
 ·obtain⟨lo',hlo',R2⟩:=h4.row;have M1:(d'.toList.map Subtype.val).length=l.length:=by rw[cT,ke];exact h4.sz
  refine .inr ⟨id,lo',gen,rfl,by rw[M1],?_,hlo',by rw[ql NR],h4.lt⟩;rw[R2];unfold cm;rw[wM]
 ·have:=h5.map Subtype.val;rw[yY,vm]at this;exact this
 rw[List.pairwise_map,List.pairwise_iff_getElem];intro i j hi hj E5;rw[ke,h4.sz]at hi hj;have h7:=h6 i j (Nat.zero_le _) E5 hj;have hi':i<d'.size:=by rw[h4.sz];exact hi
 have z6:j<d'.size:=by rw[h4.sz];exact hj
 rw[ub d' i hi',ub d' j z6]at h7;unfold ltF cfX at h7;rw[fm]at h7;rw[yZ,yZ];omega
theorem Wl:aq prog 147=true:=ae
def Fnd(X:Nat->Prop)(H:Hp)(F:AC)(l:List (List Fx))(r:Option Nat):Prop:=
 (F=.o .nilS/\l=[]/\r=none)\/∃id gen lo us ex,F=.o (.sl id gen 0 l.length 1)/\r=some id/\H.get id=some (.arr (us++ex) 30 lo gen)/\lo<=gen/\id<H.nx/\¬X id/\0<l.length /\
  Al (λu f=>SlF H u f/\∀k∈(AV.one u).ids,¬X k/\k≠id) us l
theorem Fnd.nil{X:Nat->Prop}{H:Hp}:Fnd X H (.o .nilS) [] none:=.inl ⟨rfl,rfl,rfl⟩
theorem Fnd.fr{X Y:Nat->Prop}{H H':Hp}{F:AC}{l:List (List Fx)}{r:Option Nat}(h:Fnd X H F l r)(hf:Fr Y H H')(hy:∀i,Y i->X i\/H.nx<=i):Fnd X H' F l r:=by
 rcases h with h|⟨id,gen,lo,us,ex,h1,h2,h3,h4,h5,h6,h7,h8⟩
 ·exact .inl h
 refine .inr ⟨id,gen,lo,us,ex,h1,h2,(hf.get id h5 λhh=>?_).trans h3,h4,ay h5 hf.nx,h6,h7,h8.mono λu f⟨a,b⟩=>⟨SlC.fr a hf λk hk hh=>?_,b⟩⟩
 ·rcases hy _ hh with h|h
  ·exact h6 h
  omega
 rcases hy _ hh with h|h
 ·exact(b k hk).1 h
 have:k<H.nx:=a.lt k hk;omega
theorem Fnd.gr{X:Nat->Prop}{H H':Hp}{F:AC}{l:List (List Fx)}{r:Option Nat}(h:Fnd X H F l r)(hf:Gr H H'):Fnd X H' F l r:=h.fr hf λ_ h=>h.elim
theorem Fnd.lt{X:Nat->Prop}{H:Hp}{F:AC}{l:List (List Fx)}{r:Option Nat}(h:Fnd X H F l r):ltV (.one F) H.nx:=by
 rcases h with⟨rfl,_⟩|⟨id,gen,lo,us,ex,rfl,_,_,_,h5,_⟩
 ·intro i hi;cases hi
 intro i hi;rw[List.mem_singleton.1 hi];exact h5
theorem MX{H:Hp}{Q:AC->List Fx->Prop}:∀{us:List AC}{l:List (List Fx)},Al (λu f=>SlF H u f/\Q u f) us l->Al (λc f=>c.length=1/\FnR H c f) (us.map λu=>[u]) l
 |[],[],_=>trivial
 |u::us,f::l,h=>⟨⟨rfl,u,rfl,h.1.1⟩,MX h.2⟩
 |[],_::_,h=>h.elim
 |_::_,[],h=>h.elim
theorem Fnd.len{X:Nat->Prop}{H:Hp}{F:AC}{l:List (List Fx)}{r:Option Nat}(h:Fnd X H F l r):eo H 1 (.one F)=.val (.one (.i .i64 (l.length:Int))) H:=by rcases h with⟨rfl,rfl,_⟩|⟨id,gen,lo,us,ex,rfl,_⟩<;>rfl
theorem AA:∀us:List AC,(us.map λu=>[u]).flatMap id=us
 |[]=>rfl
 |u::us=>by rw[List.map_cons,List.flatMap_cons,AA us];rfl
theorem Fnd.slff{X:Nat->Prop}{H:Hp}{F:AC}{l:List (List Fx)}{r:Option Nat}(h:Fnd X H F l r):xZ H F l:=by
 rcases h with⟨rfl,rfl,_⟩|⟨id,gen,lo,us,ex,rfl,_,h3,h4,h5,_,_,h8⟩
 ·exact⟨[],⟨by simp,.inl ⟨rfl,rfl⟩⟩,trivial⟩
 have hl:=h8.len;refine⟨us.map λu=>[u],⟨?_,.inr ⟨id,gen,0,rfl,h5,us++ex,?_,?_,?_⟩⟩,MX h8⟩
 ·rw[AA];omega
 ·rw[h3];exact de h4 (ai _)
 ·rw[bA];omega
 rw[List.drop_zero,AA,bR,<-hl,zm];rfl
theorem RY{R:AC->List Fx->Prop}{u:AC}{f:List Fx}(hu:R u f):∀{us:List AC}{l:List (List Fx)}(i:Nat),Al R us l->Al R (us.take i++u::us.drop i) (l.take i++f::l.drop i)
 |[],[],i,_=>by simp only[List.take_nil,List.drop_nil,gQ];exact⟨hu,trivial⟩
 |a::us,b::l,0,h=>⟨hu,h⟩
 |a::us,b::l,i+1,h=>⟨h.1,RY hu i h.2⟩
 |[],_::_,_,h=>h.elim
 |_::_,[],_,h=>h.elim
theorem Fnd.cut{X:Nat->Prop}{H:Hp}{id gen n:Nat}{l:List (List Fx)}{r:Option Nat}(h:Fnd X H (.o (.sl id gen 0 n 1)) l r):1<=n/\Fnd X H (.o (.sl id gen 0 1 1)) (l.take 1) r:=by
 rcases h with⟨h,_⟩|⟨id',gen',lo,us,ex,he,h2,h3,h4,h5,h6,h7,h8⟩
 ·cases h
 cases he
 refine⟨h7,?_⟩;cases us with
 |nil=>cases l with|nil=>exact absurd h7 (Nat.lt_irrefl 0)|cons f l=>exact h8.elim
 |cons u us=>cases l with|nil=>exact h8.elim|cons f l=>exact .inr ⟨id,gen,lo,[u],us++ex,rfl,h2,h3,h4,h5,h6,Nat.one_pos,h8.1,trivial⟩
theorem Xa{H:Hp}{id vid n i vg lo vlo gen:Nat}{cells:List AC}{c:AC}(h1:H.get id=some (.arr cells 30 lo gen))(h2:H.get vid=some (.arr [c] 30 vlo vg))(h3:lo<=gen)(h4:vlo<=vg)(h5:id≠vid)(h6:i<n)(h7:n<=cells.length)(h8:(n+1)*24<=140737488355328):
  insA H [.one (.o (.sl id gen 0 n 1)),.one (.i .i64 (i:Nat)),.one (.o (.sl vid vg 0 1 1))]=some (.one (.o (.sl id (gen+1) 0 (n+1) 1)),id,.arr (insL cells n i c) 30 (gen+1) (gen+1)):=by
 unfold insA;have e1:((i:Int)).toNat=i:=rR i;have e2:(0:Int)<=(i:Int):=aa;simp only[h1,h2,e1,e2,h3,h4,h5,h6,h7,h8,and_self,ne_eq,not_false_eq_true,if_true]
theorem TI{H:Hp}{id vid n i vg lo vlo gen:Nat}{cells:List AC}{c:AC}(h1:H.get id=some (.arr cells 30 lo gen))(h2:H.get vid=some (.arr [c] 30 vlo vg))(h3:lo<=gen)(h4:vlo<=vg)(h5:id≠vid)(h6:i<n)(h7:n<=cells.length)(h8:(n+1)*24<=140737488355328):
  Con E2 147 [.one (.o (.sl id gen 0 n 1)),.one (.i .i64 (i:Nat)),.one (.o (.sl vid vg 0 1 1))] H (λk=>k=id) λr H'=>r=.one (.o (.sl id (gen+1) 0 (n+1) 1))/\H'.nx=H.nx/\H'.get id=some (.arr (insL cells n i c) 30 (gen+1) (gen+1)):=
 Con.dW (v:=.one (.o (.sl id (gen+1) 0 (n+1) 1))) (o:=.arr (insL cells n i c) 30 (gen+1) (gen+1)) rfl (λlg=>Xa (H:=⟨H.t,H.nx,lg⟩) h1 h2 h3 h4 h5 h6 h7 h8) λ_=>⟨rfl,rfl,ao rfl⟩
def Jr(H:Hp)(alt:aj)(x i:AV):aj:=
 match x,i with
 |.one (.o .nilS),.one (.i .i64 n)=>if n=0 then .val (.one (.o .nilS)) H else alt
 |_,_=>alt
theorem Ye:aG prog (Sem.bind (Instr.sliceAt 67 (.slice none 0 0) (some (.int .i64 0)) none none) λv=>Sem.pure (Next.value v))=some (.value (.slice none 0 0)):=ae
theorem QT{tm:PT AV}{H:Hp}{d:Option Tmp}{x i:Operand}{ty:TypeId}{pos:String}{af:Array Edge}{g:Option (Nat×Bool)}:
  aA prog tm H ⟨d,.slice 67 x (some i) none none,ty,pos,af,g⟩=Jr H (cu prog tm H ⟨d,.slice 67 x (some i) none none,ty,pos,af,g⟩) (ev tm x) (ev tm i):=by
 unfold Jr;split
 ·rename_i n hx hi
  by_cases h:n=0
  ·subst h;rw[ad rfl];have vx:(ev tm x).val?=some (.slice none 0 0):=by rw[hx];rfl
   have vi:(ev tm i).val?=some (.int .i64 0):=by rw[hi];rfl
   have dx:bQ (ev tm x)=.slice none 0 0:=by unfold bQ;rw[vx]
   have di:bQ (ev tm i)=.int .i64 0:=by unfold bQ;rw[vi]
   refine nW (v:=.slice none 0 0) ?_ ?_ rfl
   ·show([x,i].all λx=>(ev tm x).val?.isSome)=true;simp only[List.all_cons,List.all_nil,vx,vi];rfl
   show aG prog (Sem.bind (Instr.sliceAt 67 (bQ (ev tm x)) (some (bQ (ev tm i))) none none) λv=>Sem.pure (Next.value v))=_;rw[dx,di];exact Ye
  rw[ab h];rfl
 rfl
theorem Me:(∀(H:Hp)(sz:Nat)(lo hi:Option AV)(alt:aj),ep H sz (.one (.o .nilS)) lo hi alt=alt) /\
  (∀(tm:PT AV)(H:Hp)(d:Option Tmp)(x i:Operand)(ty:TypeId)(pos:String)(af:Array Edge)(g:Option (Nat×Bool)),aA prog tm H ⟨d,.slice 67 x (some i) none none,ty,pos,af,g⟩=Jr H (cu prog tm H ⟨d,.slice 67 x (some i) none none,ty,pos,af,g⟩) (ev tm x) (ev tm i)) /\
  (∀(H:Hp)(alt:aj),Jr H alt (.one (.o .nilS)) (.one (.i .i64 0))=.val (.one (.o .nilS)) H):=⟨λ_ _ _ _ _=>rfl,λ_ _ _ _ _ _ _ _ _=>QT,λ_ _=>by simp[Jr]⟩
theorem IC(H:Hp)(F c:AC)(n vid vg vlo:Nat)(hF:(F=.o .nilS/\n=0)\/∃id gen lo cells,F=.o (.sl id gen 0 n 1)/\H.get id=some (.arr cells 30 lo gen)/\lo<=gen/\id<H.nx/\n<=cells.length/\0<n)(hv:H.get vid=some (.arr [c] 30 vlo vg))(U1:vlo<=vg)(hvx:vid<H.nx)(hn:(n+1)*24<=140737488355328):
  Con E2 147 [.one F,.one (.i .i64 (n:Nat)),.one (.o (.sl vid vg 0 1 1))] H (λk=>∃g m,F=.o (.sl k g 0 m 1)) λr H'=>
   (F=.o .nilS/\∃id,H.nx<=id/\id<H'.nx/\r=.one (.o (.sl id 0 0 1 1))/\H'.get id=some (.arr [c] 30 0 0)) \/
   ∃id gen lo cells,F=.o (.sl id gen 0 n 1)/\H.get id=some (.arr cells 30 lo gen)/\∃lo',lo'<=gen+1/\r=.one (.o (.sl id (gen+1) 0 (n+1) 1))/\H'.get id=some (.arr (cells.take n++[c]) 30 lo' (gen+1)):=by
 refine Con.of rfl (λlg=>?_) (λlg=>?_)
 case _=>
  have e0:H.nx=(⟨H.t,H.nx,lg⟩:Hp).nx:=rfl;rw[e0]at hvx |-;have hv:(⟨H.t,H.nx,lg⟩:Hp).get vid=some (.arr [c] 30 vlo vg):=hv;have hF:(F=.o .nilS/\n=0)\/∃id gen lo cells,F=.o (.sl id gen 0 n 1)/\(⟨H.t,H.nx,lg⟩:Hp).get id=some (.arr cells 30 lo gen)/\lo<=gen/\id<(⟨H.t,H.nx,lg⟩:Hp).nx/\n<=cells.length/\0<n:=hF;show C1 E2 _ _ _ λv h'=>Fr _ _ h'/\∀lg':List Nat,(F=.o .nilS/\∃id,(⟨H.t,H.nx,lg⟩:Hp).nx<=id/\id<h'.nx/\v=.one (.o (.sl id 0 0 1 1))/\h'.get id=some (.arr [c] 30 0 0)) \/
   ∃id gen lo cells,F=.o (.sl id gen 0 n 1)/\(⟨H.t,H.nx,lg⟩:Hp).get id=some (.arr cells 30 lo gen)/\∃lo',lo'<=gen+1/\v=.one (.o (.sl id (gen+1) 0 (n+1) 1))/\h'.get id=some (.arr (cells.take n++[c]) 30 lo' (gen+1))
  clear e0;generalize(⟨H.t,H.nx,lg⟩:Hp)=H at hv hvx hF |-
  refine C1.HA 95 [.tmp 6] Tryz.func147 λtm h0 h1 h2=>?_;obtain⟨z,hz,S2⟩:=VU;have hsrc:mB H 1 (.one (.o (.sl vid vg 0 1 1)))=some (1,[c]):=by rw[xf (cells:=[c]) (by rw[hv];exact de U1 (ai _)) (by show 0+1*1<=1;omega)];rfl
  rcases hF with⟨rfl,rfl⟩|⟨id,gen,lo,cells,rfl,h1,h2,h3,h4,h5⟩
  ·have X2:=zD (P:=prog) (t:=67) yp HG hz S2 aE hsrc aE aE;rw[ab aE]at X2;clear hz S2 z hsrc hn hv;refine zW (qA tyR Me) ?_;exact⟨_,_,au (.o (.sl H.nx 0 0 1 1)) (.inr rfl) qe qp,(Fr.refl _).new _,λ_=>.inl ⟨rfl,H.nx,ai _,aZ _,rfl,aJ rfl⟩⟩
  obtain⟨lo',hlo',X2⟩:=KR (P:=prog) (t:=67) (at_:=n) yp HG hz S2 aE h1 h2 aa hsrc aE aa aa;have I1:((1:Int)==0)=false:=rfl;have hnn:((n:Int)==(n:Int))=true:=fl _;clear hz S2 z hsrc hn hv;rw[bR]at X2;replace h1:=ah h1;refine zW (qA tyR (slL (ai n))) ?_;exact⟨_,_,au (.o (.sl id (gen+1) 0 (n+1) 1)) (.inr rfl) qe qp,(Fr.refl _).mod _ (.inr ⟨gen,n,rfl⟩),λ_=>.inr ⟨id,gen,lo,cells,rfl,h1.out,lo',hlo',rfl,ao rfl⟩⟩
 case _=>
  show insA _ _=none;rcases hF with⟨rfl,_⟩|⟨id,gen,lo,cells,rfl,h1,_⟩
  ·rfl
  cases hx:insA ⟨H.t,H.nx,lg⟩ [.one (.o (.sl id gen 0 n 1)),.one (.i .i64 (n:Nat)),.one (.o (.sl vid vg 0 1 1))]with
  |none=>rfl
  |some x=>obtain⟨_,_,_,i,_,_,_,_,_,_,_,he,_,_,⟨_,_,_,_,hi,_⟩,_⟩:=insA_some hx;simp only[sH,AV.one.injEq,AC.i.injEq,AC.o.injEq,AO.sl.injEq,true_and,and_true]at he;omega
theorem Gq{us ex:List AC}{n i:Nat}(u:AC)(hl:us.length=n)(hi:i<=n):insL (us++ex) n i u=us.take i++u::us.drop i:=by unfold insL;rw[yV aa,<-hl,zm];rfl
theorem TH{X:Nat->Prop}{H:Hp}{F:AC}{l:List (List Fx)}{r:Option Nat}(hF:Fnd X H F l r)(hX:∀k,X k->k<H.nx){vid vg vlo:Nat}{u:AC}{f:List Fx}(hv:H.get vid=some (.arr [u] 30 vlo vg))(U1:vlo<=vg)(hvx:vid<H.nx)(hvr:r≠some vid)(hu:SlF H u f)(hui:∀k∈(AV.one u).ids,¬X k/\some k≠r){i:Nat}(hi:i<=l.length)(hn:(l.length+1)*24<=140737488355328):
  Con E2 147 [.one F,.one (.i .i64 (i:Nat)),.one (.o (.sl vid vg 0 1 1))] H (λk=>r=some k) λq H'=>∃id gen n,q=.one (.o (.sl id gen 0 n 1))/\Fnd X H' (.o (.sl id gen 0 n 1)) (l.take i++f::l.drop i) (some id)/\(r=some id\/H.nx<=id):=by
 have hln:(l.take i++f::l.drop i).length=l.length+1:=by rw[bA,List.length_cons,dY,iZ];omega
 rcases hF with⟨rfl,rfl,rfl⟩|⟨id,gen,lo,us,ex,rfl,rfl,h3,h4,h5,h6,h7,h8⟩
 ·have h0:i=0:=Nat.le_zero.1 hi;subst h0;intro lg;refine N1.mono (IC H (.o .nilS) u 0 vid vg vlo (.inl ⟨rfl,rfl⟩) hv U1 hvx hn lg) λw h'⟨a,b⟩=>⟨a.mono λk⟨g,m,e⟩=>(by cases e),λlg'=>?_⟩;rcases b lg' with⟨_,id,b1,b2,rfl,b3⟩|⟨id,_,_,_,e,_⟩
  ·have hu':SlF h' u f:=SlC.fr (H:=⟨H.t,H.nx,lg⟩) hu a λk _⟨g,m,e⟩=>(by cases e);refine⟨id,0,1,rfl,.inr ⟨id,0,0,[u],[],rfl,rfl,b3,ai _,b2,λhh=>by have:=hX _ hh;omega,Nat.one_pos,⟨hu',λk hk=>⟨(hui k hk).1,λe=>?_⟩⟩,trivial⟩,.inr b1⟩;have:=hu.lt k hk;omega
  cases e
 have Z5:=h8.len;have I1:id≠vid:=λe=>hvr (by rw[e]);have keep:∀{H':Hp}{lg:List Nat},Fr (λk=>k=id) ⟨H.t,H.nx,lg⟩ H'->Al (λu f=>SlF H' u f/\∀k∈(AV.one u).ids,¬X k/\k≠id) (us.take i++u::us.drop i) (l.take i++f::l.drop i):=λ{H' lg}hf=>RY ⟨SlC.fr (H:=⟨H.t,H.nx,lg⟩) hu hf λk hk e=>(hui k hk).2 (by rw[e]),λk hk=>⟨(hui k hk).1,λe=>(hui k hk).2 (by rw[e])⟩⟩ i (h8.mono λv g⟨a,b⟩=>⟨SlC.fr (H:=⟨H.t,H.nx,lg⟩) a hf λk hk=>(b k hk).2,b⟩)
 rcases cO i l.length with D0|hge
 ·intro lg;refine N1.mono (TI h3 hv h4 U1 I1 D0 (by rw[bA];omega) hn lg) λw h'⟨a,b⟩=>⟨a.mono λk e=>by rw[e],λlg'=>?_⟩;obtain⟨rfl,b2,b3⟩:=b lg';have ka:=keep a;refine⟨id,gen+1,l.length+1,rfl,.inr ⟨id,gen+1,gen+1,us.take i++u::us.drop i,[],by rw[hln],rfl,?_,ai _,?_,h6,aa,ka⟩,.inl rfl⟩
  ·rw[List.append_nil,b3,Gq u Z5 hi]
  show id<h'.nx;have:H.nx<=h'.nx:=a.nx;omega
 have U2:i=l.length:=aa;subst U2;intro lg;refine N1.mono (IC H (.o (.sl id gen 0 l.length 1)) u l.length vid vg vlo (.inr ⟨id,gen,lo,us++ex,rfl,h3,h4,h5,by rw[bA];omega,h7⟩) hv U1 hvx hn lg) λw h'⟨a,b⟩=>⟨a.mono λk⟨g,m,e⟩=>(by cases e;rfl),λlg'=>?_⟩;rcases b lg' with⟨e,_⟩|⟨id',gen',lo1,cells,e,hg,lo',b1,rfl,b2⟩
 ·cases e
 cases e
 have G7:cells=us++ex:=by have h3':H.get id=some (.arr (us++ex) 30 lo gen):=h3;rw[h3']at hg;cases hg;rfl
 subst G7;have hf:Fr (λk=>k=id) ⟨H.t,H.nx,lg⟩ h':=a.mono λk⟨g,m,e⟩=>(by cases e;rfl);have ka:=keep hf;refine⟨id,gen+1,l.length+1,rfl,.inr ⟨id,gen+1,lo',us.take l.length++u::us.drop l.length,[],by rw[hln],rfl,?_,b1,?_,h6,aa,ka⟩,.inl rfl⟩
 ·have b2':h'.get id=some (.arr ((us++ex).take l.length++[u]) 30 lo' (gen+1)):=b2;show h'.get id=_;rw[b2',List.append_nil,yV aa,mR aa]
 show id<h'.nx;have:H.nx<=h'.nx:=a.nx;omega
def kF(ld:List Lad)(v:List Int)(i to:Int):Int:=gI (dI (ld.getD i.toNat ([],[])).2 (aC (ld.getD i.toNat ([],[])).2 (v.getD i.toNat 0)) (dG (ld.getD i.toNat ([],[])).1 (ld.getD i.toNat ([],[])).2) (v.getD i.toNat 0)) to
theorem AS{m:Int}:∀{S:List Sp},gI S m≠0->∃x∈S,x.2.2=m/\x.1=gI S m
 |[],h=>absurd rfl h
 |x::S,h=>by
  rw[gI]at h |-;by_cases c:x.2.2=m
  ·rw[ad c];exact⟨x,bh ..,c,rfl⟩
  rw[ab c]at h;rw[ab c];obtain⟨y,hy,a,b⟩:=AS h;exact⟨y,aU _ hy,a,b⟩
structure ot(ld:List Lad)(lr:List Rl)(v:List Int):Prop where
 vl:v.length=ld.length
 v64:v.length<=64
 r64:lr.length<=64
 ck:∀x∈ld,aR x.1 x.2=0
 vr:∀n∈v,1<=n/\n<=1099511627776
 rp:gK v lr (kF ld v)
theorem ot.lad{ld:List Lad}{lr:List Rl}{v:List Int}(h:ot ld lr v){i:Int}(h0:0<=i)(h1:i<v.length):aR (ld.getD i.toNat ([],[])).1 (ld.getD i.toNat ([],[])).2=0/\(1<=v.getD i.toNat 0/\v.getD i.toNat 0<=1099511627776):=by have hv:=h.vl;have a:i.toNat<ld.length:=aa;have b:i.toNat<v.length:=aa;rw[bt,aO a,bt,aO b];exact⟨h.ck _ (cU a),h.vr _ (cU b)⟩
theorem Xe{ld:List Lad}{v:List Int}(hl:v.length=ld.length)(N0:∀x∈ld,aR x.1 x.2=0)(hv:∀n∈v,1<=n/\n<=1099511627776)(i to:Int)(hk:kF ld v i to≠0):(1<=to/\to<=1099511627776)/\to≠v.getD i.toNat 0/\kF ld v i to≠5:=by
 by_cases hi:i.toNat<ld.length
 ·have hc:aR (ld.getD i.toNat ([],[])).1 (ld.getD i.toNat ([],[])).2=0:=by rw[bt,aO hi];exact N0 _ (cU hi)
  have hn:1<=v.getD i.toNat 0:=by rw[bt,aO (show i.toNat<v.length by omega)];exact(hv _ (cU (show i.toNat<v.length by omega))).1
  obtain⟨x,hx,a,b⟩:=AS hk;obtain⟨k1,k2,k3,k4⟩:=sC hc hn hx;have hb:x.1=kF ld v i to:=b;rw[<-hb,<-a];exact⟨⟨k3,k4⟩,k2,aa⟩
 exfalso;apply hk;unfold kF;have e:ld.getD i.toNat ([],[])=([],[]):=by rw[bt,iw aa];rfl
 rw[e];rfl
section
variable{v:List Int}{lr:List Rl}{K:Int->Int->Int}
def Sol.fxb(G0:gK v lr K){c:Nat}{f:List Fx}(h:Sol v lr K c f):(∀x∈f,FxB x)/\f.length<=c:=by
 obtain⟨I,T,h1,h2,h3,h4,_⟩:=h;have U1:=G0.vl;refine⟨λx hx=>?_,?_⟩
 ·rcases List.mem_append.1 (h4.mem_iff.1 hx)with hx|hx
  ·obtain⟨a,_,b,d,_⟩:=h1.ok x hx;rw[b]at d;have:=(G0.kb _ _ d).1;exact⟨aa,this⟩
  obtain⟨s,hs,e4,e5,_,e6,e7⟩:=kM lr T h2 x hx;have:=G0.tr s hs;exact⟨aa,aa⟩
 rw[h4.length_eq,bA];have:=ny T;omega
structure jB(v:List Int)(lr:List Rl)(K:Int->Int->Int)(now:List Int)(items f:List Fx)(cost:Nat)(rest:List Rl)(T0:List Fx):Prop where
 fe:f=items++T0
 co:cost=items.length+dR T0
 to:ee v K now lr=(ee v K now rest).map (T0++·)
def jB.start{now:List Int}{items:List Fx}:jB v lr K now items items items.length lr []:=
 ⟨(List.append_nil _).symm,rfl,by cases ee v K now lr<;>rfl⟩
variable{now:List Int}{items f:List Fx}{cost:Nat}{rest:List Rl}{T0:List Fx}
def jB.skip{x:Rl}(h:jB v lr K now items f cost (x::rest) T0)(e:bL now 0 x.2=v.getD x.1.toNat 0):jB v lr K now items f cost rest T0:=
 ⟨h.fe,h.co,by rw[h.to,ee,ad e]⟩
def jB.none{x:Rl}(h:jB v lr K now items f cost (x::rest) T0)(e:bL now 0 x.2≠v.getD x.1.toNat 0)(b:bL now 0 x.2<1\/1099511627776<bL now 0 x.2):ee v K now lr=none:=by rw[h.to,ee,ab e,ad b];rfl
def wC:∀(a b:List Fx),dR (a++b)=dR a+dR b
 |[],b=>(Nat.zero_add _).symm
 |x::a,b=>by rw[List.cons_append,dR,dR,wC a b];omega
def jB.push(G0:gK v lr K){x:Rl}(h:jB v lr K now items f cost (x::rest) T0)(e:bL now 0 x.2≠v.getD x.1.toNat 0)(b:¬(bL now 0 x.2<1\/1099511627776<bL now 0 x.2)){k:Int}(hk:k=K x.1 (bL now 0 x.2)):
  jB v lr K now items (f++[(x.1,v.getD x.1.toNat 0,bL now 0 x.2,if k=0 then 5 else k)]) (cost+if k=0 then 2 else 1) rest (T0++[(x.1,v.getD x.1.toNat 0,bL now 0 x.2,if k=0 then 5 else k)]):=by
 subst hk;refine⟨by rw[h.fe,bW],?_,?_⟩
 ·rw[wC,h.co];show _=items.length+(dR T0+((if(if K x.1 (bL now 0 x.2)=0 then(5:Int)else K x.1 (bL now 0 x.2))=5 then 2 else 1)+0));by_cases c:K x.1 (bL now 0 x.2)=0
  ·rw[ad c,ad c,ad rfl];omega
  rw[ab c,ab c,ab (G0.kb _ _ c).2.2];omega
 rw[h.to,ee,ab e,ab b];cases ee v K now rest with
 |none=>rfl
 |some T=>show some (T0++_::T)=some ((T0++[_])++T);rw[bW];rfl
def jB.big{c:Nat}(h:jB v lr K now items f cost rest T0)(hc:c<cost){T:List Fx}(ht:ee v K now lr=some T):items.length+dR T≠c:=by
 rw[h.to]at ht;cases hr:ee v K now rest with
 |none=>rw[hr]at ht;cases ht
 |some T1=>
  rw[hr]at ht;cases ht
  have e:dR (T0++T1)=dR T0+dR T1:=wC T0 T1;have hco:=h.co;show items.length+dR (T0++T1)≠c;omega
def jB.done(h:jB v lr K now items f cost [] T0):ee v K now lr=some T0:=by rw[h.to];show some (T0++[])=_;rw[List.append_nil]
structure gV(v:List Int)(lr:List Rl)(K:Int->Int->Int)(c limit:Nat)(items:List Fx)(found found':List (List Fx)):Prop where
 ok:FOk v lr K c limit found'
 le:found'.length<=limit+1
 st:ng limit found found'
 go:∀T f,ee v K (bm v items) lr=some T->items.length+dR T=c->oh f->f.Perm (items++T)->Got limit found' f
def gV.same{c limit:Nat}{found:List (List Fx)}(hF:FOk v lr K c limit found)(hl:found.length<=limit+1)(hn:∀T,ee v K (bm v items) lr=some T->items.length+dR T≠c):gV v lr K c limit items found found:=
 ⟨hF,hl,ng.Yc,λT f h1 h2 _ _=>absurd h2 (hn T h1)⟩
def Za(G0:gK v lr K)(hI:cL v lr K items)(ht:ee v K (bm v items) lr=some T0){out:List Fx}(hp:out.Perm (items++T0))(ho:List.Pairwise (λx y:Fx=>¬y.1<x.1) out):oh out:=by have I1:List.Pairwise (λx y:Fx=>x.1≠y.1) (items++T0):=List.pairwise_append.2 ⟨YO (λx hx=>(hI.ok x hx).1.1) hI.pw,Mr G0 ht,λx hx y hy=>Ks G0 hI ht y hy x hx⟩;have hne2:List.Pairwise (λx y:Fx=>x.1≠y.1) out:=(hp.pairwise_iff λ{x y}h=>λe=>h e.symm).2 I1;exact(ho.and hne2).imp λ{x y}⟨a,b⟩=>aa
def gV.ins(G0:gK v lr K){c limit i:Nat}{found:List (List Fx)}{out:List Fx}(hF:FOk v lr K c limit found)(hl:limit=0\/found.length<=limit)(hI:cL v lr K items)(ht:ee v K (bm v items) lr=some T0)(hc:items.length+dR T0=c)(hp:out.Perm (items++T0))(ho:oh out)(hi:YV found out i)(hn:¬∃g,found[i]?=some g/\gy g=gy out):gV v lr K c limit items found (Fq limit found i out):=by
 have hs:Sol v lr K c out:=⟨items,T0,hI,ht,hc,hp,ho⟩;obtain⟨a,b,d⟩:=Xb G0 hF hs hi.1 hi.2.1 hi.2.2 λg hg e=>hn ⟨g,hg,e⟩;refine⟨a,?_,d,λT f h1 h2 h3 h4=>?_⟩
 ·unfold Fq;have hlen:(found.take i++out::found.drop i).length=found.length+1:=by rw[bA,List.length_cons,dY,iZ];have:=hi.1;omega
  by_cases c0:limit=0
  ·rw[ad c0,dY];omega
  rw[ab c0,hlen];have:=hl.resolve_left c0;omega
 rw[ht]at h1;cases h1;rw[Nd h3 ho (h4.trans hp.symm)];exact b
def gV.had(G0:gK v lr K){c limit i:Nat}{found:List (List Fx)}{out:List Fx}(hF:FOk v lr K c limit found)(hl:found.length<=limit+1)(hI:cL v lr K items)(ht:ee v K (bm v items) lr=some T0)(hc:items.length+dR T0=c)(hp:out.Perm (items++T0))(ho:oh out)(hn:∃g,found[i]?=some g/\gy g=gy out):gV v lr K c limit items found found:=by have hs:Sol v lr K c out:=⟨items,T0,hI,ht,hc,hp,ho⟩;obtain⟨g,hg,e⟩:=hn;have hgm:=iY hg;have:g=out:=Fu ((hF.so g hgm).fix G0) (hs.fix G0) e;subst this;refine⟨hF,hl,ng.Yc,λT f h1 h2 h3 h4=>?_⟩;rw[ht]at h1;cases h1;rw[Nd h3 ho (h4.trans hp.symm)];exact Got.mem hgm
end
theorem hd{p:Prop}(h:p):Hd p:=h
theorem Wq:aq prog 103=true:=ae
structure SrF(H:Hp)(pc pr la vv:AC)(lc:List Cl)(lr:List Rl)(ld:List Lad)(v:List Int):Prop where
 cl:fJ H pc lc
 rl:fu H pr lr
 la:gH H la ld
 vi:SlI H vv v
def SrX(S N:Nat)(k:Nat):Prop:=k=S\/N<=k
def SrD(S N:Nat)(H:Hp)(pc pr la vv:AC)(lc:List Cl)(lr:List Rl)(ld:List Lad)(v:List Int):Prop:=
 N<=H.nx/\∀H',H.nx<=H'.nx->(∀i,i<H.nx->¬SrX S N i->H'.get i=H.get i)->SrF H' pc pr la vv lc lr ld v
theorem SrD.now{S N:Nat}{H:Hp}{pc pr la vv:AC}{lc:List Cl}{lr:List Rl}{ld:List Lad}{v:List Int}(h:SrD S N H pc pr la vv lc lr ld v):SrF H pc pr la vv lc lr ld v:=h.2 H (ai _) λ_ _ _=>rfl
theorem SrD.fr{S N:Nat}{H H':Hp}{pc pr la vv:AC}{lc:List Cl}{lr:List Rl}{ld:List Lad}{v:List Int}{Y:Nat->Prop}(h:SrD S N H pc pr la vv lc lr ld v)(hf:Fr Y H H')(hy:∀k,Y k->SrX S N k):SrD S N H' pc pr la vv lc lr ld v:=
 ⟨aD h.1 hf.nx,λH2 h1 h2=>h.2 H2 (aD hf.nx h1) λi hi hx=>(h2 i (ay hi hf.nx) hx).trans (hf.get i hi λhh=>hx (hy i hh))⟩
theorem SrD.gr{S N:Nat}{H H':Hp}{pc pr la vv:AC}{lc:List Cl}{lr:List Rl}{ld:List Lad}{v:List Int}(h:SrD S N H pc pr la vv lc lr ld v)(hf:Gr H H'):SrD S N H' pc pr la vv lc lr ld v:=h.fr hf λ_ h=>h.elim
def SrR(H:Hp)(S:Nat)(pc pr la vv F:AC)(c limit:Nat):Prop:=S<H.nx/\H.get S=some (.arr [pc,pr,la,vv,.i .i64 (c:Int),.i .i64 (limit:Int),F] 129 0 0)
theorem SrR.fr{H H':Hp}{S:Nat}{pc pr la vv F:AC}{c limit:Nat}{X:Nat->Prop}(h:SrR H S pc pr la vv F c limit)(hf:Fr X H H')(hx:¬X S):SrR H' S pc pr la vv F c limit:=⟨ay h.1 hf.nx,(hf.get S h.1 hx).trans h.2⟩
theorem SrR.gr{H H':Hp}{S:Nat}{pc pr la vv F:AC}{c limit:Nat}(h:SrR H S pc pr la vv F c limit)(hf:Gr H H'):SrR H' S pc pr la vv F c limit:=h.fr hf aF
def TkQ(X:Nat->Prop)(n0 S:Nat)(pc pr la vv:AC)(c limit:Nat)(r:Option Nat)(P:List (List Fx)->Prop)(H':Hp):Prop:=
 ∃F' r' found',SrR H' S pc pr la vv F' c limit/\Fnd X H' F' found' r'/\(∀k,r'=some k->r=some k\/n0<=k)/\P found'
theorem vd{H:Hp}{la:AC}{ld:List Lad}(h:gH H la ld){i:Int}(h0:0<=i)(h1:i<ld.length):∃id g off cells u,la=.o (.sl id g off ld.length 2)/\id<H.nx/\rowOf (H.get id) g=some cells/\SlP H u (ld.getD i.toNat ([],[])).2/\(cells.drop (off+i.toNat*2)).take 2=[.o (.str (ld.getD i.toNat ([],[])).1),u]/\off+i.toNat*2+2<=cells.length:=by
 obtain⟨id,g,off,cells,e1,hid,hg,Q0⟩:=h.open aa;have D0:i.toNat<ld.length:=aa;have ex:ld[i.toNat]?=some (ld.getD i.toNat ([],[])):=by rw[bt,aO D0];rfl
 obtain⟨u,a,b,d,_⟩:=Q0 _ _ ex;exact⟨id,g,off,cells,u,e1,hid,hg,a,b,d⟩
theorem mD{H:Hp}{vv:AC}{v:List Int}(h:SlI H vv v){i:Int}(h0:0<=i)(h1:i<v.length):∃id g off cells,vv=.o (.sl id g off v.length 1)/\id<H.nx/\rowOf (H.get id) g=some cells/\(cells.drop (off+i.toNat*1)).headD (.b false)=.i .i64 (v.getD i.toNat 0)/\off+i.toNat*1+1<=cells.length:=by
 obtain⟨id,g,off,cells,e1,hid,hg,Q0⟩:=h.open aa;have ex:v[i.toNat]?=some (v.getD i.toNat 0):=by rw[bt,aO (show i.toNat<v.length by omega)];rfl
 obtain⟨e3,e4⟩:=Q0 _ _ ex;exact⟨id,g,off,cells,e1,hid,hg,e3,e4⟩
theorem wR{ld:List Lad}{lr:List Rl}{v:List Int}(G0:ot ld lr v)(H:Hp)(i to:Int)(ul:AC)(h0:0<=i)(h1:i<v.length)(Z5:SlP H ul (ld.getD i.toNat ([],[])).2):
  Con E2 52 [.agg [.o (.str (ld.getD i.toNat ([],[])).1),ul],.one (.i .i64 to),.one (.i .i64 (v.getD i.toNat 0))] H (λ_=>False) λr _=>r=.one (.i .i64 (kF ld v i to)):=by
 obtain⟨N0,b8,O6⟩:=G0.lad h0 h1;exact IM H (ld.getD i.toNat ([],[])).1 ul (ld.getD i.toNat ([],[])).2 to (v.getD i.toNat 0) Z5 N0 b8 O6 (yM N0 (show 0<=v.getD i.toNat 0 by omega) O6)
theorem slH1{len:Nat}(h:1<=len):∀(H:Hp)(id g off sz:Nat)(k:IntKind)(alt:aj),ep H sz (.one (.o (.sl id g off len sz))) none (some (.one (.i k (1:Int)))) alt=.val (.one (.o (.sl id g off 1 sz))) H:=λ_ _ _ _ _ _ _=>JX h
theorem VE{ld:List Lad}{lr:List Rl}{v:List Int}(G0:ot ld lr v)(H:Hp)(S N:Nat)(pc pr la vv F iv nv:AC)(lc:List Cl)(c limit:Nat)(found:List (List Fx))(r:Option Nat)(items:List Fx)
  (hS:SrR H S pc pr la vv F c limit) (hD:SrD S N H pc pr la vv lc lr ld v) {X:Nat->Prop} (hXS:X S) (hXn:∀k,X k->k<H.nx) (hF:Fnd X H F found r) (hi:SlF H iv items) (hn:SlI H nv (bm v items))
  (hI:cL v lr (kF ld v) items) (Z4:items.length<=3) (hc:c<=3) (W2:limit<=100) (hFk:FOk v lr (kF ld v) c limit found) (hl:limit=0\/found.length<=limit):
  Con E2 103 [.one (.o (.ptr S 0 0 7)),.one iv,.one nv] H (λk=>k=S\/r=some k) λq H'=>q=.tup []/\TkQ X H.nx S pc pr la vv c limit r (gV v lr (kF ld v) c limit items found) H':=by
 have hlen1:found.length<=limit+1:=hl.elim (λh=>by have:=hFk.on h;omega) λh=>aa;refine Con.hdb6 (λH=>SrR H S pc pr la vv F c limit) hS (λH=>SrD S N H pc pr la vv lc lr ld v) hD (λH=>∀k,X k->k<H.nx) hXn (λH=>Fnd X H F found r) hF (λH=>SlF H iv items) hi (λH=>SlI H nv (bm v items)) hn λH e hS hD hXn hF hi hn=>?_;rw[<-e];clear e;refine C1.HA 139 [] Tryz.func103 λtm h0 h1 h2=>?_;replace hXS:=hd hXS;replace hXn:=hd hXn;have hrp:=G0.rp;have h64:=G0.v64;have r64:=G0.r64;have U1:Hd _:=G0.vl;have hD0:=hD.now;have i1:=hi.len;have i3:=hi.lt;have n3:=hn.lt;refine zG (qA tyR Cr) λK hK=>?_;refine WE.con (Ac H iv items hi aa) λw' H1 g1⟨u0,q0,hw,hf0,I7⟩=>?_;subst hw;have lu:=hf0.slF.lt;replace hf0:=hd hf0;replace I7:=hd I7;have i1:=(hi.gr g1).len;have i3:=(hi.gr g1).lt;have n3:=(hn.gr g1).lt;have hD1:=hD0.rl.gr g1;have p1:=hD1.len;have p3:=hD1.lt;obtain⟨z7,Q6⟩:=hS.gr g1;refine zK tyR ?_;have fin:∀(A:ag)(H3:Hp),A.dfr=[]->Gr H H3->gV v lr (kF ld v) c limit items found found->∃w H4,aH E2 [] (.ret,A,H3)=.ok [(w,H4)]/\Fr (λk=>k=S\/r=some k) H H4/\∀lg':List Nat,w=.tup []/\TkQ X H.nx S pc pr la vv c limit r (gV v lr (kF ld v) c limit items found) ⟨H4.t,H4.nx,lg'⟩:=λA H3 h1 h2 h3=>
  have a:=hS.gr h2;have b:=hF.gr h2
  ⟨_,H3,bp (.inr rfl) h1,h2.mono λ_ h=>h.elim,λlg'=>⟨rfl,F,r,found,a,b,λk h=>.inl h,h3⟩⟩
 refine R1.ed λK k1 k2 k3 k4=>?_;refine R1.loop (λm A H2=>∃(i:Nat)(T0 f:List Fx)(cost:Nat)(u:AC)(q:Option Nat),m=lr.length-i/\i<=lr.length/\Gr H H2/\Hd (tt H2 u f q)/\Hd (∀k,q=some k->H.nx<=k)/\Hd (jB v lr (kF ld v) (bm v items) items f cost (lr.drop i) T0)/\Hd (cost<=c\/T0=[])/\cost<=3+2*i/\gU A.tm 0 2 6 (.o (.ptr S 0 0 7)) (nv) (u) (gT A cost (slot A.tm 22=.one (pr)/\py A lr.length i (A.nt=139/\A.dfr=[])))) ?_ lr.length
  ⟨0,[],items,items.length,u0,q0,rfl,Nat.zero_le _,g1,hf0,I7,jB.start,.inr rfl,aa,zL⟩
 clear h0 h1 h2 tm i1 i3 n3 p1 p3 lu z7 Q6 hf0 I7 hD1 hK k3;rintro m A H2 ⟨i,T0,f,cost,u,q,rfl,hil2,g2,hf,hq,hT,Z2,hcost,t0,t2,t6,t7,t22,t23,t24,A0,B0⟩;obtain⟨z7,Q6⟩:=hS.gr g2;have hD2:=hD.gr g2;have hDn:=hD2.now;have E4:=hn.gr g2;have n3:=E4.lt;have p1:=hDn.rl.len;have p3:=hDn.rl.lt;have lu:=hf.out.slF.lt;refine zW tyR ?_;refine zI tyR (λU4=>?_) (λU4=>?_)
 ·have D0:i<lr.length:=aa;have ex:=aO D0;have S0:=List.drop_eq_getElem_cons D0;have Y2:=dK D0;have I0:=cU D0;generalize lr[i]=x at ex S0 Y2 I0;have N2:=bw i;have o6:=hrp.tr x I0;have hpr:=hrp.pr x I0;obtain⟨id,g,off,cells,rfl,hid,B2,Q0⟩:=hDn.rl.open aa;obtain⟨u1,Y0⟩:=Q0 i x ex;obtain⟨V2,y1,y2,_,_,_,_⟩:=Y0;rw[S0]at hT;have hpl:=hrp.pl x I0;clear Q0 ex Y2 I0 S0;have lu1:=V2.lt;refine zW tyR ?_;refine R1.ed λK2 q1 q2 q3 q4=>?_;refine zG (qA tyR (ixC D0)) λK hK=>?_;apply hK.out;refine R1.gen (λA4 H4=>Gr H2 H4/\H2.nx<H4.nx/\H4.get H2.nx=some (.arr [.i .i64 x.1,u1] 82 0 0)/\gU A4.tm 0 2 6 (.o (.ptr S 0 0 7)) (nv) (u) (gT A4 cost (ko A4.tm 9 22 (.o (.ptr H2.nx 0 0 2)) (.o (.sl id g off lr.length 2)) (py A4 lr.length i (A4.nt=139/\A4.dfr=[])))))
   ⟨((Fr.refl _).new _).mod _ (.inl (ai _)),aZ _,ao rfl,zL⟩ ?_
  clear t0 t2 t6 t7 t22 t23 t24 A0 B0 A B2 hid y1 y2 hK K lu lu1 n3 p1 p3 z7 Q6;rintro A H4 ⟨g4,n4,rx,t0,t2,t6,t7,t9,t22,t23,t24,A0,B0⟩;have g14:=g2.gr g4;refine zG (qA tyR uD) λK hK=>?_;refine WE.con (sE H4 u1 nv x.1 x.2 (bm v items) (V2.gr g4) (E4.gr g4) (by rw[dF];exact hpr) aa) λw' H5 g5 hq5=>?_;subst hq5;have g15:=g14.gr g5;generalize D3:bL (bm v items) 0 x.2=n;have hT:=hT.out;obtain⟨z7,Q6⟩:=hS.gr g15;have hD5:=(hD.gr g15).now;obtain⟨rx,n5⟩:=bq g5 n4 rx;obtain⟨idv,gv,offv,cellsv,rfl,y8,R7,e3,e4⟩:=mD hD5.vi o6.1 o6.2;have hvt:1<=v.getD x.1.toNat 0/\v.getD x.1.toNat 0<=1099511627776:=(G0.lad o6.1 o6.2).2;by_cases e:n=v.getD x.1.toNat 0
  ·have ce:=beq_iff_eq.2 e;have hT2:=hT.skip (D3.trans e);replace e:=hd e;replace D3:=hd D3;replace hT:=hd hT;refine zK (qA tyR (ixI o6.1 o6.2)) ?_;apply q2.out;refine zW tyR ?_;exact⟨lr.length-(i+1),aa,i+1,T0,f,cost,u,q,rfl,D0,g15,dz.fr hf.out (g4.gr g5) (λ_ _=>aF),hq,hT2,Z2,aa,zL⟩
  have ce:(n==v.getD x.1.toNat 0)=false:=aW e;have e':bL (bm v items) 0 x.2≠v.getD x.1.toNat 0:=λh=>e (D3.symm.trans h);replace e:=hd e;by_cases b:n<1\/1099511627776<n
  ·have M4:ee v (kF ld v) (bm v items) lr=none:=hT.none e' (by rw[D3];exact b);have hp:gV v lr (kF ld v) c limit items found found:=gV.same hFk hlen1 λT h=>by rw[M4]at h;cases h
   replace D3:=hd D3;replace M4:=hd M4;replace hp:=hd hp;replace hT:=hd hT;by_cases b1:n<1
   ·clear b;refine zK (qA tyR (ixI o6.1 o6.2)) ?_;exact q4.out _ _ (k4.out _ _ (fin _ _ qe g15 hp.out))
   have b2:=b.resolve_left b1;clear b;refine zK (qA tyR (ixI o6.1 o6.2)) ?_;exact q4.out _ _ (k4.out _ _ (fin _ _ qe g15 hp.out))
  have b1:¬n<1:=λh=>b (.inl h);have b2:¬1099511627776<n:=λh=>b (.inr h);have hTp:=λk hk=>hT.push hrp e' (by rw[D3];exact b) (k:=k) hk;rw[D3]at hTp;replace hTp:=hd hTp;replace D3:=hd D3;replace hT:=hd hT;clear b;refine zK (qA tyR (ixI o6.1 o6.2)) ?_;refine R1.lp (λA5=>gU A5.tm 0 2 6 (.o (.ptr S 0 0 7)) (nv) (u) (gT A5 cost (gU A5.tm 9 10 22 (.o (.ptr H2.nx 0 0 2)) (.i .i64 (n:Int)) (.o (.sl id g off lr.length 2)) (py A5 lr.length i (A5.nt=139/\A5.dfr=[]))))) zL ?_;clear t0 t2 t6 t7 t9 t22 t23 t24 A0 B0 A hK K;rintro A ⟨t0,t2,t6,t7,t9,t10,t22,t23,t24,A0,B0⟩;have htl:x.1<ld.length:=by have:=U1.out;omega
  obtain⟨idl,gl,offl,cellsl,ul,rfl,hidl,hgrl,Z5,f3,f4⟩:=vd hD5.la o6.1 htl;have lul:=Z5.lt;replace hTp:=hTp.out (kF ld v x.1 n) rfl;replace hTp:=hd hTp;refine zH (zDe tyR (ixI o6.1 o6.2) (ixI o6.1 htl) yj) λK hK=>?_;refine WE.BT (wR G0 H5 x.1 n ul o6.1 o6.2 Z5) λw' H6 g6 hq6=>?_;subst hq6;generalize kF ld v x.1 n=kk at hTp;have g16:=g15.gr g6;obtain⟨z7,Q6⟩:=hS.gr g16;refine zS tyR ?_;apply hK.out;refine R1.gen (λA7 H7=>Gr H6 H7/\H6.nx<H7.nx/\H7.get H6.nx=some (.arr [.i .i64 x.1,.i .i64 (v.getD x.1.toNat 0),.i .i64 n,.i .i64 kk] 80 0 0)/\gU A7.tm 0 2 6 (.o (.ptr S 0 0 7)) (nv) (u) (gT A7 cost (ko A7.tm 11 22 (.o (.ptr H6.nx 0 0 4)) (.o (.sl id g off lr.length 2)) (py A7 lr.length i (A7.nt=139/\A7.dfr=[])))))
   ⟨((Fr.refl _).new _).mod _ (.inl (ai _)),aZ _,ao rfl,zL⟩ ?_
  clear t0 t2 t6 t7 t9 t10 t22 t23 t24 A0 B0 A hK K hgrl hidl f3 f4 R7 y8 e3 e4 z7 Q6 rx lul Z5;rintro A H7 ⟨g7,n7,rx,t0,t2,t6,t7,t11,t22,t23,t24,A0,B0⟩;have g17:=g16.gr g7;have hf7:tt H7 u f q:=dz.fr hf.out ((g4.gr g5).gr (g6.gr g7)) (λ_ _=>aF);obtain⟨M,hM⟩:=dZ H6.nx;rw[<-hM]at n7 rx t11;have hMM:H2.nx<=M:=by have:=g4.nx;have:=g5.nx;have:=g6.nx;omega
  clear hM;have w1:=bw cost;have w2:IntKind.i64.wrap (((cost+1:Nat):Int)+1)=((cost+2:Nat):Int):=by rw[aI aa aa];omega
  have hqM:∀k,q=some k->k<H2.nx:=λk hk=>by subst hk;exact dz.rlt hf.out
  replace hqM:=hd hqM;refine zW tyR ?_;repeat refine R1.aM ?_
  refine R1.eV (λB H8=>∃(kf:Int)(cost':Nat),Gr H H8/\Hd (tt H8 u f q)/\M<H8.nx/\H8.get M=some (.arr [.i .i64 x.1,.i .i64 (v.getD x.1.toNat 0),.i .i64 n,.i .i64 kf] 80 0 0)/\Hd (jB v lr (kF ld v) (bm v items) items (f++[(x.1,v.getD x.1.toNat 0,n,kf)]) cost' (lr.drop (i+1)) (T0++[(x.1,v.getD x.1.toNat 0,n,kf)]))/\cost'<=cost+2 /\
   slot B.tm 0=.one ((.o (.ptr S 0 0 7)))/\slot B.tm 2=.one (nv)/\slot B.tm 6=.one (u)/\slot B.tm 7=.one (.i .i64 (cost':Int))/\slot B.tm 11=.one ((.o (.ptr M 0 0 4)))/\slot B.tm 22=.one ((.o (.sl id g off lr.length 2)))/\slot B.tm 23=.one (.i .i64 (lr.length:Int))/\slot B.tm 24=.one (.i .i64 (i:Int))/\B.nt=139/\B.dfr=[]) (λK4 m1 m2 m3=>?_) ?_
  ·by_cases C4:kk=0
   ·have ce:=beq_iff_eq.2 C4;have hT3:=hTp.out;rw[ad C4,ad C4]at hT3;replace hT3:=hd hT3;replace C4:=hd C4;refine zW tyR ?_;refine m1.out _ _ ⟨5,cost+2,g17.then ((Fr.refl (X:=λk=>k=M) H7).mod _ (.inr rfl)) (λk(hk:k=M)=>.inl (by subst hk;have:=g2.nx;omega)),dz.fr hf7 ((Fr.refl (X:=λk=>k=M) H7).mod _ (.inr rfl)) (λk hk(e:k=M)=>by have:=hqM.out k hk;omega),n7,ao rfl,hT3,ai _,zL⟩
   have ce:(kk==0)=false:=aW C4;have hT3:=hTp.out;rw[ab C4,ab C4]at hT3;replace hT3:=hd hT3;replace C4:=hd C4;refine zW tyR ?_;exact m1.out _ _ ⟨kk,cost+1,g17,hf7,n7,rx,hT3,aa,zL⟩
  clear t0 t2 t6 t7 t11 t22 t23 t24 A0 B0 A rx n7 hTp;rintro A H8 ⟨kf,cost',g18,hf8,n8,rx,hT8,hc8,t0,t2,t6,t7,t11,t22,t23,t24,A0,B0⟩;obtain⟨z7,Q6⟩:=hS.gr g18;by_cases hcb:c<cost'
  ·have hcbi:(c:Int)<(cost':Int):=aa;refine zW tyR ?_;exact q4.out _ _ (k4.out _ _ (fin _ _ qe g18 (gV.same hFk hlen1 λT h=>hT8.out.big hcb h)))
  have hcbi:¬(c:Int)<(cost':Int):=aa;obtain⟨z,hz,S2⟩:=ME;have lf:f.length<=3+2*64:=by have h1:=hT8.out.fe;have h2:=hT8.out.co;have h3:=ny (T0++[(x.1,v.getD x.1.toNat 0,n,kf)]);have h4:=congrArg List.length h1;rw[bA,bA,bA]at h4;rw[bA]at h3;omega
  obtain⟨hlt9,u9,H9,r9,X2,ho9,l8,hr9⟩:=gZ pX Le hz S2 aE hf8.out [.i .i64 x.1,.i .i64 (v.getD x.1.toNat 0),.i .i64 n,.i .i64 kf] rfl aa;clear hz S2 z;replace hcb:=hd hcb;refine zW tyR ?_;refine zG (qA tyR rq) λK hK=>?_;refine⟨hlt9,?_⟩;refine zK tyR ?_;apply q1.out;refine zW tyR ?_;refine⟨lr.length-(i+1),aa,i+1,T0++[(x.1,v.getD x.1.toNat 0,n,kf)],f++[(x.1,v.getD x.1.toNat 0,n,kf)],cost',u9,some r9,rfl,D0,g18.then l8 (λk hk=>.inl (hq.out k hk)),?_,λk hk=>?_,hT8,.inl (Nat.le_of_not_lt hcb.out),aa,zL⟩
  ·show dz _ _ _ _ _ _ _;rw[bA,pk];exact ho9
  cases hk
  rcases hr9 with h|h
  ·exact hq.out _ h
  have:=g18.nx;omega
 have U2:i=lr.length:=aa;rw[U2,dD]at hT;clear U4 hil2 U2;refine zW tyR ?_;apply k2.out;by_cases hce:cost=c
 ·have ce:((cost:Int)==(c:Int))=true:=beq_iff_eq.2 aa;replace hce:=hd hce;refine zW tyR ?_;have hfe:=hT.out.fe;have hTd:=hT.out.done;have hco:=hT.out.co;have hcT:items.length+dR T0=c:=by rw[<-hco];exact hce.out
  replace hfe:=hd hfe;replace hTd:=hd hTd;replace hcT:=hd hcT;replace hco:=hd hco;have hfx:∀x∈f,0<=x.1/\x.1<=64:=λx hx=>by
   rw[hfe.out]at hx;rcases List.mem_append.1 hx with hx|hx
   ·have:=(hI.ok x hx).1;omega
   obtain⟨s,hs,e,_⟩:=kM lr T0 hTd.out x hx;have:=hrp.tr s hs;omega
  have hfl:f.length<=12:=by have h3:=ny T0;rw[hfe.out,bA];have:=hcT.out;omega
  refine zG (qA tyR Hw) λK hK=>?_;refine WE.con (Ri H2 u f q hf.out hfx hfl) λw' H3 f3⟨j5,out,ho3,hp3,hs3⟩=>?_;subst j5;have g3:Gr H H3:=g2.then f3 λk hk=>.inl (hq.out k hk);have hp4:out.Perm (items++T0):=by rw[<-hfe.out];exact hp3
  have hasc:=Za hrp hI hTd.out hp4 hs3;have hsol:Sol v lr (kF ld v) c out:=⟨items,T0,hI,hTd.out,hcT.out,hp4,hasc⟩;obtain⟨L6,hol⟩:=hsol.fxb hrp;obtain⟨z7,Q6⟩:=hS.gr g3;have hF3:=hF.gr g3;have lF:=hF3.lt;have lu3:=ho3.slF.lt;have huq:∀k∈(AV.one u).ids,H.nx<=k:=λk hk=>by
   rcases ho3 with⟨rfl,_⟩|⟨id,lo,gen,h1,rfl,_⟩
   ·cases hk
   rw[List.mem_singleton.1 hk];exact hq.out _ h1
  have hfb:∀g∈found,(∀x∈g,FxB x)/\g.length<=1000000:=λg hg=>by obtain⟨a,b⟩:=(hFk.so g hg).fxb hrp;exact⟨a,aa⟩
  replace huq:=hd huq;replace hfb:=hd hfb;replace hfx:=hd hfx;replace hp3:=hd hp3;replace hs3:=hd hs3;replace hp4:=hd hp4;replace hasc:=hd hasc;replace L6:=hd L6;replace ho3:=hd ho3;refine zK tyR ?_;refine zG (qA tyR Zd) λK hK=>?_;refine WE.con (Ws H3 F u found out hF3.slff (tt.slF ho3.out) hFk.st hfb.out L6.out aa aa) λw' H4 g4⟨j,b,hw4,I5,u7⟩=>?_;subst hw4;have g34:=g3.gr g4;obtain⟨z7,Q6⟩:=hS.gr g34;have hF4:=hF.gr g34;have lF4:=hF4.lt;have ho4:tt H4 u out q:=dz.fr ho3.out g4 (λ_ _=>aF);have lu4:=ho4.slF.lt;replace I5:=hd I5;replace ho4:=hd ho4;have fin2:Hd (∀(A:ag)(H5:Hp)(e:ax)(F':AC)(r':Option Nat)(found':List (List Fx)),(e=.normal\/e=.ret)->A.dfr=[]->Fr (λk=>k=S\/r=some k) H H5->SrR H5 S pc pr la vv F' c limit->Fnd X H5 F' found' r'->(∀k,r'=some k->r=some k\/H.nx<=k)->gV v lr (kF ld v) c limit items found found' ->
   ∃w H4,aH E2 [] (e,A,H5)=.ok [(w,H4)]/\Fr (λk=>k=S\/r=some k) H H4/\∀lg':List Nat,w=.tup []/\TkQ X H.nx S pc pr la vv c limit r (gV v lr (kF ld v) c limit items found) ⟨H4.t,H4.nx,lg'⟩):=λA H5 e F' r' found' he h1 h2 h3 h4 h5 h6=>
   ⟨_,H5,bp he h1,h2,λlg'=>⟨rfl,F',r',found',h3,h4,h5,h6⟩⟩
  cases b with
  |true=>have hp:gV v lr (kF ld v) c limit items found found:=gV.had hrp hFk hlen1 hI hTd.out hcT.out hp4.out hasc.out (u7.1 rfl);replace hp:=hd hp;replace u7:=hd u7;refine zK tyR ?_;exact fin2.out _ _ _ F r found (.inl rfl) qe (g34.mono λ_ h=>h.elim) ⟨z7,Q6⟩ hF4 (λk h=>.inl h) hp.out
  |false=>
   have M4:¬∃g,found[j]?=some g/\gy g=gy out:=λh=>by cases u7.2 h
   have hp:gV v lr (kF ld v) c limit items found (Fq limit found j out):=gV.ins hrp hFk hl hI hTd.out hcT.out hp4.out hasc.out I5.out M4;replace hp:=hd hp;replace M4:=hd M4;replace u7:=hd u7;refine zK tyR ?_;refine R1.lp (λA5=>ko A5.tm 0 6 (.o (.ptr S 0 0 7)) (u) (mX A5 j (A5.nt=139/\A5.dfr=[]))) zL ?_;clear t0 t2 t6 t7 t22 t23 t24 A0 B0 A hK K;rintro A ⟨t0,t6,t12,A0,B0⟩;have hrS:r≠some S:=λh=>by
    rcases hF4 with⟨_,_,e⟩|⟨id,_,_,_,_,_,e,_,_,_,h6,_⟩
    ·rw[h]at e;cases e
    rw[h]at e;cases e;exact h6 hXS.out
   have N4:∀k,r=some k->k<H.nx:=λk h=>by
    rcases hF with⟨_,_,e⟩|⟨id,_,_,_,_,_,e,_,_,h5,_⟩
    ·rw[h]at e;cases e
    rw[h]at e;cases e;exact h5
   have R5:SlF (H4.new (.arr [u] 30 0 0)) u out:=(tt.slF ho4.out).gr ((Fr.refl _).new _);have hF5:Fnd X (H4.new (.arr [u] 30 0 0)) F found r:=hF4.gr ((Fr.refl _).new _);have hrv:r≠some H4.nx:=λh=>by have:=N4 _ h;have:=g34.nx;omega
   have hSl:=hS.1;have hui:∀k∈(AV.one u).ids,¬X k/\some k≠r:=λk hk=>by have h1:=huq.out k hk;exact⟨λhh=>by have:=hXn.out k hh;omega,λe=>by have:=N4 _ e.symm;omega⟩
   have hj:j<=found.length:=I5.out.1;replace hrS:=hd hrS;replace N4:=hd N4;replace R5:=hd R5;replace hF5:=hd hF5;replace hrv:=hd hrv;replace hui:=hd hui;refine zG (zDd tyR rq Wl) λK hK=>?_;refine WE.con (TH hF5.out (λk hk=>by have:=hXn.out k hk;have:=g34.nx;show k<H4.nx+1;omega) (aJ rfl) (ai 0) (aZ _) hrv.out R5.out hui.out hj aa) λw' H6 f6⟨id,gen,n,hw6,hF6,hr6⟩=>?_;subst hw6;have hS6:SrR H6 S pc pr la vv F c limit:=((hS.gr g34).gr ((Fr.refl _).new _)).fr f6 hrS.out;obtain⟨z7,Q6⟩:=hS6;have f46:Fr (λk=>k=S\/r=some k) H H6:=((g34.mono λ_ h=>h.elim).then ((Fr.refl (X:=λ_=>False) H4).new _) λ_ h=>h.elim).then f6 λk h=>.inr (.inr h);replace hF6:=hd hF6;replace f46:=hd f46;have hid6:ltV (.one (.o (.sl id gen 0 n 1))) H6.nx:=hF6.out.lt;refine zS tyR ?_;apply hK.out;refine R1.gen (λA7 H7=>Fr (λk=>k=S) H6 H7/\SrR H7 S pc pr la vv (.o (.sl id gen 0 n 1)) c limit/\eK A7 0 (.o (.ptr S 0 0 7)) 139 []) ⟨(Fr.refl _).mod _ (.inr rfl),⟨z7,ao rfl⟩,zL⟩ ?_;clear t0 t6 t12 A0 B0 A hK K z7 Q6;rintro A H7 ⟨f7,hS7,t0,A0,B0⟩;have f47:Fr (λk=>k=S\/r=some k) H H7:=f46.out.then f7 λk h=>.inr (.inl h);have hF7:Fnd X H7 (.o (.sl id gen 0 n 1)) (found.take j++out::found.drop j) (some id):=hF6.out.fr f7 λk h=>.inl (by rw[h];exact hXS.out);obtain⟨z7,Q6⟩:=hS7;have hr7:∀k,some id=some k->r=some k\/H.nx<=k:=λk h=>by
    cases h
    exact hr6.imp (λh=>h) λh=>by have:=g34.nx;have h:H4.nx+1<=id:=h;omega
   by_cases Y4:limit=0
   ·have ce:((limit:Int)==0)=true:=beq_iff_eq.2 aa;have j6:=hp.out;have he:Fq limit found j out=(found.take j++out::found.drop j).take 1:=ad Y4;rw[he]at j6;obtain⟨C5,hF8⟩:=hF7.cut;replace j6:=hd j6;replace hF8:=hd hF8;replace Y4:=hd Y4;replace he:=hd he;replace hF7:=hd hF7;replace f47:=hd f47;replace hr7:=hd hr7;have hid8:ltV (.one (.o (.sl id gen 0 1 1))) H7.nx:=hF8.out.lt;have hid7:ltV (.one (.o (.sl id gen 0 n 1))) H7.nx:=hF7.out.lt;refine zW (qA tyR (slH1 C5)) ?_;exact fin2.out _ _ _ (.o (.sl id gen 0 1 1)) (some id) _ (.inl rfl) qe (f47.out.mod _ (.inr (.inl rfl))) ⟨z7,ao rfl⟩ (hF8.out.fr ((Fr.refl (X:=λk=>k=S) H7).mod _ (.inr rfl)) λk h=>.inl (by rw[h];exact hXS.out)) hr7.out j6.out
   have ce:((limit:Int)==0)=false:=aW aa;have j6:=hp.out;have he:Fq limit found j out=found.take j++out::found.drop j:=ab Y4;rw[he]at j6;replace j6:=hd j6;replace Y4:=hd Y4;replace he:=hd he;replace hF7:=hd hF7;replace f47:=hd f47;replace hr7:=hd hr7;refine zW tyR ?_;exact fin2.out _ _ _ (.o (.sl id gen 0 n 1)) (some id) _ (.inl rfl) qe f47.out ⟨z7,Q6⟩ hF7.out hr7.out j6.out
 have ce:((cost:Int)==(c:Int))=false:=aW aa;have hp:gV v lr (kF ld v) c limit items found found:=gV.same hFk hlen1 λT h=>by rw[hT.out.done]at h;cases h;rw[<-hT.out.co];exact hce
 replace hp:=hd hp;replace hce:=hd hce;refine zW tyR ?_;exact fin _ _ qe g2 hp.out
section
variable(v:List Int)(lr:List Rl)(K:Int->Int->Int)(c limit:Nat)(items:List Fx)(given:List Nat)
structure Lp(found found':List (List Fx))(due:List Fx->List Fx->Prop):Prop where
 ok:FOk v lr K c limit found'
 le:found'.length<=limit+1
 st:ng limit found found'
 go:∀I T rest f,eO v lr K c I T items rest given->oh f->f.Perm (I++T)->Got limit found' f\/due I T
def aaa(w:Option Nat)(n:Nat):Prop:=match w with|some m=>n=m|none=>n∈given
def aa7(w:Option Nat)(I:List Fx)(r:Rl):Prop:=w≠none->bL (bm v I) 0 r.2=v.getD r.1.toNat 0
def Ex(w:Option Nat)(i:Nat)(I T:List Fx):Prop:=∃n r x rest',i<=n/\aaa given w n/\lr[n]?=some r/\x.1∈r.2/\eO v lr K c I T (items++[x]) rest' given/\aa7 v w I r
def uf(w:Option Nat)(i:Nat)(r:Rl)(ps:List Int)(I T:List Fx):Prop:=(∃x rest',x.1∈ps/\eO v lr K c I T (items++[x]) rest' given/\aa7 v w I r)\/Ex v lr K c items given w (i+1) I T
def Rw(w:Option Nat)(i:Nat)(r:Rl)(ps:List Int)(p:Int)(S:List Int)(I T:List Fx):Prop:=(∃x rest',x.1=p/\x.2.2.1∈S/\eO v lr K c I T (items++[x]) rest' given)\/uf v lr K c items given w i r ps I T
end
def uR(v:List Int)(K:Int->Int->Int)(p to:Int):Fx:=(p,v.getD p.toNat 0,to,K p to)
abbrev pI(v:List Int)(lr:List Rl)(K:Int->Int->Int)(c limit:Nat)(items:List Fx)(given:List Nat)(found found':List (List Fx)):Prop:=Lp v lr K c limit items given found found' λ_ _=>False
section
variable{v:List Int}{lr:List Rl}{K:Int->Int->Int}{c limit:Nat}{items:List Fx}{given:List Nat}{found f1 f2:List (List Fx)}{due due':List Fx->List Fx->Prop}
def Lp.BG(h:Lp v lr K c limit items given found f1 due)(hd:∀I T rest,eO v lr K c I T items rest given->due I T->due' I T):Lp v lr K c limit items given found f1 due':=
 ⟨h.ok,h.le,h.st,λI T rest f a b d=>(h.go I T rest f a b d).imp id (hd I T rest a)⟩
def Lp.next{items':List Fx}{given':List Nat}(h:Lp v lr K c limit items given found f1 due)(k:pI v lr K c limit items' given' f1 f2)(hd:∀I T,due I T->(∃rest',eO v lr K c I T items' rest' given')\/due' I T):Lp v lr K c limit items given found f2 due':=
 ⟨k.ok,k.le,h.st.trans k.st,λI T rest f a b d=>(h.go I T rest f a b d).elim (λg=>.inl (k.st _ g)) λhu=>(hd I T hu).elim (λ⟨r',hw⟩=>.inl ((k.go I T r' f hw b d).resolve_right id)) .inr⟩
def Lp.full(ok:FOk v lr K c limit found)(le:found.length<=limit+1)(h0:limit≠0)(h1:limit<found.length):Lp v lr K c limit items given found found due:=
 ⟨ok,le,ng.Yc,λI T rest f a b d=>.inl (by unfold Got;rw[ab h0];exact .inr h1)⟩
def Lp.start(ok:FOk v lr K c limit found)(le:found.length<=limit+1):Lp v lr K c limit items given found found λ_ _=>True:=
 ⟨ok,le,ng.Yc,λI T rest f a b d=>.inr trivial⟩
def Lp.VO(G0:gK v lr K)(h:Lp v lr K c limit items given found found λ_ _=>True){w:Nat}{r:Rl}(hr:lr[w]?=some r)(hg:w∉given)(hw:bL (bm v items) 0 r.2≠v.getD r.1.toNat 0):
  Lp v lr K c limit items given found found λI T=>items.length+given.length+1<=c/\((∃rest,eO v lr K c I T items rest (w::given))\/Ex v lr K c items given (some w) 0 I T):=
 h.BG λI T rest ho _=>by obtain⟨h1,h2⟩:=ho.VO G0 hr hg hw;refine⟨h1,h2.imp (λh=>⟨rest,h⟩) λ⟨x,rest',hm,_,hx,hs⟩=>⟨w,r,x,rest',Nat.zero_le _,rfl,hr,hm,hx,λ_=>hs⟩⟩
def Lp.right(G0:gK v lr K)(C6:KL v lr K c)(hw:∀n,n∉given->¬mf v lr (bm v items) n)(ht:gV v lr K c limit items found f1):
  Lp v lr K c limit items given found f1 λI T=>items.length+given.length+1<=c/\Ex v lr K c items given none 0 I T:=
 ⟨ht.ok,ht.le,ht.st,λI T rest f ho ha hp=>by
  rcases ho.right G0 C6 hw with h0|⟨h1,n,hn,r,hr,x,rest',hm,_,hx⟩
  ·subst h0;have hnow:=ho.now;have hpe:=ho.pe;rw[List.append_nil]at hpe;have ht2:=ho.to;rw[hnow]at ht2;refine .inl (ht.go T f ht2 ?_ ha (hp.trans (hpe.append_right T)));rw[<-hpe.length_eq];exact ho.co
  exact .inr ⟨h1,n,r,x,rest',Nat.zero_le _,hn,hr,hm,hx,λh=>absurd rfl h⟩⟩
def Lp.aaW(h:Lp v lr K c limit items given found f1 λI T=>items.length+given.length+1<=c/\due I T)(hc:items.length+given.length=c):pI v lr K c limit items given found f1:=
 h.BG λ_ _ _ _ hd=>by have:=hd.1;omega
def Lp.aaX(h:Lp v lr K c limit items given found f1 λI T=>items.length+given.length+1<=c/\due I T):Lp v lr K c limit items given found f1 due:=h.BG λ_ _ _ _ hd=>hd.2
variable{w:Option Nat}{i:Nat}{r:Rl}{ps:List Int}{p:Int}{S:List Int}
def Lp.over(h:Lp v lr K c limit items given found f1 (Ex v lr K c items given w i))(hi:lr.length<=i):pI v lr K c limit items given found f1:=
 h.BG λI T _ _⟨n,r,x,rest',h1,_,h3,_⟩=>by have:=(List.getElem?_eq_some_iff.1 h3).1;omega
def Lp.skip(h:Lp v lr K c limit items given found f1 (Ex v lr K c items given w i))(hi:¬aaa given w i):Lp v lr K c limit items given found f1 (Ex v lr K c items given w (i+1)):=
 h.BG λI T _ _⟨n,r,x,rest',h1,h2,h3⟩=>by
  rcases cO i n with hh|hh
  ·exact⟨n,r,x,rest',hh,h2,h3⟩
  have:n=i:=aa;subst this;exact absurd h2 hi
def Lp.open(h:Lp v lr K c limit items given found f1 (Ex v lr K c items given w i))(hr:lr[i]?=some r):Lp v lr K c limit items given found f1 (uf v lr K c items given w i r r.2):=
 h.BG λI T _ _⟨n,r',x,rest',h1,h2,h3,h4,h5,h6⟩=>by
  rcases cO i n with hh|hh
  ·exact .inr ⟨n,r',x,rest',hh,h2,h3,h4,h5,h6⟩
  have:n=i:=aa;subst this;rw[hr]at h3;cases h3
  exact .inl ⟨x,rest',h4,h5,h6⟩
def Lp.close(h:Lp v lr K c limit items given found f1 (uf v lr K c items given w i r [])):Lp v lr K c limit items given found f1 (Ex v lr K c items given w (i+1)):=
 h.BG λI T _ _ hd=>hd.elim (λ⟨x,rest',h1,_⟩=>absurd h1 List.not_mem_nil) id
def LB{x:Fx}(h:cL v lr K (items++[x])):x=uR v K x.1 x.2.2.1/\K x.1 x.2.2.1≠0:=by obtain⟨_,h2,h3,h4,_⟩:=h.ok x (dM _ (bh ..));obtain⟨a,b,d,e⟩:=x;exact⟨by unfold uR;rw[show b=v.getD a.toNat 0 from h2,show e=K a d from h3],by rw[<-h3];exact h4⟩
def Qm{x:Fx}(h:cL v lr K (items++[x])):(bm v items).getD x.1.toNat 0=v.getD x.1.toNat 0:=
 fG items v x.1.toNat λy hy=>(List.pairwise_append.1 h.pw).2.2 y hy x (bh ..)
def Qn(G0:gK v lr K)(hI:cL v lr K items){to:Int}(hr:r∈lr)(hm:p∈r.2)(hn:(bm v items).getD p.toNat 0=v.getD p.toNat 0)(hk:K p to≠0):cL v lr K (items++[uR v K p to]):=by
 have hp:=G0.pr r hr p hm;refine⟨λx hx=>?_,List.pairwise_append.2 ⟨hI.pw,List.pairwise_singleton ..,λy hy z hz=>?_⟩⟩
 ·rcases List.mem_append.1 hx with hx|hx
  ·exact hI.ok x hx
  rw[List.mem_singleton.1 hx];exact⟨hp,rfl,rfl,hk,r,hr,hm⟩
 rw[List.mem_singleton.1 hz];intro e;have e:y.1.toNat=p.toNat:=e;obtain⟨y1,y2,y3,y4,_⟩:=hI.ok y hy;have h1:=ic items v hI.pw y hy aa;have hy5:K y.1 y.2.2.1≠0:=by rw[<-y3];exact y4
 have h2:=(G0.kb y.1 y.2.2.1 hy5).2.1;rw[e]at h1;rw[h1,<-e]at hn;exact h2 hn
def Vj(to:Int):bm v (items++[uR v K p to])=(bm v items).set p.toNat to:=JV ..
def Lp.had(h:Lp v lr K c limit items given found f1 (uf v lr K c items given w i r (p::ps)))(hn:(bm v items).getD p.toNat 0≠v.getD p.toNat 0):Lp v lr K c limit items given found f1 (uf v lr K c items given w i r ps):=
 h.BG λI T _ _ hd=>hd.elim (λ⟨x,rest',h1,h2,h3⟩=>by
  rcases List.mem_cons.1 h1 with h1|h1
  ·have:=Qm h2.itm;rw[h1]at this;exact absurd this hn
  exact .inl ⟨x,rest',h1,h2,h3⟩) .inr
def Ak(G0:gK v lr K){m:Nat}(hc:items.length+given.length+1=c)(hr:r∈lr)(hm:p∈r.2){I T:List Fx}(hd:uf v lr K c items given (some m) i r (p::ps) I T):
  (K p (v.getD p.toNat 0+v.getD r.1.toNat 0-bL (bm v items) 0 r.2)≠0/\∃rest',eO v lr K c I T (items++[uR v K p (v.getD p.toNat 0+v.getD r.1.toNat 0-bL (bm v items) 0 r.2)]) rest' given)\/uf v lr K c items given (some m) i r ps I T:=
 hd.elim (λ⟨x,rest',h1,h2,h3⟩=>by
  rcases List.mem_cons.1 h1 with h1|h1
  ·left;obtain⟨_,e⟩:=h2.forced G0 hc hr (by rw[h1];exact hm) (h3 (by simp));obtain⟨e1,e2⟩:=LB h2.itm;rw[h1]at e e1 e2;rw[e]at e1 e2;exact⟨e2,rest',by rw[<-e1];exact h2⟩
  exact .inr (.inl ⟨x,rest',h1,h2,h3⟩)) λh=>.inr (.inr h)
def Lp.no(G0:gK v lr K){m:Nat}(h:Lp v lr K c limit items given found f1 (uf v lr K c items given (some m) i r (p::ps)))(hc:items.length+given.length+1=c)(hr:r∈lr)(hm:p∈r.2)
  (hk:K p (v.getD p.toNat 0+v.getD r.1.toNat 0-bL (bm v items) 0 r.2)=0):Lp v lr K c limit items given found f1 (uf v lr K c items given (some m) i r ps):=
 h.BG λI T _ _ hd=>(Ak G0 hc hr hm hd).elim (λh=>absurd hk h.1) id
def Lp.yes(G0:gK v lr K){m:Nat}{to:Int}(h:Lp v lr K c limit items given found f1 (uf v lr K c items given (some m) i r (p::ps)))(hc:items.length+given.length+1=c)(hr:r∈lr)(hm:p∈r.2)
  (ht:to=v.getD p.toNat 0+v.getD r.1.toNat 0-bL (bm v items) 0 r.2) (k:pI v lr K c limit (items++[uR v K p to]) given f1 f2):Lp v lr K c limit items given found f2 (uf v lr K c items given (some m) i r ps):=
 h.next k λI T hd=>by subst ht;exact(Ak G0 hc hr hm hd).imp And.right id
def Lp.abb(h:Lp v lr K c limit items given found f1 (uf v lr K c items given w i r (p::ps)))(hS:∀to,K p to≠0->to∈S):Lp v lr K c limit items given found f1 (Rw v lr K c items given w i r ps p S):=
 h.BG λI T _ _ hd=>hd.elim (λ⟨x,rest',h1,h2,h3⟩=>by
  rcases List.mem_cons.1 h1 with h1|h1
  ·obtain⟨_,e2⟩:=LB h2.itm;rw[h1]at e2;exact .inl ⟨x,rest',h1,hS _ e2,h2⟩
  exact .inr (.inl ⟨x,rest',h1,h2,h3⟩)) λh=>.inr (.inr h)
def Lp.slip{to:Int}(h:Lp v lr K c limit items given found f1 (Rw v lr K c items given w i r ps p (to::S)))(k:pI v lr K c limit (items++[uR v K p to]) given f1 f2):Lp v lr K c limit items given found f2 (Rw v lr K c items given w i r ps p S):=
 h.next k λI T hd=>hd.elim (λ⟨x,rest',h1,h2,h3⟩=>by
  rcases List.mem_cons.1 h2 with h2|h2
  ·obtain⟨e1,_⟩:=LB h3.itm;rw[h1,h2]at e1;exact .inl ⟨rest',by rw[<-e1];exact h3⟩
  exact .inr (.inl ⟨x,rest',h1,h2,h3⟩)) λh=>.inr (.inr h)
def Lp.ZR(h:Lp v lr K c limit items given found f1 (Rw v lr K c items given w i r ps p [])):Lp v lr K c limit items given found f1 (uf v lr K c items given w i r ps):=
 h.BG λI T _ _ hd=>hd.elim (λ⟨x,rest',h1,h2,h3⟩=>absurd h2 List.not_mem_nil) id
end
end Go.Proofs.YtgepceljhelekaaGreat
