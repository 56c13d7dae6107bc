/- A part of the proof: Name, Env, Works, End. No conditions. -/
import Derived.Test.YtnhbkodnmkojpaaGreatSAe
import Derived.Test.YtnhbkodnmkojpaaGreatProg
import Derived.WalkKit
import Derived.IntWalk
import Derived.KernelRfl
import Derived.Lib.Hide
import Derived.Test.YtnhbkodnmkojpaaGreatRows
import Derived.ChangeSame
import Derived.JoinedOf
import Derived.JoinedAt
import Derived.RowKit3
import Derived.Below
set_option maxRecDepth 100000
set_option maxHeartbeats 64000000
set_option linter.unusedVariables false
set_option linter.unusedSimpArgs false
noncomputable section
namespace Go.Proofs.YtnhbkodnmkojpaaGreat
open Go Go.RowKit
def okB (c:UInt8):Bool:=c==95||(97≤c&&c≤122)||(48≤c&&c≤57)
def nmB (l:List UInt8):Bool:=!l.isEmpty&&(l.length≤16&&(match l with|[]=>false|c::_=>97≤c&&c≤122)&&l.all okB)
theorem YU {a b:Bool} (h:a=b):Ending.returned (.bool a)=.returned (.bool b):=by rw[h]
theorem Ow (s:ByteArray) (k:Nat) (h:k<s.size):s.data.toList.take (k+1)=s.data.toList.take k++[s[k]]:=by
 rw[List.take_succ_eq_append_getElem (by simpa using h)];rfl
theorem Bu (c:UInt8):okB c=true↔((c.toNat:Int)=95∨(97≤(c.toNat:Int)∧(c.toNat:Int)≤122)∨(48≤(c.toNat:Int)∧(c.toNat:Int)≤57)):=by
 unfold okB;simp[UInt8.le_iff_toNat_le,←UInt8.toNat_inj];omega
theorem MJ {s:ByteArray} (h0:0<s.size):∃ l,s.data.toList=s[0]::l∧l.length+1=s.size:=by
 have z':0<s.data.toList.length:=by simpa using h0
 have hlen:s.data.toList.length=s.size:=by simp
 have hg:s.data.toList[0]=s[0]:=rfl;cases hl:s.data.toList with
 | nil=>rw[hl] at z';cases z'
 | cons c l=>
  simp only[hl,List.getElem_cons_zero] at hg;rw[hl] at hlen;exact ⟨l,by rw[hg],by simpa using hlen⟩
theorem Rk {s:ByteArray} (h0:0<s.size) (h:(s[0].toNat:Int)<97∨122<(s[0].toNat:Int)):nmB s.data.toList=false:=by
 obtain ⟨l,hl,_⟩:=MJ h0;rw[hl];unfold nmB;simp[UInt8.le_iff_toNat_le];omega
theorem Uy {s:ByteArray} (h0:0<s.size) (h16:s.size≤16) (h:97≤(s[0].toNat:Int)∧(s[0].toNat:Int)≤122):nmB s.data.toList=s.data.toList.all okB:=by
 obtain ⟨l,hl,hlen⟩:=MJ h0;rw[hl];unfold nmB;have h1:(97:UInt8)≤s[0]:=by rw[UInt8.le_iff_toNat_le];show 97≤s[0].toNat;omega
 have h2:s[0]≤(122:UInt8):=by rw[UInt8.le_iff_toNat_le];show s[0].toNat≤122;omega
 simp[h1,h2,List.length_cons];omega
theorem VT {s:ByteArray} {k:Nat} (hk:k<s.size) (h:okB s[k]=false):s.data.toList.all okB=false:=by
 rw[List.all_eq_false];exact ⟨s[k],by
  have S2:k<s.data.toList.length:=by simpa using hk
  exact List.mem_of_getElem (h:=S2) rfl,by simp[h]⟩
theorem Th {s:ByteArray} {k:Nat} (hk:k<s.size) (h:(s.data.toList.take k).all okB=true) (h':okB s[k]=true):(s.data.toList.take (k+1)).all okB=true:=by
 rw[Ow s k hk,List.all_append,h];simp[h']
theorem VP {s:ByteArray} (h:(s.data.toList.take s.size).all okB=true):s.data.toList.all okB=true:=by
 rw[List.take_of_length_le (by simp)] at h;exact h
def YI (s:ByteArray):Bool:=s.data.toList.all okB
theorem IB (s:ByteArray) (w:World):Calls Tryz.prog 101 #[.string s] w fun e w'=>e=.returned (.bool (nmB s.data.toList))∧w'=w:=by
 by_cases h0:s.size=0
 ·have hb:nmB s.data.toList=false:=by
   have:s.data.toList.length=0:=by simpa using h0
   rw[List.eq_nil_of_length_eq_zero this];rfl
  have z':((s.size:Int)==0)=true:=beq_iff_eq.2 (by omega);rw[hb];clear hb;go_enter Tryz.func101,Tryz.ntmps101
  go_wp2
  go_ret
  exact ⟨rfl,rfl⟩
 by_cases h16:16<s.size
 ·have hb:nmB s.data.toList=false:=by
   unfold nmB;have:s.data.toList.length=s.size:=by simp
   rw[this];simp
   omega
  have z':((s.size:Int)==0)=false:=beq_eq_false_iff_ne.2 (by omega);have h16':decide ((16:Int)<s.size)=true:=by simp;omega
  rw[hb];clear hb;go_enter Tryz.func101,Tryz.ntmps101
  go_wp2
  go_ret
  exact ⟨rfl,rfl⟩
 have V3:0<s.size:=by omega
 by_cases B2:(s[0].toNat:Int)<97∨122<(s[0].toNat:Int)
 ·have hb:=Rk V3 B2;have z':((s.size:Int)==0)=false:=beq_eq_false_iff_ne.2 (by omega);have h16':decide ((16:Int)<s.size)=false:=by simp;omega
  rw[hb];clear hb;rcases B2 with B2|B2;all_goals
   go_enter Tryz.func101,Tryz.ntmps101
   go_wp2
   go_ret
   exact ⟨rfl,rfl⟩
 have hb:nmB s.data.toList=YI s:=Uy V3 (by omega) (by omega);have z':((s.size:Int)==0)=false:=beq_eq_false_iff_ne.2 (by omega);have h16':decide ((16:Int)<s.size)=false:=by simp;omega
 have h1:¬(s[0].toNat:Int)<97:=by omega
 have h2:¬122<(s[0].toNat:Int):=by omega
 rw[hb];clear hb B2;go_enter Tryz.func101,Tryz.ntmps101
 go_wp2
 go_loop [25] (fun i=>∃ k:Nat,k≤s.size∧i=.int .i64 k∧Hid ((s.data.toList.take k).all okB=true)) (fun i=>s.size - (intOf i).toNat)
 case atStart=>exact ⟨0,Nat.zero_le _,rfl,rfl⟩
 case round=>
  obtain ⟨k,hk,rfl,HS⟩:=hrel;by_cases D0:k<s.size
  ·obtain ⟨cv,hcv⟩:∃ cv:Int,cv=(s[k].toNat:Int):=⟨_,rfl⟩;have Y1:=Bu s[k];rw[←hcv] at Y1;have HC:Hid (okB s[k]=true↔(cv=95∨(97≤cv∧cv≤122)∨(48≤cv∧cv≤57))):=Lib.hid Y1;clear Y1;go_wp2
   all_goals first
    | (go_round
       case rel=>
        have hgood:okB s[k]=true:=HC.out.2 (by rw[hcv] at *;(try simp only[bne_iff_ne,ne_eq,bne_eq_false_iff_eq] at *);omega);exact ⟨k+1,by omega,by go_num,Th D0 HS.out hgood⟩
       case measure=>simp[intOf];omega)
    | (go_ret
       have E8:okB s[k]=false:=by
        cases h:okB s[k] with
        | false=>rfl
        | true=>exfalso;have:=HC.out.1 h;rw[hcv] at *;(try simp only[bne_iff_ne,ne_eq,bne_eq_false_iff_eq] at *);omega
       exact ⟨YU (VT D0 E8).symm,rfl⟩)
  go_wp2
  go_ret
  have:k=s.size:=by omega
  subst this;exact ⟨YU (VP HS.out).symm,rfl⟩
open Go Go.RowKit Go.Eng
def GP (c:UInt8):Bool:=Bool.rec (motive:=fun _=>Bool) (Bool.rec (motive:=fun _=>Bool) (both (Nat.ble 48 c.toNat) (Nat.ble c.toNat 57)) true (both (Nat.ble 97 c.toNat) (Nat.ble c.toNat 122))) true (Nat.beq c.toNat 95)
def Ng (l:List UInt8):Bool:=List.rec (motive:=fun _=>Bool) true (fun c _ ih=>both (GP c) ih) l
def zu (l:List UInt8):Bool:=List.rec (motive:=fun _=>Bool) false (fun c l' _=>both (both (Nat.ble 97 c.toNat) (Nat.ble c.toNat 122)) (both (Nat.ble (IT l') 15) (Ng l'))) l
theorem Le (a b:Nat):Nat.ble a b=decide (a≤b):=by
 by_cases h:a≤b
 ·rw[decide_eq_true h];exact zA5 h
 rw[decide_eq_false h];cases hb:Nat.ble a b with
 | false=>rfl
 | true=>exact absurd (zA4 hb) h
theorem LJ (a b:Nat):Nat.beq a b=decide (a=b):=by
 by_cases h:a=b
 ·subst h;rw[Nat.beq_refl];simp
 rw[decide_eq_false h];cases hb:Nat.beq a b with
 | false=>rfl
 | true=>exact absurd (zA3 hb) h
theorem Uf (c:UInt8):GP c=okB c:=by
 have e:GP c=(Nat.beq c.toNat 95||(both (Nat.ble 97 c.toNat) (Nat.ble c.toNat 122)||both (Nat.ble 48 c.toNat) (Nat.ble c.toNat 57))):=by
  unfold GP;cases Nat.beq c.toNat 95 <;> cases both (Nat.ble 97 c.toNat) (Nat.ble c.toNat 122) <;> rfl
 rw[e];simp only[ck,Le,LJ];unfold okB;rw[Bool.eq_iff_iff];simp[UInt8.le_iff_toNat_le,←UInt8.toNat_inj];omega
theorem Er:∀ l:List UInt8,Ng l=l.all okB
 | []=>rfl
 | c::l=>by
  show both (GP c) (Ng l)=_;rw[ck,Uf,Er l];rfl
theorem vo (l:List UInt8):zu l=nmB l:=by
 cases l with
 | nil=>rfl
 | cons c l=>
  have e:zu (c::l)=both (both (Nat.ble 97 c.toNat) (Nat.ble c.toNat 122)) (both (Nat.ble (IT l) 15) (Ng l)):=rfl;rw[e,Er,BR];simp only[ck,Le];unfold nmB;rw[Bool.eq_iff_iff];have h2:okB c=true∨¬(97≤c.toNat∧c.toNat≤122):=by
   by_cases h:97≤c.toNat∧c.toNat≤122
   ·exact .inl ((Bu c).2 (.inr (.inl ⟨by omega,by omega⟩)))
   exact .inr h
  simp only[List.isEmpty_cons,Bool.not_false,List.length_cons,List.all_cons,Bool.and_eq_true,decide_eq_true_eq,UInt8.le_iff_toNat_le,true_and];have e1:(97:UInt8).toNat=97:=rfl;have e2:(122:UInt8).toNat=122:=rfl;rw[e1,e2];constructor
  ·rintro ⟨⟨a,b⟩,c,d⟩;exact ⟨⟨by omega,a,b⟩,h2.resolve_right (fun h=>h ⟨a,b⟩),d⟩
  rintro ⟨⟨a,b,c⟩,d,e⟩;exact ⟨⟨b,c⟩,by omega,e⟩
def GF (f:FuncId) (args:List AV):Option AV:=
 Bool.rec (motive:=fun _=>Option AV) none (List.rec (motive:=fun _=>Option AV) none (fun x l _=>Bool.rec (motive:=fun _=>Option AV) none (ij x none fun s=>some (.one (.b (zu s)))) (Oe l)) args) (Nat.beq f 101)
def E1:Env:={ P:=Tryz.prog,fE:=GF }
theorem Ip {f:FuncId} {args:List AV} {v:AV} (h:GF f args=some v):f=101∧∃ s,args=[.one (.o (.str s))]∧v=.one (.b (nmB s)):=by
 unfold GF at h;cases hf:Nat.beq f 101 with
 | false=>rw[hf] at h;cases h
 | true=>
  rw[hf] at h;refine ⟨zA3 hf,?_⟩;cases args with
  | nil=>cases h
  | cons x l=>
   cases l with
   | cons _ _=>cases h
   | nil=>
    cases x with
    | one c=>
     cases c with
     | o q=>
      cases q with
      | str s=>
       have h':some (AV.one (.b (zu s)))=some v:=h;cases h'
       exact ⟨s,rfl,by rw[vo]⟩
      | _=>cases h
     | b _=>cases h
     | i _ _=>cases h
    | agg _=>cases h
    | tup _=>cases h
    | any=>cases h
theorem QU:Tryz.prog.funcs.toList.all (fun fn=>!(fn.name == "runtime.NumGoroutine"))=true:=by kernel_rfl
theorem Ld (f:FuncId) (fn:Func) (h:Tryz.prog.funcs[f]?=some fn) (_:fn.body.isSome=true):(fn.name == "runtime.NumGoroutine")=false:=by
 have h1:=List.all_eq_true.1 QU fn (by
  have:=Array.mem_of_getElem? h;simpa using this)
 simpa using h1
theorem Gy:Tryz.prog.follows .mixedOrders=true:=by kernel_rfl
theorem Dt (f:FuncId) (args:List AV) (v:AV) (h:GF f args=some v) (β:Pl) (vs:List Value) (w:World) (ha:ARs β args vs):
  CallsIn Fence.wide 0 Tryz.prog f vs.toArray w fun e w'=>∃ u,e=.returned u∧AR β v u∧w'.os=w.os∧w'.tape=w.tape∧w'.output=w.output∧w.heap.size≤w'.heap.size∧∀ b,b<w.heap.size→w'.heap[b]?=w.heap[b]?:=by
 obtain ⟨rfl,s,rfl,rfl⟩:=Ip h;cases vs with
 | nil=>exact ha.elim
 | cons x vs=>
  cases vs with
  | cons _ _=>exact ha.2.elim
  | nil=>
   have hx:x=.string ⟨s.toArray⟩:=ha.1;subst hx;refine (callsIn_wide (n:=0)).2 ((IB ⟨s.toArray⟩ w).mono fun e w' he=>?_);obtain ⟨rfl,rfl⟩:=he;exact ⟨_,rfl,rfl,rfl,rfl,rfl,zA1 _,fun _ _=>rfl⟩
theorem MX:vY E1:=⟨Ld,Gy,Dt⟩
open Go Go.Eng
def wkO:List (Nat×Go.Eng.aK):=
 [(7,.oth (.map [⟨.one (.o (.str [99,111,117,110,116])),.one (.i .i64 0),0⟩,⟨.one (.o (.str [98,105,115,101,120])),.one (.i .i64 1),1⟩,⟨.one (.o (.str [103,114,97,105,110])),.one (.i .i64 2),2⟩,⟨.one (.o (.str [97,114,101,97])),.one (.i .i64 3),3⟩,⟨.one (.o (.str [116,105,109,101])),.one (.i .i64 4),4⟩,⟨.one (.o (.str [119,101,105,103,104,116])),.one (.i .i64 5),5⟩] 6)),
  (8,.arr [.o (.sl 33 5 0 6 2),.o (.mp 7),.o (.sl 35 5 0 6 1),.o (.sl 37 5 0 6 2)] 132 0 0),
  (31,.arr [.o (.str [110,48,49]),.i .i64 1,.o (.str [110,49,52]),.i .i64 10,.o (.str [110,51,52]),.i .i64 6,.o (.str [110,52,56]),.i .i64 10,.o (.str [110,52,53]),.i .i64 6,.o (.str [110,53,48]),.i .i64 10] 165 0 0),
  (33,.arr [.o (.str [99,111,117,110,116]),.o (.sl 31 0 0 6 2),.o (.str [98,105,115,101,120]),.o (.sl 60 0 0 6 2),.o (.str [103,114,97,105,110]),.o (.sl 86 0 0 6 2),.o (.str [97,114,101,97]),.o (.sl 110 0 0 5 2),.o (.str [116,105,109,101]),.o (.sl 132 0 0 4 2),.o (.str [119,101,105,103,104,116]),.o (.sl 160 0 0 7 2)] 97 0 5),
  (35,.arr [.i .i64 0,.i .i64 1,.i .i64 2,.i .i64 3,.i .i64 4,.i .i64 5] 3 0 5),
  (37,.arr [.o .nilS,.o .nilS,.o .nilS,.o .nilS,.o .nilS,.o .nilS,.o .nilS,.o .nilS,.o .nilS,.o .nilS,.o .nilS,.o .nilS] 138 0 5),
  (60,.arr [.o (.str [110,48,49]),.i .i64 1,.o (.str [110,49,52]),.i .i64 10,.o (.str [110,51,52]),.i .i64 6,.o (.str [110,53,49]),.i .i64 2,.o (.str [110,53,52]),.i .i64 10,.o (.str [110,53,54]),.i .i64 6] 165 0 0),
  (86,.arr [.o (.str [110,51,57]),.i .i64 1,.o (.str [110,48,49]),.i .i64 5,.o (.str [110,49,52]),.i .i64 6,.o (.str [110,52,53]),.i .i64 10,.o (.str [110,52,56]),.i .i64 3,.o (.str [110,51,52]),.i .i64 10] 165 0 0),
  (110,.arr [.o (.str [110,48,49]),.i .i64 1,.o (.str [110,50,50]),.i .i64 6,.o (.str [110,49,52]),.i .i64 3,.o (.str [110,53,48]),.i .i64 10,.o (.str [110,52,53]),.i .i64 6] 165 0 0),
  (132,.arr [.o (.str [110,48,56]),.i .i64 1,.o (.str [110,49,56]),.i .i64 10,.o (.str [110,48,49]),.i .i64 3,.o (.str [110,53,55]),.i .i64 12] 165 0 0),
  (160,.arr [.o (.str [115,122,101]),.i .i64 1,.o (.str [115,122,101,117]),.i .i64 10,.o (.str [103,105,110]),.i .i64 18,.o (.str [103,105,110,117]),.i .i64 10,.o (.str [109,97,110,97]),.i .i64 6,.o (.str [109,97,110,97,117]),.i .i64 10,.o (.str [103,117,110]),.i .i64 6] 165 0 0),
  (312,.arr [.i .i64 2,.o (.str [110,49,52]),.b false] 181 0 1),
  (314,.arr [.i .i64 0,.o (.str [98,97,114,108,101,121]),.o (.str [103,114,97,105,110]),.o (.sl 312 1 0 1 3),.o .nilS,.i .i64 1,.o (.str [101,119,101,115]),.o (.str [99,111,117,110,116]),.o (.sl 323 1 0 1 3),.o .nilS,.i .i64 2,.o (.str [114,97,109,115]),.o (.str [99,111,117,110,116]),.o (.sl 333 1 0 1 3),.o .nilS,.i .i64 3,.o (.str [102,108,111,99,107]),.o (.str [99,111,117,110,116]),.o (.sl 344 1 0 1 3),.o .nilS,.i .i64 4,.o (.str [98,97,114,108,101,121]),.o (.str [103,114,97,105,110]),.o (.sl 360 1 0 1 3),.o .nilS,.i .i64 5,.o (.str [101,119,101,115]),.o (.str [99,111,117,110,116]),.o (.sl 369 1 0 1 3),.o .nilS,.i .i64 6,.o (.str [98,97,114,108,101,121]),.o (.str [103,114,97,105,110]),.o (.sl 377 1 0 1 3),.o .nilS,.i .i64 7,.o (.str [102,108,111,99,107]),.o (.str [99,111,117,110,116]),.o (.sl 397 1 0 1 3),.o .nilS] 84 0 7),
  (323,.arr [.i .i64 3,.o (.str [110,48,49]),.b false] 181 0 1),
  (333,.arr [.i .i64 4,.o (.str [110,48,49]),.b false] 181 0 1),
  (344,.arr [.i .i64 7,.o (.str [110,48,49]),.b false] 181 0 1),
  (350,.arr [.i .i64 1,.i .i64 2] 3 0 1),
  (354,.arr [.i .i64 3,.o (.sl 350 1 0 2 1),.i .i64 6,.o (.sl 382 1 0 2 1),.i .i64 7,.o (.sl 403 2 0 3 1)] 86 0 2),
  (360,.arr [.i .i64 1,.o (.str [110,49,52]),.b false] 181 0 1),
  (369,.arr [.i .i64 2,.o (.str [110,48,49]),.b false] 181 0 1),
  (377,.arr [.i .i64 3,.o (.str [110,49,52]),.b false] 181 0 1),
  (382,.arr [.i .i64 0,.i .i64 4] 3 0 1),
  (397,.arr [.i .i64 1,.o (.str [110,49,52]),.b false] 181 0 1),
  (403,.arr [.i .i64 1,.i .i64 2,.i .i64 5] 3 0 2),
  (411,.arr [.o (.sl 314 7 0 8 5),.o (.sl 354 2 0 3 2)] 37 0 0)]
def wk1:Go.Eng.Mark:=
 ⟨[(0,.one (.b false)),
  (1,.one (.o (.ptr 8 0 0 4))),
  (2,.one (.i .i64 (.ofNat 0))),
  (3,.one (.o (.ptr 411 0 0 2))),
  (4,.one (.i .i64 (.ofNat 0)))]++(List.range' 12 12).map (fun i=>(i,.any)),
  wkO,412⟩
def wk2:Go.Eng.Mark:=
 ⟨[(0,.one (.b false)),
  (1,.one (.o (.ptr 8 0 0 4))),
  (2,.one (.i .i64 (.ofNat 0))),
  (3,.one (.o (.ptr 411 0 0 2))),
  (4,.one (.i .i64 (.ofNat 0))),
  (5,.one (.o (.sl 573 7 0 8 1))),
  (6,.any),
  (7,.any),
  (8,.one (.i .i64 (.ofNat 0)))]++(List.range' 12 108).map (fun i=>(i,.any)),
  wkO++[(573,.arr [.i .i64 60,.i .i64 3,.i .i64 4,.i .i64 7,.i .i64 30,.i .i64 2,.i .i64 90,.i .i64 10] 3 0 7)],1251⟩
def wk3:Go.Eng.Mark:=
 ⟨[(0,.one (.b false)),
  (1,.one (.o (.ptr 8 0 0 4))),
  (2,.one (.i .i64 (.ofNat 0))),
  (3,.one (.o (.ptr 411 0 0 2))),
  (4,.any),
  (5,.one (.o (.sl 573 7 0 8 1)))]++(List.range' 6 174).map (fun i=>(i,.any)),
  wkO++[(573,.arr [.i .i64 60,.i .i64 3,.i .i64 4,.i .i64 7,.i .i64 30,.i .i64 2,.i .i64 90,.i .i64 10] 3 0 7)],3209⟩
def wk0:Go.Eng.Mark:=⟨[],[],0⟩
theorem Yo:piece E1 3000 16 0 3 wk0 wk1=true:=by kernel_rfl
theorem YS:piece E1 3000 16 3 5 wk1 wk2=true:=by kernel_rfl
theorem YK:piece E1 3000 16 8 4 wk2 wk3=true:=by kernel_rfl
theorem UA:yw E1 3000 16 12 wk3=true:=by kernel_rfl
theorem II:(iZ E1.P 16).length=15:=by kernel_rfl
theorem Qu (w:World):Calls Tryz.prog 16 #[] w (Ke w):=by
 have hf:E1.P.funcs[16]?=some Tryz.f16:=Tryz.func16;refine xv (E:=E1) hf (by kernel_rfl) (by kernel_rfl) ?_;refine xa (E:=E1) MX Yo (by rw[II];decide) ?_;refine xa (E:=E1) MX YS (by rw[II];decide) ?_;refine xa (E:=E1) MX YK (by rw[II];decide) ?_;exact VN (E:=E1) MX hf UA
open Go.ChangeShapes Go.WideShapes Go.ChangeAt Go.RowKit Go.Eng
theorem tB {w w':World} (h:Eng.Grown w w'):Below w.heap.size w w':=⟨h.1,h.2.1,h.2.2.1,h.2.2.2.1,h.2.2.2.2⟩
section
variable {H:Type} {enc:TypeId×Value→H} {P:Program}
theorem Su {f:Func} {s:ChangeSpec} {apart fresh handsOn again:Bool} {W W':World} {args:Array Value} {ds:List (DataW H)} {pa:List MemPlace} (hv:s.vars=[])
  (hW:DataW.Whole enc P f.params.toList s.vars apart W args.toList ds [] pa) {t:TypeId} (ht:f.resultTypes=#[t]) (hu:P.underlying t=some .bool)
  (hr:(s.fn H (ds++[])).results=[.lit (.bool true)]) (ha:(s.fn H (ds++[])).args=ds) (N4:(s.fn H (ds++[])).vars=[])
  (hb:Below W.heap.size W W') (A0:∀ sp:Nat→Bool,(∀ p∈pa,sp p.block=true)→DataW.TrodAll enc P W' 0 sp true f.params.toList args.toList ds pa):
  s.post enc P f apart fresh handsOn again W args (.bool true) W':=by
 have below:∀ p∈pa,p.block<W.heap.size:=fun p hp=>hW.lt p hp;have old:∀ p∈pa,(fun b=>decide (b<W.heap.size)) p.block=true:=fun p hp=>by simpa using below p hp
 have res:∀ (b:Nat) (sp:Nat→Bool) (hd:Bool),DataW.TrodAll enc P W' b sp hd f.resultTypes.toList ((Value.bool true).resultList f.resultTypes.size) (s.fn H (ds++[])).results []:=fun b sp hd=>by
  rw[hr,ht];exact trodAll_mk1 (shut_bool hu true)
 have vars:∀ sp:Nat→Bool,DataW.TrodVars enc P W' sp s.vars (s.fn H (ds++[])).vars []:=fun sp=>by rw[hv,N4];rfl
 have okr:∀ (j:Nat) (t:TypeId) (r:Value),f.resultTypes[j]?=some t→((Value.bool true).resultList f.resultTypes.size)[j]?=some r→Value.okWide P W' .any 0 t r:=by
  exact ok_one ht rfl (okWide_bool_mk hu true)
 have args':∀ sp:Nat→Bool,(∀ p∈pa,sp p.block=true)→DataW.TrodAll enc P W' 0 sp true f.params.toList args.toList (s.fn H (ds++[])).args pa:=fun sp h=>by rw[ha];exact A0 sp h
 refine ⟨ds,[],pa,[],pa,[],hW,res _ _ _,args' _ old,vars _,World.keptBut_mono (fun p hp=>⟨hp,.inr (.inl hp)⟩) (hb.frame (·∈pa)),fun _=>?_⟩;obtain ⟨_,_,_,_,_,hz,hn⟩:=hW;refine ⟨okr,_,_,([]++pa)++[],⟨[]++pa,[],trodAll_append (args' _ (fun _ _=>rfl)) (res _ _ _),vars _,rfl,?_,?_⟩,?_⟩
 ·intro b off hp;have V2:MemPlace.cell b off∈pa:=by simpa using hp
  rw[hb.frozen (below _ V2)];exact hz b off (by simpa using V2)
 ·intro hh;have:=hn hh;simpa using this
 intro p hp _;simpa using hp
end
def RD (f:FuncId) (args:List AV):Option AV:=
 Bool.rec (motive:=fun _=>Option AV) (GF f args) (Bool.rec (motive:=fun _=>Option AV) none (some (.one (.b true))) (Oe args)) (Nat.beq f 16)
def E2:Env:={ P:=Tryz.prog,fE:=RD }
theorem QB (f:FuncId) (args:List AV) (v:AV) (h:RD f args=some v) (β:Pl) (vs:List Value) (w:World) (ha:ARs β args vs):
  CallsIn Fence.wide 0 Tryz.prog f vs.toArray w fun e w'=>∃ u,e=.returned u∧AR β v u∧w'.os=w.os∧w'.tape=w.tape∧w'.output=w.output∧w.heap.size≤w'.heap.size∧∀ b,b<w.heap.size→w'.heap[b]?=w.heap[b]?:=by
 unfold RD at h;cases hf:Nat.beq f 16 with
 | false=>rw[hf] at h;exact Dt f args v h β vs w ha
 | true=>
  rw[hf] at h;have:=zA3 hf;subst this;cases args with
  | cons _ _=>cases h
  | nil=>
   cases h
   cases vs with
   | cons _ _=>exact ha.elim
   | nil=>
    refine (callsIn_wide (n:=0)).2 ((Qu w).mono fun e w' he=>?_);obtain ⟨rfl,h1,h2,h3,h4,h5⟩:=he;exact ⟨_,rfl,rfl,h1,h2,h3,h4,h5⟩
theorem Yt:vY E2:=⟨Ld,Gy,QB⟩
theorem Tryz.own:ownKnob Tryz.prog.godebug=none:=by kernel_rfl
end Go.Proofs.YtnhbkodnmkojpaaGreat
end
