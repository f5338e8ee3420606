import Derived.Test.YtcmhmlnkhmefbaaGreatTtChk0
import Derived.Test.YtcmhmlnkhmefbaaGreatSh2
namespace Go.Ab.Tt
set_option maxRecDepth 100000
set_option linter.unusedVariables false
theorem uD(s:Bytes)(hs:s.length≤maxLen):du [.str s]=some (.bool (dR s)):=by
 have hm:=aT;simp only[du,uw,bg,U];refine(CC s hs jm (some (.bool false)) (some (.bool (decide ((s.length:Int)>0)&&decide ((s.length:Int)≤32)))) (fun k hk rec=>?_) (fun rec=>?_)).trans ?_
 ·have h1:(k:Int)<(s.length:Int):=by omega
  simp only[po,decide_eq_true_eq,h1,if_true,CD,List.getElem?_eq_getElem hk,U,cT,al (show k<9223372036854775807 by omega),ef];generalize s[k]=b;unfold jm;generalize (decide (97≤(b.toNat:Int))&&decide ((b.toNat:Int)≤122))=x1;generalize (decide (65≤(b.toNat:Int))&&decide ((b.toNat:Int)≤90))=x2;generalize (decide (48≤(b.toNat:Int))&&decide ((b.toNat:Int)≤57))=x3;by_cases e4:(b.toNat:Int)=45<;>by_cases e5:(b.toNat:Int)=95<;>by_cases e6:(b.toNat:Int)=46<;>cases x1<;>cases x2<;>cases x3<;>simp[e4,e5,e6]
 ·simp only[po,decide_eq_true_eq,Int.lt_irrefl,if_false,cT,U]
 ·unfold dR;cases s.all jm with
  |true=>simp only[if_true,Bool.and_true,Option.some.injEq,PV.bool.injEq];rw[Bool.eq_iff_iff];simp only[Bool.and_eq_true,decide_eq_true_eq];omega
  |false=>simp
theorem Es{body:Bytes×Int×Unit→(Bytes×Int×Unit→Option PV)→Option PV}(s:Bytes)(hs:s.length≤maxLen)(h:∀k,(hk:k<s.length)→∀rec,body (s,(k:Int),()) rec=if jm s[k]then rec (s,((k+1:Nat):Int),())else some (.bool false))(nm:∀rec,body (s,(s.length:Int),()) rec=some (.bool true)){c:Bool}(hc:c= !(decide (1≤s.length)&&decide (s.length≤32))):(if c=true then some (.bool false)else bK.run body (s,0,()))=some (.bool (dR s)):=by rw[CC s hs jm _ _ h nm,hc];unfold dR;cases s.all jm<;>cases(decide (1≤s.length)&&decide (s.length≤32))<;>rfl
theorem sQ(s:Bytes)(hs:s.length≤maxLen):eg [.str s]=some (.bool (dR s)):=by
 have hm:=aT;simp only[eg,qX,bg,U,aW];refine Es s hs (fun k hk rec=>?_) (fun rec=>?_) ?_
 ·have h1:(k:Int)<(s.length:Int):=by omega
  simp only[mA,decide_eq_true_eq,h1,if_true,CD,List.getElem?_eq_getElem hk,U,cT,aW,al (show k<9223372036854775807 by omega),jw];generalize s[k]=b;unfold jm;simp only[ge_iff_le];generalize (decide (97≤(b.toNat:Int))&&decide ((b.toNat:Int)≤122))=x1;generalize (decide (65≤(b.toNat:Int))&&decide ((b.toNat:Int)≤90))=x2;generalize (decide (48≤(b.toNat:Int))&&decide ((b.toNat:Int)≤57))=x3;by_cases e4:(b.toNat:Int)=45<;>by_cases e5:(b.toNat:Int)=95<;>by_cases e6:(b.toNat:Int)=46<;>cases x1<;>cases x2<;>cases x3<;>simp[e4,e5,e6]
 ·simp only[mA,decide_eq_true_eq,Int.lt_irrefl,if_false]
 ·rw[Bool.eq_iff_iff];simp only[ef,Bool.or_eq_true,Bool.not_eq_true',Bool.and_eq_false_iff,decide_eq_true_eq,decide_eq_false_iff_not];omega
def FE(l:List Stop)(k:Nat):Int:=match l[k]? with
 |none=>0
 |some x=>if dR x.id=false then 12 else if x.id∈(l.map Stop.id).take k then 6 else if(decide (x.tr<0)||decide (x.tr≥16)||decide (x.change<0)||decide (x.change>3600))=true then 2 else 0
def gQ(l:List Stop):Int×Int:=if l.length>64 then(0,5)else bS (FE l) l.length
theorem PR(l:List Stop)(hl:l.length≤maxLen∧∀y∈l,y.Ok):gL [.rs 4 (l.map Stop.pv)]=some (res (gQ l).1 (gQ l).2):=by
 have hm:=aT;simp only[gL,wQ,ab,if_true,U,List.length_map];unfold gQ;by_cases tw:l.length>64
 ·rw[if_pos (by simp;omega),if_pos tw];rfl
 ·rw[if_neg (by simp;omega),if_neg tw,←lD];refine aY (fun k=>(l.map Stop.pv,(l.length:Int),(k:Int),seen PV.str ((l.map Stop.id).take k),())) l.length _ (fun k hk rec=>?_) (fun rec=>?_) ?_ rfl
  ·have h1:(k:Int)<(l.length:Int):=by omega
   have hid:=uD l[k].id (hl.2 _ (List.getElem_mem hk)).id;have qN:=nd vB l[k].id ((l.map Stop.id).take k);have rT:=kQ vB l[k].id ((l.map Stop.id).take k);simp only[q7,decide_eq_true_eq,h1,if_true,aq,List.getElem?_map,List.getElem?_eq_getElem hk,Option.map_some,U,Stop.pv,cell,PV.cells,List.getD_cons_zero,List.getD_cons_succ,bg,asInt,asBool,hid,qN,rT,aW,al (show k<9223372036854775807 by omega),pq Stop.id l k hk];unfold FE;rw[List.getElem?_eq_getElem hk];simp only;generalize (decide (l[k].tr<0)||decide (l[k].tr≥16)||decide (l[k].change<0)||decide (l[k].change>3600))=c;cases dR l[k].id with
   |false=>rfl
   |true=>
    by_cases bO:l[k].id∈(l.map Stop.id).take k
    ·simp only[bO,if_true,Bool.not_true,Bool.false_eq_true,Bool.true_eq_false,if_false];rfl
    ·simp only[bO,if_true,Bool.not_true,Bool.false_eq_true,Bool.true_eq_false,if_false];cases c<;>rfl
  ·simp only[q7,decide_eq_true_eq,Int.lt_irrefl,if_false];rfl
  ·have:=aP;omega
end Go.Ab.Tt
namespace Go.Ab.Tt
set_option maxRecDepth 100000
set_option linter.unusedVariables false
set_option linter.unusedSimpArgs false
theorem CE(n a b:Int):bC [.int .i64 n,.int .i64 a,.int .i64 b]=some (.bool (decide (n≥a)&&decide (n≤b))):=by simp only[bC,CB,asInt,if_true,U,cT]
theorem FF(x:Stop):cell x.pv 0=.str x.id:=rfl
theorem VM(x:Stop):cell x.pv 1=.int .i64 x.tr:=rfl
theorem VN(x:Stop):cell x.pv 3=.int .i64 x.change:=rfl
theorem HC{R:Type}(ids:List Bytes)(i:Nat)(hi:i<ids.length)(no fin:Option R):c8 ((List.range i).findSome? fun k=>if decide (ids[k]?=some ids[i])=true then some no else none) fin=if ids[i]∈ids.take i then no else fin:=by
 rw[qv (fun k=>decide (ids[k]?=some ids[i])) (fun _=>no)];cases hf:(List.range i).find? fun k=>decide (ids[k]?=some ids[i])with
 |none=>
  have hn:ids[i]∉ids.take i:=fun bO=>by
   obtain⟨j,hj⟩:=List.mem_iff_getElem?.1 bO;have JY:j<i:=by have:=(List.getElem?_eq_some_iff.1 hj).1;simp at this;omega
   rw[List.getElem?_take_of_lt JY]at hj;rw[List.find?_eq_none]at hf;exact hf j (by simpa using JY) (by simpa using hj)
  rw[if_neg hn];rfl
 |some j=>rw[List.find?_range_eq_some]at hf;obtain⟨h1,h2,_⟩:=hf;have bO:ids[i]∈ids.take i:=List.mem_iff_getElem?.2 ⟨j,by rw[List.getElem?_take_of_lt (by simpa using h2)];simpa using h1⟩;rw[if_pos bO];rfl
theorem HD(l:List Stop)(hl:l.length≤maxLen)(i:Nat)(hi:i<l.length)(eO:List PV×Int×Unit→Option PV):bK.run (lE eO) (l.map Stop.pv,(i:Int),0,())=if(l.map Stop.id)[i]'(by simpa using hi)∈(l.map Stop.id).take i then some (res i 6)else if(decide (l[i].tr<0)||decide (l[i].tr≥16)||decide (l[i].change<0)||decide (l[i].change>3600))=true then some (res i 2)else eO (l.map Stop.pv,IntKind.i64.wrap ((i:Int)+1),()):=by
 have hm:=aT;have Sb:(l.map Stop.pv)[i]?=some l[i].pv:=by rw[List.getElem?_map,List.getElem?_eq_getElem hi];rfl
 have D6:i<(l.map Stop.id).length:=by simpa using hi
 have Zf:(l.map Stop.id)[i]=l[i].id:=by simp
 rw[←HC (l.map Stop.id) i D6];refine aY (fun k=>(l.map Stop.pv,(i:Int),(k:Int),())) i (fun k=>if decide ((l.map Stop.id)[k]?=some (l.map Stop.id)[i])=true then some (some (res i 6))else none) (fun k hk rec=>?_) (fun rec=>?_) ?_ rfl
 ·have h1:decide ((k:Int)<(i:Int))=true:=by simp;omega
  have jJ:k<l.length:=by omega
  have Zg:(l.map Stop.pv)[k]?=some l[k].pv:=by rw[List.getElem?_map,List.getElem?_eq_getElem jJ];rfl
  have hdk:decide ((l.map Stop.id)[k]?=some (l.map Stop.id)[i])=decide (l[k].id=l[i].id):=by rw[List.getElem?_map,List.getElem?_eq_getElem jJ,Zf];simp
  unfold lE;dsimp only;rw[if_pos h1,aq,Zg,U,FF,aq,Sb,al (by omega),hdk];simp only[bg,U,FF,ef];cases decide (l[k].id=l[i].id)<;>rfl
 ·unfold lE;dsimp only;rw[if_neg (by simp),aq,Sb];simp only[U,VM,VN,asInt,if_true,CE,asBool,aW];have:(!(decide (l[i].tr≥0)&&decide (l[i].tr≤15))|| !(decide (l[i].change≥0)&&decide (l[i].change≤3600)))=(decide (l[i].tr<0)||decide (l[i].tr≥16)||decide (l[i].change<0)||decide (l[i].change>3600)):=by rw[Bool.eq_iff_iff];simp only[Bool.or_eq_true,Bool.not_eq_true',Bool.and_eq_false_iff,decide_eq_true_eq,decide_eq_false_iff_not];omega
  rw[this];cases(decide (l[i].tr<0)||decide (l[i].tr≥16)||decide (l[i].change<0)||decide (l[i].change>3600))<;>rfl
 ·have:=aP;omega
theorem PS(l:List Stop)(hl:l.length≤maxLen∧∀y∈l,y.Ok):jL [.rs 4 (l.map Stop.pv)]=some (res (gQ l).1 (gQ l).2):=by
 have hm:=aT;simp only[jL,ug,ab,if_true,U,List.length_map];unfold gQ;by_cases tw:l.length>64
 ·rw[if_pos (by simp;omega),if_pos tw];rfl
 ·rw[if_neg (by simp;omega),if_neg tw,←lD];refine aY (fun k=>(l.map Stop.pv,(k:Int),())) l.length _ (fun k hk rec=>?_) (fun rec=>?_) ?_ rfl
  ·have h1:decide ((k:Int)<((l.map Stop.pv).length:Int))=true:=by simp;omega
   have Zg:(l.map Stop.pv)[k]?=some l[k].pv:=by rw[List.getElem?_map,List.getElem?_eq_getElem hk];rfl
   have hid:=sQ l[k].id (hl.2 _ (List.getElem_mem hk)).id;have Zh:(l.map Stop.id)[k]'(by simpa using hk)=l[k].id:=by simp
   unfold pt;dsimp only;rw[if_pos h1,aq,Zg,U,FF];simp only[bg,U,hid,asBool];rw[HD l hl.1 k hk rec,Zh,al (by omega)];unfold FE;rw[List.getElem?_eq_getElem hk];simp only;generalize (decide (l[k].tr<0)||decide (l[k].tr≥16)||decide (l[k].change<0)||decide (l[k].change>3600))=c;cases dR l[k].id with
   |false=>rfl
   |true=>
    by_cases bO:l[k].id∈(l.map Stop.id).take k
    ·simp only[bO,if_true,Bool.not_true,Bool.false_eq_true,Bool.true_eq_false,if_false];rfl
    ·simp only[bO,if_true,Bool.not_true,Bool.false_eq_true,Bool.true_eq_false,if_false];cases c<;>rfl
  ·unfold pt;dsimp only;rw[if_neg (by simp)];rfl
  ·have:=aP;omega
end Go.Ab.Tt
namespace Go.Ab.Tt
set_option maxRecDepth 100000
set_option linter.unusedVariables false
set_option linter.unusedSimpArgs false
theorem CF(x:ax):cell x.pv 0=.str x.id:=rfl
theorem SX(x:ax):cell x.pv 1=.int .i64 x.mode:=rfl
def CG(l:List ax)(k:Nat):Int:=match l[k]? with
 |none=>0
 |some x=>if dR x.id=false then 12 else if x.id∈(l.map ax.id).take k then 6 else if(decide (x.mode≥0)&&decide (x.mode<8))=false then 2 else 0
def fB(l:List ax):Int×Int:=if l.length>64 then(0,5)else bS (CG l) l.length
theorem Lu(l:List ax)(hl:l.length≤maxLen∧∀y∈l,y.Ok):fY [.rs 3 (l.map ax.pv)]=some (res (fB l).1 (fB l).2):=by
 have hm:=aT;simp only[fY,ur,ab,if_true,U,List.length_map];unfold fB;by_cases tw:l.length>64
 ·rw[if_pos (by simp;omega),if_pos tw];rfl
 ·rw[if_neg (by simp;omega),if_neg tw,←lD];refine aY (fun k=>(l.map ax.pv,(l.length:Int),(k:Int),seen PV.str ((l.map ax.id).take k),())) l.length _ (fun k hk rec=>?_) (fun rec=>?_) ?_ rfl
  ·have h1:(k:Int)<(l.length:Int):=by omega
   have hid:=uD l[k].id (hl.2 _ (List.getElem_mem hk)).id;have qN:=nd vB l[k].id ((l.map ax.id).take k);have rT:=kQ vB l[k].id ((l.map ax.id).take k);simp only[pw,decide_eq_true_eq,h1,if_true,aq,List.getElem?_map,List.getElem?_eq_getElem hk,Option.map_some,U,ax.pv,cell,PV.cells,List.getD_cons_zero,List.getD_cons_succ,bg,asInt,asBool,hid,qN,rT,aW,al (show k<9223372036854775807 by omega),pq ax.id l k hk,im,ui,cT];unfold CG;rw[List.getElem?_eq_getElem hk];simp only;generalize (decide (l[k].mode≥0)&&decide (l[k].mode<8))=c;cases dR l[k].id with
   |false=>rfl
   |true=>
    by_cases bO:l[k].id∈(l.map ax.id).take k
    ·simp only[bO,if_true,Bool.not_true,Bool.false_eq_true,Bool.true_eq_false,if_false];rfl
    ·simp only[bO,if_true,Bool.not_true,Bool.false_eq_true,Bool.true_eq_false,if_false];cases c<;>rfl
  ·simp only[pw,decide_eq_true_eq,Int.lt_irrefl,if_false];rfl
  ·have:=aP;omega
theorem FG(l:List ax)(hl:l.length≤maxLen)(i:Nat)(hi:i<l.length)(eO:List PV×Int×Unit→Option PV):bK.run (j8 eO) (l.map ax.pv,(i:Int),0,())=if(l.map ax.id)[i]'(by simpa using hi)∈(l.map ax.id).take i then some (res i 6)else if(decide (l[i].mode≥0)&&decide (l[i].mode<8))=false then some (res i 2)else eO (l.map ax.pv,IntKind.i64.wrap ((i:Int)+1),()):=by
 have hm:=aT;have Sb:(l.map ax.pv)[i]?=some l[i].pv:=by rw[List.getElem?_map,List.getElem?_eq_getElem hi];rfl
 have D6:i<(l.map ax.id).length:=by simpa using hi
 have Zf:(l.map ax.id)[i]=l[i].id:=by simp
 rw[←HC (l.map ax.id) i D6];refine aY (fun k=>(l.map ax.pv,(i:Int),(k:Int),())) i (fun k=>if decide ((l.map ax.id)[k]?=some (l.map ax.id)[i])=true then some (some (res i 6))else none) (fun k hk rec=>?_) (fun rec=>?_) ?_ rfl
 ·have h1:decide ((k:Int)<(i:Int))=true:=by simp;omega
  have jJ:k<l.length:=by omega
  have Zg:(l.map ax.pv)[k]?=some l[k].pv:=by rw[List.getElem?_map,List.getElem?_eq_getElem jJ];rfl
  have hdk:decide ((l.map ax.id)[k]?=some (l.map ax.id)[i])=decide (l[k].id=l[i].id):=by rw[List.getElem?_map,List.getElem?_eq_getElem jJ,Zf];simp
  unfold j8;dsimp only;rw[if_pos h1,aq,Zg,U,CF,aq,Sb,al (by omega),hdk];simp only[bg,U,CF,ef];cases decide (l[k].id=l[i].id)<;>rfl
 ·unfold j8;dsimp only;rw[if_neg (by simp),aq,Sb];simp only[U,SX,asInt,if_true,CE,asBool];have:(decide (l[i].mode≥0)&&decide (l[i].mode≤7))=(decide (l[i].mode≥0)&&decide (l[i].mode<8)):=by rw[Bool.eq_iff_iff];simp only[Bool.and_eq_true,decide_eq_true_eq];omega
  rw[this];cases(decide (l[i].mode≥0)&&decide (l[i].mode<8))<;>rfl
 ·have:=aP;omega
theorem Lv(l:List ax)(hl:l.length≤maxLen∧∀y∈l,y.Ok):iZ [.rs 3 (l.map ax.pv)]=some (res (fB l).1 (fB l).2):=by
 have hm:=aT;simp only[iZ,sL,ab,if_true,U,List.length_map];unfold fB;by_cases tw:l.length>64
 ·rw[if_pos (by simp;omega),if_pos tw];rfl
 ·rw[if_neg (by simp;omega),if_neg tw,←lD];refine aY (fun k=>(l.map ax.pv,(k:Int),())) l.length _ (fun k hk rec=>?_) (fun rec=>?_) ?_ rfl
  ·have h1:decide ((k:Int)<((l.map ax.pv).length:Int))=true:=by simp;omega
   have Zg:(l.map ax.pv)[k]?=some l[k].pv:=by rw[List.getElem?_map,List.getElem?_eq_getElem hk];rfl
   have hid:=sQ l[k].id (hl.2 _ (List.getElem_mem hk)).id;have Zh:(l.map ax.id)[k]'(by simpa using hk)=l[k].id:=by simp
   unfold nH;dsimp only;rw[if_pos h1,aq,Zg,U,CF];simp only[bg,U,hid,asBool];rw[FG l hl.1 k hk rec,Zh,al (by omega)];unfold CG;rw[List.getElem?_eq_getElem hk];simp only;generalize (decide (l[k].mode≥0)&&decide (l[k].mode<8))=c;cases dR l[k].id with
   |false=>rfl
   |true=>
    by_cases bO:l[k].id∈(l.map ax.id).take k
    ·simp only[bO,if_true,Bool.not_true,Bool.false_eq_true,Bool.true_eq_false,if_false];rfl
    ·simp only[bO,if_true,Bool.not_true,Bool.false_eq_true,Bool.true_eq_false,if_false];cases c<;>rfl
  ·unfold nH;dsimp only;rw[if_neg (by simp)];rfl
  ·have:=aP;omega
end Go.Ab.Tt
namespace Go.Ab.Tt
set_option maxRecDepth 100000
set_option linter.unusedVariables false
set_option linter.unusedSimpArgs false
def wi(n a b:Int):Bool:=decide (n≥a)&&decide (n≤b)
theorem An(n a b:Int):bw [.int .i64 n,.int .i64 a,.int .i64 b]=some (.bool (wi n a b)):=by simp only[bw,pn,asInt,if_true,U,cT];rfl
theorem Zi(x:aS):cell x.pv 0=.str x.id:=rfl
theorem aaY(x:aS):cell x.pv 1=.int .i64 x.Ao:=rfl
theorem aaZ(x:aS):cell x.pv 2=.int .i64 x.Ap:=rfl
theorem aa0(x:aS):cell x.pv 3=.int .i64 x.Aq:=rfl
theorem aa1(x:aS):cell x.pv 4=.int .i64 x.bm:=rfl
theorem aa2(x:aS):cell x.pv 5=.int .i64 x.Ar:=rfl
def vC(x:aS):Bool:= !wi x.Ao 0 1000000|| !wi x.Ap 1 8|| !wi x.Aq 1 16|| !wi x.bm 0 86400|| !wi x.Ar 1 255
def FH(l:List aS)(k:Nat):Int:=match l[k]? with
 |none=>0
 |some x=>if dR x.id=false then 12 else if x.id∈(l.map aS.id).take k then 6 else if vC x=true then 2 else 0
def vD(l:List aS)(aQ within cap:Int):PV:=.agg [.rs 6 (l.map aS.pv),.int .i64 aQ,.int .i64 within,.int .i64 cap]
def dF(l:List aS)(aQ within cap:Int):Int×Int:=if(!wi aQ 0 1000000|| !wi within 0 86400|| !wi cap 0 1000000)=true then(-1,2)else if l.length>16 then(0,5)else bS (FH l) l.length
theorem Lw(l:List aS)(aQ within cap:Int)(hl:l.length≤maxLen∧∀y∈l,y.Ok):da [vD l aQ within cap]=some (res (dF l aQ within cap).1 (dF l aQ within cap).2):=by
 have hm:=aT;simp only[da,qR,vD,asAgg,cell,PV.cells,List.getD_cons_zero,List.getD_cons_succ,List.length_cons,List.length_nil,Nat.reduceAdd,ab,asInt,asBool,if_true,U,List.length_map,An,aW];unfold dF;generalize (!wi aQ 0 1000000|| !wi within 0 86400|| !wi cap 0 1000000)=c;cases c with
 |true=>rfl
 |false=>
  simp only[Bool.false_eq_true,if_false];by_cases tw:l.length>16
  ·rw[if_pos (by simp;omega),if_pos tw];rfl
  ·rw[if_neg (by simp;omega),if_neg tw,←lD];refine aY (fun k=>(l.map aS.pv,(l.length:Int),(k:Int),seen PV.str ((l.map aS.id).take k),())) l.length _ (fun k hk rec=>?_) (fun rec=>?_) ?_ rfl
   ·have h1:(k:Int)<(l.length:Int):=by omega
    have hid:=uD l[k].id (hl.2 _ (List.getElem_mem hk)).id;have qN:=nd vB l[k].id ((l.map aS.id).take k);have rT:=kQ vB l[k].id ((l.map aS.id).take k);simp only[mB,decide_eq_true_eq,h1,if_true,aq,List.getElem?_map,List.getElem?_eq_getElem hk,Option.map_some,U,Zi,aaY,aaZ,aa0,aa1,aa2,bg,asInt,asBool,hid,qN,rT,An,aW,al (show k<9223372036854775807 by omega),pq aS.id l k hk];unfold FH;rw[List.getElem?_eq_getElem hk];have hb:(!wi l[k].Ao 0 1000000|| !wi l[k].Ap 1 8|| !wi l[k].Aq 1 16|| !wi l[k].bm 0 86400|| !wi l[k].Ar 1 255)=vC l[k]:=rfl;simp only[hb];generalize vC l[k]=c;cases dR l[k].id with
    |false=>rfl
    |true=>
     by_cases bO:l[k].id∈(l.map aS.id).take k
     ·simp only[bO,if_true,Bool.not_true,Bool.false_eq_true,Bool.true_eq_false,if_false];rfl
     ·simp only[bO,if_true,Bool.not_true,Bool.false_eq_true,Bool.true_eq_false,if_false];cases c<;>rfl
   ·simp only[mB,decide_eq_true_eq,Int.lt_irrefl,if_false];rfl
   ·have:=aP;omega
theorem Xl(n a b:Int):bC [.int .i64 n,.int .i64 a,.int .i64 b]=some (.bool (wi n a b)):=CE n a b
theorem HE(l:List aS)(hl:l.length≤maxLen)(d w c:Int)(i:Nat)(hi:i<l.length)(eO:Int×List PV×Int×Int×Int×Unit→Option PV):bK.run (lF eO) ((i:Int),0,l.map aS.pv,d,w,c,.str l[i].id,.int .i64 l[i].Ao,.int .i64 l[i].Ap,.int .i64 l[i].Aq,.int .i64 l[i].bm,.int .i64 l[i].Ar,())=if l[i].id∈(l.map aS.id).take i then some (res i 6)else if vC l[i]=true then some (res i 2)else eO (IntKind.i64.wrap ((i:Int)+1),l.map aS.pv,d,w,c,()):=by
 have hm:=aT;refine(px (fun k=>((i:Int),(k:Int),l.map aS.pv,d,w,c,PV.str l[i].id,PV.int .i64 l[i].Ao,PV.int .i64 l[i].Ap,PV.int .i64 l[i].Aq,PV.int .i64 l[i].bm,PV.int .i64 l[i].Ar,())) i (fun k=>decide ((l.map aS.id)[k]?=some l[i].id)) (no:=some (res i 6)) (fin:=if vC l[i]=true then some (res i 2)else eO (IntKind.i64.wrap ((i:Int)+1),l.map aS.pv,d,w,c,())) (fun k hk rec=>?_) (fun rec=>?_) ?_ rfl).trans ?_
 ·have h1:(k:Int)<(i:Int):=by omega
  have jJ:k<l.length:=by omega
  simp only[lF,decide_eq_true_eq,h1,if_true,aq,List.getElem?_map,List.getElem?_eq_getElem jJ,Option.map_some,U,Zi,bg,al (show k<9223372036854775807 by omega),ef,Option.some.injEq];rfl
 ·simp only[lF,decide_eq_true_eq,Int.lt_irrefl,if_false,U,asInt,if_true,Xl,asBool,aW];rfl
 ·have:=aP;omega
 ·rw[A8 _ _ (by simp;omega)];simp only[decide_eq_true_eq]
theorem PT(l:List aS)(aQ within cap:Int)(hl:l.length≤maxLen∧∀y∈l,y.Ok):jM [vD l aQ within cap]=some (res (dF l aQ within cap).1 (dF l aQ within cap).2):=by
 have hm:=aT;simp only[jM,uy,vD,asAgg,cell,PV.cells,List.getD_cons_zero,List.getD_cons_succ,List.length_cons,List.length_nil,Nat.reduceAdd,ab,asInt,asBool,if_true,U,List.length_map,Xl,aW];unfold dF;generalize (!wi aQ 0 1000000|| !wi within 0 86400|| !wi cap 0 1000000)=c;cases c with
 |true=>rfl
 |false=>
  simp only[Bool.false_eq_true,if_false];by_cases tw:l.length>16
  ·rw[if_pos (by simp;omega),if_pos tw];rfl
  ·rw[if_neg (by simp;omega),if_neg tw,←lD];refine aY (fun k=>((k:Int),l.map aS.pv,aQ,within,cap,())) l.length _ (fun k hk rec=>?_) (fun rec=>?_) ?_ rfl
   ·have h1:(k:Int)<(l.length:Int):=by omega
    have hid:=sQ l[k].id (hl.2 _ (List.getElem_mem hk)).id;have oV:=HE l hl.1 aQ within cap k hk rec;simp only[py,decide_eq_true_eq,List.length_map,h1,if_true,aq,List.getElem?_map,List.getElem?_eq_getElem hk,Option.map_some,U,Zi,aaY,aaZ,aa0,aa1,aa2,bg,asBool,hid,oV,al (show k<9223372036854775807 by omega)];unfold FH;rw[List.getElem?_eq_getElem hk];simp only;generalize vC l[k]=c;cases dR l[k].id with
    |false=>rfl
    |true=>
     by_cases bO:l[k].id∈(l.map aS.id).take k
     ·simp only[bO,if_true,Bool.not_true,Bool.false_eq_true,Bool.true_eq_false,if_false];rfl
     ·simp only[bO,if_true,Bool.not_true,Bool.false_eq_true,Bool.true_eq_false,if_false];cases c<;>rfl
   ·simp only[py,decide_eq_true_eq,List.length_map,Int.lt_irrefl,if_false];rfl
   ·have:=aP;omega
end Go.Ab.Tt
namespace Go.Ab.Tt
set_option maxRecDepth 100000
set_option linter.unusedVariables false
set_option linter.unusedSimpArgs false
theorem xO(x:an):cell x.pv 0=.int .i64 x.stop:=rfl
theorem pz(x:an):cell x.pv 1=.int .i64 x.arr:=rfl
theorem pA(x:an):cell x.pv 2=.int .i64 x.dep:=rfl
def eS(l:List an):Nat→Option an
 |0=>none
 |k+1=>l[k]?
def kR(c:an)(p:Option an)(stops low high:Int):Int:=
 if(decide (c.stop<0)||decide (c.stop≥stops))=true then 9
 else if(match p with|some p=>decide (p.stop=c.stop)|none=>false)=true then 13
 else if(decide (c.arr<low)||decide (c.arr>c.dep)||decide (c.dep>high)||(match p with|some p=>decide (c.arr<p.dep)|none=>false))=true then 10 else 0
def lG(l:List an)(stops low high:Int)(k:Nat):Int:=match l[k]? with
 |none=>0
 |some c=>kR c (eS l k) stops low high
def bj(l:List an)(stops low high:Int):Int×Int:=if(decide ((l.length:Int)<2)||decide ((l.length:Int)>32))=true then(0,5)else bS (lG l stops low high) l.length
theorem mC(j:Nat)(h:j<9223372036854775807):IntKind.i64.wrap (((j+1:Nat):Int)-1)=(j:Int):=by rw[fF (by omega) (by omega)];omega
theorem HF(l:List an)(stops low high:Int)(k:Nat)(hk:k<l.length)(hl:l.length≤maxLen):ku [.rs 5 (l.map an.pv),.int .i64 k,.int .i64 stops,.int .i64 low,.int .i64 high]=some (.int .i64 (lG l stops low high k)):=by
 have hm:=aT;simp only[ku,CA,ab,asInt,if_true,U,aq,List.getElem?_map,List.getElem?_eq_getElem hk,Option.map_some,xO,pz,pA,aW];unfold lG kR;rw[List.getElem?_eq_getElem hk];simp only;cases k with
 |zero=>
  have h0:decide (((0:Nat):Int)>0)=false:=by decide
  simp only[h0,cond_false,U,aW,Bool.or_false,eS];generalize (decide (l[0].stop<0)||decide (l[0].stop≥stops))=A;generalize (decide (l[0].arr<low)||decide (l[0].arr>l[0].dep)||decide (l[0].dep>high))=B;cases A<;>cases B<;>rfl
 |succ j=>
  have h0:decide (((j+1:Nat):Int)>0)=true:=by rw[decide_eq_true_eq];omega
  have hj:j<l.length:=by omega
  simp only[h0,cond_true,U,mC j (by omega),aq,List.getElem?_map,List.getElem?_eq_getElem hj,Option.map_some,xO,pA,asInt,if_true,eS,ef,aW];generalize (decide (l[j+1].stop<0)||decide (l[j+1].stop≥stops))=A;generalize (decide (l[j+1].arr<low)||decide (l[j+1].arr>l[j+1].dep)||decide (l[j+1].dep>high))=B;generalize decide (l[j].stop=l[j+1].stop)=C;generalize decide (l[j+1].arr<l[j].dep)=D;cases A<;>cases B<;>cases C<;>cases D<;>rfl
theorem oh(l:List an)(stops low high:Int)(hl:l.length≤maxLen):dv [.rs 5 (l.map an.pv),.int .i64 stops,.int .i64 low,.int .i64 high]=some (res (bj l stops low high).1 (bj l stops low high).2):=by
 have hm:=aT;simp only[dv,wP,ab,asInt,if_true,U,List.length_map,aW];unfold bj;split
 ·rfl
 ·rw[←lD];refine aY (fun k=>(l.map an.pv,stops,low,high,(l.length:Int),(k:Int),())) l.length _ (fun k hk rec=>?_) (fun rec=>?_) ?_ rfl
  ·have h1:(k:Int)<(l.length:Int):=by omega
   simp only[q8,decide_eq_true_eq,h1,if_true,HF l stops low high k hk hl,U,asInt,al (show k<9223372036854775807 by omega),jw];by_cases he:lG l stops low high k=0
   ·simp[he,HG,c8]
   ·simp[he,HG,c8,res]
  ·simp only[q8,decide_eq_true_eq,Int.lt_irrefl,if_false];rfl
  ·have:=aP;omega
theorem y8(l:List an)(stops low high:Int)(hl:l.length≤maxLen):cq [.rs 5 (l.map an.pv),.int .i64 stops,.int .i64 low,.int .i64 high]=some (.int .i64 (bj l stops low high).2):=by
 have hm:=aT;simp only[cq,uu,ab,asInt,if_true,U,List.length_map,aW];unfold bj;split
 ·rfl
 ·rw[←Lx];refine aY (fun k=>(l.map an.pv,stops,low,high,(k:Int),())) l.length _ (fun k hk rec=>?_) (fun rec=>?_) ?_ rfl
  ·have h1:(k:Int)<(l.length:Int):=by omega
   simp only[pB,decide_eq_true_eq,List.length_map,h1,if_true,aq,List.getElem?_map,List.getElem?_eq_getElem hk,Option.map_some,U,xO,pz,pA,asInt,aW,al (show k<9223372036854775807 by omega)];unfold lG kR;rw[List.getElem?_eq_getElem hk];simp only;cases k with
   |zero=>
    have h0:decide (((0:Nat):Int)>0)=false:=by decide
    simp only[h0,cond_false,U,aW,Bool.or_false,eS];generalize (decide (l[0].stop<0)||decide (l[0].stop≥stops))=A;generalize (decide (l[0].arr<low)||decide (l[0].arr>l[0].dep)||decide (l[0].dep>high))=B;cases A<;>cases B<;>rfl
   |succ j=>
    have h0:decide (((j+1:Nat):Int)>0)=true:=by rw[decide_eq_true_eq];omega
    have hj:j<l.length:=by omega
    have hc:decide (l[j+1].stop=l[j].stop)=decide (l[j].stop=l[j+1].stop):=by rw[Bool.eq_iff_iff];simp;exact eq_comm
    simp only[h0,cond_true,U,mC j (by omega),aq,List.getElem?_map,List.getElem?_eq_getElem hj,Option.map_some,xO,pA,asInt,if_true,eS,ef,aW,hc];generalize (decide (l[j+1].stop<0)||decide (l[j+1].stop≥stops))=A;generalize (decide (l[j+1].arr<low)||decide (l[j+1].arr>l[j+1].dep)||decide (l[j+1].dep>high))=B;generalize decide (l[j].stop=l[j+1].stop)=C;generalize decide (l[j+1].arr<l[j].dep)=D;cases A<;>cases B<;>cases C<;>cases D<;>rfl
  ·simp only[pB,decide_eq_true_eq,List.length_map,Int.lt_irrefl,if_false]
  ·have:=aP;omega
end Go.Ab.Tt
namespace Go.Ab.Tt
set_option maxRecDepth 100000
set_option linter.unusedVariables false
set_option linter.unusedSimpArgs false
structure bp where
 cX:Int
 day:Int
 inst:Int
 id:Bytes
 bd:Int
 free:Bool
 q9:Bool
 calls:List an
 deriving DecidableEq
def bp.pv(x:bp):PV:=.agg [.int .i64 x.cX,.int .i64 x.day,.int .i64 x.inst,.str x.id,.int .i64 x.bd,.bool x.free,.bool x.q9,.rs 5 (x.calls.map an.pv)]
structure bp.jx(M:Nat)(x:bp):Prop where
 cX:j9 x.cX
 day:j9 x.day
 inst:j9 x.inst
 id:x.id.length≤M
 bd:j9 x.bd
 calls:x.calls.length≤M∧∀y∈x.calls,y.jx M
abbrev bp.Ok(x:bp):Prop:=x.jx maxLen
theorem afi(r:bp):asAgg 8 r.pv=some ():=rfl
theorem aa3(r:bp):PV.agg [cell r.pv 0,cell r.pv 1,cell r.pv 2,cell r.pv 3,cell r.pv 4,cell r.pv 5,cell r.pv 6,cell r.pv 7]=r.pv:=rfl
theorem VO(x:bp):cell x.pv 0=.int .i64 x.cX:=rfl
theorem Ly(x:bp):cell x.pv 1=.int .i64 x.day:=rfl
theorem Lz(x:bp):cell x.pv 2=.int .i64 x.inst:=rfl
theorem LA(x:bp):cell x.pv 3=.str x.id:=rfl
theorem VP(x:bp):cell x.pv 4=.int .i64 x.bd:=rfl
theorem Zj(x:bp):cell x.pv 5=.bool x.free:=rfl
theorem Zk(x:bp):cell x.pv 6=.bool x.q9:=rfl
theorem AV(x:bp):cell x.pv 7=.rs 5 (x.calls.map an.pv):=rfl
structure aD where
 a:Int
 ac:Int
 b:Int
 bc:Int
 stay:Bool
 deriving DecidableEq
def aD.pv(x:aD):PV:=.agg [.int .i64 x.a,.int .i64 x.ac,.int .i64 x.b,.int .i64 x.bc,.bool x.stay]
structure aD.jx(M:Nat)(x:aD):Prop where
 a:j9 x.a
 ac:j9 x.ac
 b:j9 x.b
 bc:j9 x.bc
abbrev aD.Ok(x:aD):Prop:=x.jx maxLen
theorem CH(x:aD):cell x.pv 0=.int .i64 x.a:=rfl
theorem HH(x:aD):cell x.pv 1=.int .i64 x.ac:=rfl
theorem link2(x:aD):cell x.pv 2=.int .i64 x.b:=rfl
theorem HI(x:aD):cell x.pv 3=.int .i64 x.bc:=rfl
theorem Et(x:aD):cell x.pv 4=.bool x.stay:=rfl
theorem HJ(x:Path):cell x.pv 0=.int .i64 x.a:=rfl
theorem HK(x:Path):cell x.pv 1=.int .i64 x.b:=rfl
theorem Ob(x:Path):cell x.pv 2=.int .i64 x.bm:=rfl
theorem HL(x:Path):cell x.pv 3=.bool x.free:=rfl
structure ag where
 stops:List Stop
 af:List ax
 runs:List bp
 ah:List aD
 paths:List Path
 aw:List aS
 aQ:Int
 within:Int
 cap:Int
 deriving DecidableEq
def ag.pv(x:ag):PV:=.agg [.rs 4 (x.stops.map Stop.pv),.rs 3 (x.af.map ax.pv),.rs 8 (x.runs.map bp.pv),.rs 5 (x.ah.map aD.pv),.rs 4 (x.paths.map Path.pv),.rs 6 (x.aw.map aS.pv),.int .i64 x.aQ,.int .i64 x.within,.int .i64 x.cap]
structure ag.jx(M:Nat)(x:ag):Prop where
 stops:x.stops.length≤M∧∀y∈x.stops,y.jx M
 af:x.af.length≤M∧∀y∈x.af,y.jx M
 runs:x.runs.length≤M∧∀y∈x.runs,y.jx M
 ah:x.ah.length≤M∧∀y∈x.ah,y.jx M
 paths:x.paths.length≤M∧∀y∈x.paths,y.jx M
 aw:x.aw.length≤M∧∀y∈x.aw,y.jx M
 aQ:j9 x.aQ
 within:j9 x.within
 cap:j9 x.cap
abbrev ag.Ok(x:ag):Prop:=x.jx maxLen
theorem nS(x:ag):asAgg 9 x.pv=some ():=rfl
theorem pC(x:ag):ab 4 (cell x.pv 0)=some (x.stops.map Stop.pv):=rfl
theorem pD(x:ag):ab 3 (cell x.pv 1)=some (x.af.map ax.pv):=rfl
theorem pE(x:ag):ab 8 (cell x.pv 2)=some (x.runs.map bp.pv):=rfl
theorem pF(x:ag):ab 5 (cell x.pv 3)=some (x.ah.map aD.pv):=rfl
theorem pG(x:ag):ab 4 (cell x.pv 4)=some (x.paths.map Path.pv):=rfl
theorem pH(x:ag):ab 6 (cell x.pv 5)=some (x.aw.map aS.pv):=rfl
theorem pI(x:ag):asInt .i64 (cell x.pv 6)=some x.aQ:=rfl
theorem pJ(x:ag):asInt .i64 (cell x.pv 7)=some x.within:=rfl
theorem pK(x:ag):asInt .i64 (cell x.pv 8)=some x.cap:=rfl
theorem vN(x:ag):PV.agg [.rs 4 (x.stops.map Stop.pv),.rs 3 (x.af.map ax.pv),.rs 8 (x.runs.map bp.pv),.rs 5 (x.ah.map aD.pv),.rs 4 (x.paths.map Path.pv),.rs 6 (x.aw.map aS.pv),.int .i64 x.aQ,.int .i64 x.within,.int .i64 x.cap]=x.pv:=rfl
def r3(p i e:Int):PV:=.agg [.int .i64 p,.int .i64 i,.int .i64 e]
def prt(p:Int)(x:Int×Int):PV:=if x.2=0 then r3 0 0 0 else r3 p x.1 x.2
theorem Oc(p i e:Int):asAgg 3 (r3 p i e)=some ():=rfl
theorem wS(p i e:Int):cell (r3 p i e) 0=.int .i64 p:=rfl
theorem vE(p i e:Int):cell (r3 p i e) 1=.int .i64 i:=rfl
theorem y9(p i e:Int):cell (r3 p i e) 2=.int .i64 e:=rfl
theorem CI(p i e:Int):aV [.int .i64 p,.int .i64 i,.int .i64 e]=some (r3 p i e):=rfl
theorem wT(n m:Int):bT [.int .i64 n,.int .i64 m]=some (.bool (decide (n≥0)&&decide (n<m))):=by simp only[bT,pg,asInt,if_true,U,cT]
variable{R:Type}
theorem ir(f:Nat→Int)(n:Nat)(g:Int→Int→R)(fin:Option R):c8 ((List.range n).findSome? fun k=>if f k=0 then none else some (some (g k (f k)))) fin=if(bS f n).2=0 then fin else some (g (bS f n).1 (bS f n).2):=by
 unfold bS;have:(List.range n).findSome? (fun k=>if f k=0 then none else some (some (g k (f k))))=((List.range n).findSome? (fun k=>if f k=0 then none else some ((k:Int),f k))).map fun x=>some (g x.1 x.2):=by rw[List.map_findSome?];congr 1;funext k;by_cases h:f k=0<;>simp[h]
 rw[this];cases hf:(List.range n).findSome? (fun k=>if f k=0 then none else some ((k:Int),f k))with
 |none=>rfl
 |some x=>
  obtain⟨k,_,hk⟩:=List.exists_of_findSome?_eq_some hf;have hx:x.2≠0:=by
   by_cases h0:f k=0
   ·rw[if_pos h0]at hk;cases hk
   ·rw[if_neg h0]at hk;simp only[Option.some.injEq]at hk;subst hk;exact h0
  simp only[Option.map_some,c8];rw[if_neg hx]
theorem mD(f:Nat→Int)(n:Nat):(bS f n).2=0↔∀k,k<n→f k=0:=by
 unfold bS;cases hf:(List.range n).findSome? (fun k=>if f k=0 then none else some ((k:Int),f k))with
 |none=>
  simp only[true_iff];intro k hk;rw[List.findSome?_eq_none_iff]at hf;have:=hf k (by simpa using hk);by_cases h0:f k=0
  ·exact h0
  ·rw[if_neg h0]at this;cases this
 |some x=>
  obtain⟨k,hk,hx⟩:=List.exists_of_findSome?_eq_some hf;by_cases h0:f k=0
  ·rw[if_pos h0]at hx;cases hx
  ·rw[if_neg h0]at hx;simp only[Option.some.injEq]at hx;subst hx;exact⟨fun h=>absurd h h0,fun h=>absurd (h k (by simpa using hk)) h0⟩
theorem re{S:Type}{body:S→(S→Option R)→Option R}(st:Nat→S)(n:Nat)(bad:Nat→Option (Option R)){fin:Option R}(h:∀k,k<n→(∀j,j<k→bad j=none)→∀rec,body (st k) rec=c8 (bad k) (rec (st (k+1))))(nm:(∀j,j<n→bad j=none)→∀rec,body (st n) rec=fin)(hn:n<rounds){s0:S}(h0:st 0=s0):bK.run body s0=c8 ((List.range n).findSome? bad) fin:=by
 by_cases AQ:∀j,j<n→bad j=none
 ·have:(List.range n).findSome? bad=none:=by rw[List.findSome?_eq_none_iff];intro k hk;exact AQ k (by simpa using hk)
  rw[this];refine br st n (fun k hk rec=>?_) (nm AQ) hn h0;rw[h k hk (fun j hj=>AQ j (by omega)),AQ k hk];rfl
 ·have hex:∃m,m<n∧bad m≠none∧∀j,j<m→bad j=none:=by
   have key:∀m,(∃i,i<m∧i<n∧bad i≠none)→∃m,m<n∧bad m≠none∧∀j,j<m→bad j=none:=by
    intro m;induction m with
    |zero=>rintro⟨i,hi,_⟩;omega
    |succ m ih=>
     intro hi;by_cases hc:∃i,i<m∧i<n∧bad i≠none
     ·exact ih hc
     ·obtain⟨i,h1,h2,h3⟩:=hi;have him:i=m:=by
       by_cases h:i<m
       ·exact absurd ⟨i,h,h2,h3⟩ hc
       ·omega
      subst him;refine⟨i,h2,h3,fun j hj=>?_⟩;cases hb:bad j with
      |none=>rfl
      |some x=>exact absurd ⟨j,hj,by omega,by rw[hb];exact fun h=>nomatch h⟩ hc
   have hc:∃i,i<n∧bad i≠none:=by
    by_cases hc:∃i,i<n∧bad i≠none
    ·exact hc
    ·refine absurd (fun j hj=>?_) AQ;cases hb:bad j with
     |none=>rfl
     |some x=>exact absurd ⟨j,hj,by rw[hb];exact fun h=>nomatch h⟩ hc
   obtain⟨i,h1,h2⟩:=hc;exact key n ⟨i,h1,h1,h2⟩
  obtain⟨m,hm,hb,bu⟩:=hex;cases hbm:bad m with
  |none=>exact absurd hbm hb
  |some x=>
   have hf:(List.range n).findSome? bad=some x:=by
    have hnm:n=m+(n-m):=by omega
    rw[hnm,List.range_add,List.findSome?_append];have h1:(List.range m).findSome? bad=none:=by rw[List.findSome?_eq_none_iff];intro k hk;exact bu k (by simpa using hk)
    rw[h1,Option.none_or];have hd:n-m=(n-m-1)+1:=by omega
    rw[hd,List.range_succ_eq_map,List.map_cons,List.findSome?_cons,Nat.add_zero,hbm]
   rw[hf];refine br st m (fun k hk rec=>?_) (fun rec=>?_) (by omega) h0
   ·rw[h k (by omega) (fun j hj=>bu j (by omega)),bu k hk];rfl
   ·rw[h m hm bu,hbm];rfl
theorem mP{A:Type}[DecidableEq A](a b:List A)(h:a.length=b.length)(no fin:Option R):c8 ((List.range a.length).findSome? fun k=>if a[k]?=b[k]? then none else some no) fin=if a=b then fin else no:=by
 by_cases ry:a=b
 ·rw[if_pos ry];have:(List.range a.length).findSome? (fun k=>if a[k]?=b[k]? then none else some no)=none:=by rw[List.findSome?_eq_none_iff];intro k _;rw[if_pos (by rw[ry])]
  rw[this];rfl
 ·rw[if_neg ry];cases hf:(List.range a.length).findSome? (fun k=>if a[k]?=b[k]? then none else some no)with
  |none=>
   refine absurd (List.ext_getElem? fun k=>?_) ry;rw[List.findSome?_eq_none_iff]at hf;by_cases hk:k<a.length
   ·have:=hf k (by simpa using hk);by_cases h0:a[k]?=b[k]?
    ·exact h0
    ·rw[if_neg h0]at this;cases this
   ·rw[List.getElem?_eq_none (by omega),List.getElem?_eq_none (by omega)]
  |some x=>
   obtain⟨k,hk,hx⟩:=List.exists_of_findSome?_eq_some hf;by_cases h0:a[k]?=b[k]?
   ·rw[if_pos h0]at hx;cases hx
   ·rw[if_neg h0]at hx;simp only[Option.some.injEq]at hx;subst hx;rfl
end Go.Ab.Tt
