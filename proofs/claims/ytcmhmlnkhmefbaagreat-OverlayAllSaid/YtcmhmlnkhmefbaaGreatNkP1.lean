import Derived.Test.YtcmhmlnkhmefbaaGreatTtChk0
import Derived.Test.YtcmhmlnkhmefbaaGreatSh2
namespace Go.Ab.Tt
set_option maxRecDepth 100000
set_option linter.unusedVariables false
theorem uF(s:Bytes)(hs:s.length≤maxLen):dv [.str s]=some (.bool (dS s)):=by
 have hm:=aT;simp only[dv,uy,bh,U];refine(CG s hs jn (some (.bool false)) (some (.bool (decide ((s.length:Int)>0)&&decide ((s.length:Int)≤32)))) (fun k hk rec=>?_) (fun rec=>?_)).trans ?_
 ·have h1:(k:Int)<(s.length:Int):=by omega
  simp only[pH,decide_eq_true_eq,h1,if_true,CH,List.getElem?_eq_getElem hk,U,cT,ak (show k<9223372036854775807 by omega),dU];generalize s[k]=b;unfold jn;generalize (decide (97≤(b.toNat:Int))&&decide ((b.toNat:Int)≤122))=x1;generalize (decide (65≤(b.toNat:Int))&&decide ((b.toNat:Int)≤90))=x2;generalize (decide (48≤(b.toNat:Int))&&decide ((b.toNat:Int)≤57))=x3;by_cases e4:(b.toNat:Int)=45<;>by_cases e5:(b.toNat:Int)=95<;>by_cases e6:(b.toNat:Int)=46<;>cases x1<;>cases x2<;>cases x3<;>simp[e4,e5,e6]
 ·simp only[pH,decide_eq_true_eq,Int.lt_irrefl,if_false,cT,U]
 ·unfold dS;cases s.all jn with
  |true=>simp only[if_true,Bool.and_true,Option.some.injEq,PV.bool.injEq];rw[Bool.eq_iff_iff];simp only[Bool.and_eq_true,decide_eq_true_eq];omega
  |false=>simp
theorem EE{body:Bytes×Int×Unit→(Bytes×Int×Unit→Option PV)→Option PV}(s:Bytes)(hs:s.length≤maxLen)(h:∀k,(hk:k<s.length)→∀rec,body (s,(k:Int),()) rec=if jn s[k]then rec (s,((k+1:Nat):Int),())else some (.bool false))(nv:∀rec,body (s,(s.length:Int),()) rec=some (.bool true)){c:Bool}(hc:c= !(decide (1≤s.length)&&decide (s.length≤32))):(if c=true then some (.bool false)else bI.run body (s,0,()))=some (.bool (dS s)):=by rw[CG s hs jn _ _ h nv,hc];unfold dS;cases s.all jn<;>cases(decide (1≤s.length)&&decide (s.length≤32))<;>rfl
theorem sQ(s:Bytes)(hs:s.length≤maxLen):eg [.str s]=some (.bool (dS s)):=by
 have hm:=aT;simp only[eg,q7,bh,U,aW];refine EE s hs (fun k hk rec=>?_) (fun rec=>?_) ?_
 ·have h1:(k:Int)<(s.length:Int):=by omega
  simp only[mC,decide_eq_true_eq,h1,if_true,CH,List.getElem?_eq_getElem hk,U,cT,aW,ak (show k<9223372036854775807 by omega),jy];generalize s[k]=b;unfold jn;simp only[ge_iff_le];generalize (decide (97≤(b.toNat:Int))&&decide ((b.toNat:Int)≤122))=x1;generalize (decide (65≤(b.toNat:Int))&&decide ((b.toNat:Int)≤90))=x2;generalize (decide (48≤(b.toNat:Int))&&decide ((b.toNat:Int)≤57))=x3;by_cases e4:(b.toNat:Int)=45<;>by_cases e5:(b.toNat:Int)=95<;>by_cases e6:(b.toNat:Int)=46<;>cases x1<;>cases x2<;>cases x3<;>simp[e4,e5,e6]
 ·simp only[mC,decide_eq_true_eq,Int.lt_irrefl,if_false]
 ·rw[Bool.eq_iff_iff];simp only[dU,Bool.or_eq_true,Bool.not_eq_true',Bool.and_eq_false_iff,decide_eq_true_eq,decide_eq_false_iff_not];omega
def FT(l:List Stop)(k:Nat):Int:=match l[k]? with
 |none=>0
 |some x=>if dS x.id=false then 12 else if x.id∈(l.map Stop.id).take k then 6 else if(decide (x.tt<0)||decide (x.tt≥16)||decide (x.change<0)||decide (x.change>3600))=true then 2 else 0
def gQ(l:List Stop):Int×Int:=if l.length>64 then(0,5)else bS (FT l) l.length
theorem Qc(l:List Stop)(hl:l.length≤maxLen∧∀y∈l,y.Ok):gL [.rs 4 (l.map Stop.pv)]=some (res (gQ l).1 (gQ l).2):=by
 have hm:=aT;simp only[gL,wQ,ab,if_true,U,List.length_map];unfold gQ;by_cases tz:l.length>64
 ·rw[if_pos (by simp;omega),if_pos tz];rfl
 ·rw[if_neg (by simp;omega),if_neg tz,←lD];refine aY (fun k=>(l.map Stop.pv,(l.length:Int),(k:Int),seen PV.str ((l.map Stop.id).take k),())) l.length _ (fun k hk rec=>?_) (fun rec=>?_) ?_ rfl
  ·have h1:(k:Int)<(l.length:Int):=by omega
   have hid:=uF l[k].id (hl.2 _ (List.getElem_mem hk)).id;have qR:=ni vF l[k].id ((l.map Stop.id).take k);have rV:=kS vF l[k].id ((l.map Stop.id).take k);simp only[rf,decide_eq_true_eq,h1,if_true,aq,List.getElem?_map,List.getElem?_eq_getElem hk,Option.map_some,U,Stop.pv,cell,PV.cells,List.getD_cons_zero,List.getD_cons_succ,bh,asInt,asBool,hid,qR,rV,aW,ak (show k<9223372036854775807 by omega),pI Stop.id l k hk];unfold FT;rw[List.getElem?_eq_getElem hk];simp only;generalize (decide (l[k].tt<0)||decide (l[k].tt≥16)||decide (l[k].change<0)||decide (l[k].change>3600))=c;cases dS l[k].id with
   |false=>rfl
   |true=>
    by_cases bO:l[k].id∈(l.map Stop.id).take k
    ·simp only[bO,if_true,Bool.not_true,Bool.false_eq_true,Bool.true_eq_false,if_false];rfl
    ·simp only[bO,if_true,Bool.not_true,Bool.false_eq_true,Bool.true_eq_false,if_false];cases c<;>rfl
  ·simp only[rf,decide_eq_true_eq,Int.lt_irrefl,if_false];rfl
  ·have:=aP;omega
end Go.Ab.Tt
namespace Go.Ab.Tt
set_option maxRecDepth 100000
set_option linter.unusedVariables false
set_option linter.unusedSimpArgs false
theorem CI(n a b:Int):bE [.int .i64 n,.int .i64 a,.int .i64 b]=some (.bool (decide (n≥a)&&decide (n≤b))):=by simp only[bE,CF,asInt,if_true,U,cT]
theorem FU(x:Stop):cell x.pv 0=.str x.id:=rfl
theorem V9(x:Stop):cell x.pv 1=.int .i64 x.tt:=rfl
theorem Wa(x:Stop):cell x.pv 3=.int .i64 x.change:=rfl
theorem HR{R:Type}(ids:List Bytes)(i:Nat)(hi:i<ids.length)(no fin:Option R):cY ((List.range i).findSome? fun k=>if decide (ids[k]?=some ids[i])=true then some no else none) fin=if ids[i]∈ids.take i then no else fin:=by
 rw[qA (fun k=>decide (ids[k]?=some ids[i])) (fun _=>no)];cases hf:(List.range i).find? fun k=>decide (ids[k]?=some ids[i])with
 |none=>
  have hn:ids[i]∉ids.take i:=fun bO=>by
   obtain⟨j,hj⟩:=List.mem_iff_getElem?.1 bO;have Kb:j<i:=by have:=(List.getElem?_eq_some_iff.1 hj).1;simp at this;omega
   rw[List.getElem?_take_of_lt Kb]at hj;rw[List.find?_eq_none]at hf;exact hf j (by simpa using Kb) (by simpa using hj)
  rw[if_neg hn];rfl
 |some j=>rw[List.find?_range_eq_some]at hf;obtain⟨h1,h2,_⟩:=hf;have bO:ids[i]∈ids.take i:=List.mem_iff_getElem?.2 ⟨j,by rw[List.getElem?_take_of_lt (by simpa using h2)];simpa using h1⟩;rw[if_pos bO];rfl
theorem HS(l:List Stop)(hl:l.length≤maxLen)(i:Nat)(hi:i<l.length)(eP:List PV×Int×Unit→Option PV):bI.run (lE eP) (l.map Stop.pv,(i:Int),0,())=if(l.map Stop.id)[i]'(by simpa using hi)∈(l.map Stop.id).take i then some (res i 6)else if(decide (l[i].tt<0)||decide (l[i].tt≥16)||decide (l[i].change<0)||decide (l[i].change>3600))=true then some (res i 2)else eP (l.map Stop.pv,IntKind.i64.wrap ((i:Int)+1),()):=by
 have hm:=aT;have Sz:(l.map Stop.pv)[i]?=some l[i].pv:=by rw[List.getElem?_map,List.getElem?_eq_getElem hi];rfl
 have Ei:i<(l.map Stop.id).length:=by simpa using hi
 have Zy:(l.map Stop.id)[i]=l[i].id:=by simp
 rw[←HR (l.map Stop.id) i Ei];refine aY (fun k=>(l.map Stop.pv,(i:Int),(k:Int),())) i (fun k=>if decide ((l.map Stop.id)[k]?=some (l.map Stop.id)[i])=true then some (some (res i 6))else none) (fun k hk rec=>?_) (fun rec=>?_) ?_ rfl
 ·have h1:decide ((k:Int)<(i:Int))=true:=by simp;omega
  have jK:k<l.length:=by omega
  have Zz:(l.map Stop.pv)[k]?=some l[k].pv:=by rw[List.getElem?_map,List.getElem?_eq_getElem jK];rfl
  have hdk:decide ((l.map Stop.id)[k]?=some (l.map Stop.id)[i])=decide (l[k].id=l[i].id):=by rw[List.getElem?_map,List.getElem?_eq_getElem jK,Zy];simp
  unfold lE;dsimp only;rw[if_pos h1,aq,Zz,U,FU,aq,Sz,ak (by omega),hdk];simp only[bh,U,FU,dU];cases decide (l[k].id=l[i].id)<;>rfl
 ·unfold lE;dsimp only;rw[if_neg (by simp),aq,Sz];simp only[U,V9,Wa,asInt,if_true,CI,asBool,aW];have:(!(decide (l[i].tt≥0)&&decide (l[i].tt≤15))|| !(decide (l[i].change≥0)&&decide (l[i].change≤3600)))=(decide (l[i].tt<0)||decide (l[i].tt≥16)||decide (l[i].change<0)||decide (l[i].change>3600)):=by rw[Bool.eq_iff_iff];simp only[Bool.or_eq_true,Bool.not_eq_true',Bool.and_eq_false_iff,decide_eq_true_eq,decide_eq_false_iff_not];omega
  rw[this];cases(decide (l[i].tt<0)||decide (l[i].tt≥16)||decide (l[i].change<0)||decide (l[i].change>3600))<;>rfl
 ·have:=aP;omega
theorem Qd(l:List Stop)(hl:l.length≤maxLen∧∀y∈l,y.Ok):jM [.rs 4 (l.map Stop.pv)]=some (res (gQ l).1 (gQ l).2):=by
 have hm:=aT;simp only[jM,ui,ab,if_true,U,List.length_map];unfold gQ;by_cases tz:l.length>64
 ·rw[if_pos (by simp;omega),if_pos tz];rfl
 ·rw[if_neg (by simp;omega),if_neg tz,←lD];refine aY (fun k=>(l.map Stop.pv,(k:Int),())) l.length _ (fun k hk rec=>?_) (fun rec=>?_) ?_ rfl
  ·have h1:decide ((k:Int)<((l.map Stop.pv).length:Int))=true:=by simp;omega
   have Zz:(l.map Stop.pv)[k]?=some l[k].pv:=by rw[List.getElem?_map,List.getElem?_eq_getElem hk];rfl
   have hid:=sQ l[k].id (hl.2 _ (List.getElem_mem hk)).id;have ZA:(l.map Stop.id)[k]'(by simpa using hk)=l[k].id:=by simp
   unfold pJ;dsimp only;rw[if_pos h1,aq,Zz,U,FU];simp only[bh,U,hid,asBool];rw[HS l hl.1 k hk rec,ZA,ak (by omega)];unfold FT;rw[List.getElem?_eq_getElem hk];simp only;generalize (decide (l[k].tt<0)||decide (l[k].tt≥16)||decide (l[k].change<0)||decide (l[k].change>3600))=c;cases dS l[k].id with
   |false=>rfl
   |true=>
    by_cases bO:l[k].id∈(l.map Stop.id).take k
    ·simp only[bO,if_true,Bool.not_true,Bool.false_eq_true,Bool.true_eq_false,if_false];rfl
    ·simp only[bO,if_true,Bool.not_true,Bool.false_eq_true,Bool.true_eq_false,if_false];cases c<;>rfl
  ·unfold pJ;dsimp only;rw[if_neg (by simp)];rfl
  ·have:=aP;omega
end Go.Ab.Tt
namespace Go.Ab.Tt
set_option maxRecDepth 100000
set_option linter.unusedVariables false
set_option linter.unusedSimpArgs false
theorem CJ(x:ax):cell x.pv 0=.str x.id:=rfl
theorem Ti(x:ax):cell x.pv 1=.int .i64 x.mode:=rfl
def CK(l:List ax)(k:Nat):Int:=match l[k]? with
 |none=>0
 |some x=>if dS x.id=false then 12 else if x.id∈(l.map ax.id).take k then 6 else if(decide (x.mode≥0)&&decide (x.mode<8))=false then 2 else 0
def fA(l:List ax):Int×Int:=if l.length>64 then(0,5)else bS (CK l) l.length
theorem LJ(l:List ax)(hl:l.length≤maxLen∧∀y∈l,y.Ok):fX [.rs 3 (l.map ax.pv)]=some (res (fA l).1 (fA l).2):=by
 have hm:=aT;simp only[fX,uv,ab,if_true,U,List.length_map];unfold fA;by_cases tz:l.length>64
 ·rw[if_pos (by simp;omega),if_pos tz];rfl
 ·rw[if_neg (by simp;omega),if_neg tz,←lD];refine aY (fun k=>(l.map ax.pv,(l.length:Int),(k:Int),seen PV.str ((l.map ax.id).take k),())) l.length _ (fun k hk rec=>?_) (fun rec=>?_) ?_ rfl
  ·have h1:(k:Int)<(l.length:Int):=by omega
   have hid:=uF l[k].id (hl.2 _ (List.getElem_mem hk)).id;have qR:=ni vF l[k].id ((l.map ax.id).take k);have rV:=kS vF l[k].id ((l.map ax.id).take k);simp only[pK,decide_eq_true_eq,h1,if_true,aq,List.getElem?_map,List.getElem?_eq_getElem hk,Option.map_some,U,ax.pv,cell,PV.cells,List.getD_cons_zero,List.getD_cons_succ,bh,asInt,asBool,hid,qR,rV,aW,ak (show k<9223372036854775807 by omega),pI ax.id l k hk,iq,uk,cT];unfold CK;rw[List.getElem?_eq_getElem hk];simp only;generalize (decide (l[k].mode≥0)&&decide (l[k].mode<8))=c;cases dS l[k].id with
   |false=>rfl
   |true=>
    by_cases bO:l[k].id∈(l.map ax.id).take k
    ·simp only[bO,if_true,Bool.not_true,Bool.false_eq_true,Bool.true_eq_false,if_false];rfl
    ·simp only[bO,if_true,Bool.not_true,Bool.false_eq_true,Bool.true_eq_false,if_false];cases c<;>rfl
  ·simp only[pK,decide_eq_true_eq,Int.lt_irrefl,if_false];rfl
  ·have:=aP;omega
theorem FV(l:List ax)(hl:l.length≤maxLen)(i:Nat)(hi:i<l.length)(eP:List PV×Int×Unit→Option PV):bI.run (j8 eP) (l.map ax.pv,(i:Int),0,())=if(l.map ax.id)[i]'(by simpa using hi)∈(l.map ax.id).take i then some (res i 6)else if(decide (l[i].mode≥0)&&decide (l[i].mode<8))=false then some (res i 2)else eP (l.map ax.pv,IntKind.i64.wrap ((i:Int)+1),()):=by
 have hm:=aT;have Sz:(l.map ax.pv)[i]?=some l[i].pv:=by rw[List.getElem?_map,List.getElem?_eq_getElem hi];rfl
 have Ei:i<(l.map ax.id).length:=by simpa using hi
 have Zy:(l.map ax.id)[i]=l[i].id:=by simp
 rw[←HR (l.map ax.id) i Ei];refine aY (fun k=>(l.map ax.pv,(i:Int),(k:Int),())) i (fun k=>if decide ((l.map ax.id)[k]?=some (l.map ax.id)[i])=true then some (some (res i 6))else none) (fun k hk rec=>?_) (fun rec=>?_) ?_ rfl
 ·have h1:decide ((k:Int)<(i:Int))=true:=by simp;omega
  have jK:k<l.length:=by omega
  have Zz:(l.map ax.pv)[k]?=some l[k].pv:=by rw[List.getElem?_map,List.getElem?_eq_getElem jK];rfl
  have hdk:decide ((l.map ax.id)[k]?=some (l.map ax.id)[i])=decide (l[k].id=l[i].id):=by rw[List.getElem?_map,List.getElem?_eq_getElem jK,Zy];simp
  unfold j8;dsimp only;rw[if_pos h1,aq,Zz,U,CJ,aq,Sz,ak (by omega),hdk];simp only[bh,U,CJ,dU];cases decide (l[k].id=l[i].id)<;>rfl
 ·unfold j8;dsimp only;rw[if_neg (by simp),aq,Sz];simp only[U,Ti,asInt,if_true,CI,asBool];have:(decide (l[i].mode≥0)&&decide (l[i].mode≤7))=(decide (l[i].mode≥0)&&decide (l[i].mode<8)):=by rw[Bool.eq_iff_iff];simp only[Bool.and_eq_true,decide_eq_true_eq];omega
  rw[this];cases(decide (l[i].mode≥0)&&decide (l[i].mode<8))<;>rfl
 ·have:=aP;omega
theorem LK(l:List ax)(hl:l.length≤maxLen∧∀y∈l,y.Ok):iZ [.rs 3 (l.map ax.pv)]=some (res (fA l).1 (fA l).2):=by
 have hm:=aT;simp only[iZ,sL,ab,if_true,U,List.length_map];unfold fA;by_cases tz:l.length>64
 ·rw[if_pos (by simp;omega),if_pos tz];rfl
 ·rw[if_neg (by simp;omega),if_neg tz,←lD];refine aY (fun k=>(l.map ax.pv,(k:Int),())) l.length _ (fun k hk rec=>?_) (fun rec=>?_) ?_ rfl
  ·have h1:decide ((k:Int)<((l.map ax.pv).length:Int))=true:=by simp;omega
   have Zz:(l.map ax.pv)[k]?=some l[k].pv:=by rw[List.getElem?_map,List.getElem?_eq_getElem hk];rfl
   have hid:=sQ l[k].id (hl.2 _ (List.getElem_mem hk)).id;have ZA:(l.map ax.id)[k]'(by simpa using hk)=l[k].id:=by simp
   unfold nM;dsimp only;rw[if_pos h1,aq,Zz,U,CJ];simp only[bh,U,hid,asBool];rw[FV l hl.1 k hk rec,ZA,ak (by omega)];unfold CK;rw[List.getElem?_eq_getElem hk];simp only;generalize (decide (l[k].mode≥0)&&decide (l[k].mode<8))=c;cases dS l[k].id with
   |false=>rfl
   |true=>
    by_cases bO:l[k].id∈(l.map ax.id).take k
    ·simp only[bO,if_true,Bool.not_true,Bool.false_eq_true,Bool.true_eq_false,if_false];rfl
    ·simp only[bO,if_true,Bool.not_true,Bool.false_eq_true,Bool.true_eq_false,if_false];cases c<;>rfl
  ·unfold nM;dsimp only;rw[if_neg (by simp)];rfl
  ·have:=aP;omega
end Go.Ab.Tt
namespace Go.Ab.Tt
set_option maxRecDepth 100000
set_option linter.unusedVariables false
set_option linter.unusedSimpArgs false
def wi(n a b:Int):Bool:=decide (n≥a)&&decide (n≤b)
theorem Ai(n a b:Int):bw [.int .i64 n,.int .i64 a,.int .i64 b]=some (.bool (wi n a b)):=by simp only[bw,pG,asInt,if_true,U,cT];rfl
theorem ZB(x:aS):cell x.pv 0=.str x.id:=rfl
theorem aa7(x:aS):cell x.pv 1=.int .i64 x.Aj:=rfl
theorem aa8(x:aS):cell x.pv 2=.int .i64 x.Ak:=rfl
theorem aa9(x:aS):cell x.pv 3=.int .i64 x.Al:=rfl
theorem aba(x:aS):cell x.pv 4=.int .i64 x.bm:=rfl
theorem abb(x:aS):cell x.pv 5=.int .i64 x.Am:=rfl
def vG(x:aS):Bool:= !wi x.Aj 0 1000000|| !wi x.Ak 1 8|| !wi x.Al 1 16|| !wi x.bm 0 86400|| !wi x.Am 1 255
def FW(l:List aS)(k:Nat):Int:=match l[k]? with
 |none=>0
 |some x=>if dS x.id=false then 12 else if x.id∈(l.map aS.id).take k then 6 else if vG x=true then 2 else 0
def vH(l:List aS)(aR within cap:Int):PV:=.agg [.rs 6 (l.map aS.pv),.int .i64 aR,.int .i64 within,.int .i64 cap]
def dG(l:List aS)(aR within cap:Int):Int×Int:=if(!wi aR 0 1000000|| !wi within 0 86400|| !wi cap 0 1000000)=true then(-1,2)else if l.length>16 then(0,5)else bS (FW l) l.length
theorem LL(l:List aS)(aR within cap:Int)(hl:l.length≤maxLen∧∀y∈l,y.Ok):db [vH l aR within cap]=some (res (dG l aR within cap).1 (dG l aR within cap).2):=by
 have hm:=aT;simp only[db,qV,vH,asAgg,cell,PV.cells,List.getD_cons_zero,List.getD_cons_succ,List.length_cons,List.length_nil,Nat.reduceAdd,ab,asInt,asBool,if_true,U,List.length_map,Ai,aW];unfold dG;generalize (!wi aR 0 1000000|| !wi within 0 86400|| !wi cap 0 1000000)=c;cases c with
 |true=>rfl
 |false=>
  simp only[Bool.false_eq_true,if_false];by_cases tz:l.length>16
  ·rw[if_pos (by simp;omega),if_pos tz];rfl
  ·rw[if_neg (by simp;omega),if_neg tz,←lD];refine aY (fun k=>(l.map aS.pv,(l.length:Int),(k:Int),seen PV.str ((l.map aS.id).take k),())) l.length _ (fun k hk rec=>?_) (fun rec=>?_) ?_ rfl
   ·have h1:(k:Int)<(l.length:Int):=by omega
    have hid:=uF l[k].id (hl.2 _ (List.getElem_mem hk)).id;have qR:=ni vF l[k].id ((l.map aS.id).take k);have rV:=kS vF l[k].id ((l.map aS.id).take k);simp only[mD,decide_eq_true_eq,h1,if_true,aq,List.getElem?_map,List.getElem?_eq_getElem hk,Option.map_some,U,ZB,aa7,aa8,aa9,aba,abb,bh,asInt,asBool,hid,qR,rV,Ai,aW,ak (show k<9223372036854775807 by omega),pI aS.id l k hk];unfold FW;rw[List.getElem?_eq_getElem hk];have hb:(!wi l[k].Aj 0 1000000|| !wi l[k].Ak 1 8|| !wi l[k].Al 1 16|| !wi l[k].bm 0 86400|| !wi l[k].Am 1 255)=vG l[k]:=rfl;simp only[hb];generalize vG l[k]=c;cases dS l[k].id with
    |false=>rfl
    |true=>
     by_cases bO:l[k].id∈(l.map aS.id).take k
     ·simp only[bO,if_true,Bool.not_true,Bool.false_eq_true,Bool.true_eq_false,if_false];rfl
     ·simp only[bO,if_true,Bool.not_true,Bool.false_eq_true,Bool.true_eq_false,if_false];cases c<;>rfl
   ·simp only[mD,decide_eq_true_eq,Int.lt_irrefl,if_false];rfl
   ·have:=aP;omega
theorem XG(n a b:Int):bE [.int .i64 n,.int .i64 a,.int .i64 b]=some (.bool (wi n a b)):=CI n a b
theorem HT(l:List aS)(hl:l.length≤maxLen)(d w c:Int)(i:Nat)(hi:i<l.length)(eP:Int×List PV×Int×Int×Int×Unit→Option PV):bI.run (lF eP) ((i:Int),0,l.map aS.pv,d,w,c,.str l[i].id,.int .i64 l[i].Aj,.int .i64 l[i].Ak,.int .i64 l[i].Al,.int .i64 l[i].bm,.int .i64 l[i].Am,())=if l[i].id∈(l.map aS.id).take i then some (res i 6)else if vG l[i]=true then some (res i 2)else eP (IntKind.i64.wrap ((i:Int)+1),l.map aS.pv,d,w,c,()):=by
 have hm:=aT;refine(pL (fun k=>((i:Int),(k:Int),l.map aS.pv,d,w,c,PV.str l[i].id,PV.int .i64 l[i].Aj,PV.int .i64 l[i].Ak,PV.int .i64 l[i].Al,PV.int .i64 l[i].bm,PV.int .i64 l[i].Am,())) i (fun k=>decide ((l.map aS.id)[k]?=some l[i].id)) (no:=some (res i 6)) (fin:=if vG l[i]=true then some (res i 2)else eP (IntKind.i64.wrap ((i:Int)+1),l.map aS.pv,d,w,c,())) (fun k hk rec=>?_) (fun rec=>?_) ?_ rfl).trans ?_
 ·have h1:(k:Int)<(i:Int):=by omega
  have jK:k<l.length:=by omega
  simp only[lF,decide_eq_true_eq,h1,if_true,aq,List.getElem?_map,List.getElem?_eq_getElem jK,Option.map_some,U,ZB,bh,ak (show k<9223372036854775807 by omega),dU,Option.some.injEq];rfl
 ·simp only[lF,decide_eq_true_eq,Int.lt_irrefl,if_false,U,asInt,if_true,XG,asBool,aW];rfl
 ·have:=aP;omega
 ·rw[Be _ _ (by simp;omega)];simp only[decide_eq_true_eq]
theorem Qe(l:List aS)(aR within cap:Int)(hl:l.length≤maxLen∧∀y∈l,y.Ok):jN [vH l aR within cap]=some (res (dG l aR within cap).1 (dG l aR within cap).2):=by
 have hm:=aT;simp only[jN,uA,vH,asAgg,cell,PV.cells,List.getD_cons_zero,List.getD_cons_succ,List.length_cons,List.length_nil,Nat.reduceAdd,ab,asInt,asBool,if_true,U,List.length_map,XG,aW];unfold dG;generalize (!wi aR 0 1000000|| !wi within 0 86400|| !wi cap 0 1000000)=c;cases c with
 |true=>rfl
 |false=>
  simp only[Bool.false_eq_true,if_false];by_cases tz:l.length>16
  ·rw[if_pos (by simp;omega),if_pos tz];rfl
  ·rw[if_neg (by simp;omega),if_neg tz,←lD];refine aY (fun k=>((k:Int),l.map aS.pv,aR,within,cap,())) l.length _ (fun k hk rec=>?_) (fun rec=>?_) ?_ rfl
   ·have h1:(k:Int)<(l.length:Int):=by omega
    have hid:=sQ l[k].id (hl.2 _ (List.getElem_mem hk)).id;have pq:=HT l hl.1 aR within cap k hk rec;simp only[pM,decide_eq_true_eq,List.length_map,h1,if_true,aq,List.getElem?_map,List.getElem?_eq_getElem hk,Option.map_some,U,ZB,aa7,aa8,aa9,aba,abb,bh,asBool,hid,pq,ak (show k<9223372036854775807 by omega)];unfold FW;rw[List.getElem?_eq_getElem hk];simp only;generalize vG l[k]=c;cases dS l[k].id with
    |false=>rfl
    |true=>
     by_cases bO:l[k].id∈(l.map aS.id).take k
     ·simp only[bO,if_true,Bool.not_true,Bool.false_eq_true,Bool.true_eq_false,if_false];rfl
     ·simp only[bO,if_true,Bool.not_true,Bool.false_eq_true,Bool.true_eq_false,if_false];cases c<;>rfl
   ·simp only[pM,decide_eq_true_eq,List.length_map,Int.lt_irrefl,if_false];rfl
   ·have:=aP;omega
end Go.Ab.Tt
namespace Go.Ab.Tt
set_option maxRecDepth 100000
set_option linter.unusedVariables false
set_option linter.unusedSimpArgs false
theorem xO(x:ao):cell x.pv 0=.int .i64 x.stop:=rfl
theorem pN(x:ao):cell x.pv 1=.int .i64 x.arr:=rfl
theorem pO(x:ao):cell x.pv 2=.int .i64 x.dep:=rfl
def eT(l:List ao):Nat→Option ao
 |0=>none
 |k+1=>l[k]?
def kT(c:ao)(p:Option ao)(stops low high:Int):Int:=
 if(decide (c.stop<0)||decide (c.stop≥stops))=true then 9
 else if(match p with|some p=>decide (p.stop=c.stop)|none=>false)=true then 13
 else if(decide (c.arr<low)||decide (c.arr>c.dep)||decide (c.dep>high)||(match p with|some p=>decide (c.arr<p.dep)|none=>false))=true then 10 else 0
def lG(l:List ao)(stops low high:Int)(k:Nat):Int:=match l[k]? with
 |none=>0
 |some c=>kT c (eT l k) stops low high
def bj(l:List ao)(stops low high:Int):Int×Int:=if(decide ((l.length:Int)<2)||decide ((l.length:Int)>32))=true then(0,5)else bS (lG l stops low high) l.length
theorem mE(j:Nat)(h:j<9223372036854775807):IntKind.i64.wrap (((j+1:Nat):Int)-1)=(j:Int):=by rw[fF (by omega) (by omega)];omega
theorem HU(l:List ao)(stops low high:Int)(k:Nat)(hk:k<l.length)(hl:l.length≤maxLen):ku [.rs 5 (l.map ao.pv),.int .i64 k,.int .i64 stops,.int .i64 low,.int .i64 high]=some (.int .i64 (lG l stops low high k)):=by
 have hm:=aT;simp only[ku,CE,ab,asInt,if_true,U,aq,List.getElem?_map,List.getElem?_eq_getElem hk,Option.map_some,xO,pN,pO,aW];unfold lG kT;rw[List.getElem?_eq_getElem hk];simp only;cases k with
 |zero=>
  have h0:decide (((0:Nat):Int)>0)=false:=by decide
  simp only[h0,cond_false,U,aW,Bool.or_false,eT];generalize (decide (l[0].stop<0)||decide (l[0].stop≥stops))=A;generalize (decide (l[0].arr<low)||decide (l[0].arr>l[0].dep)||decide (l[0].dep>high))=B;cases A<;>cases B<;>rfl
 |succ j=>
  have h0:decide (((j+1:Nat):Int)>0)=true:=by rw[decide_eq_true_eq];omega
  have hj:j<l.length:=by omega
  simp only[h0,cond_true,U,mE j (by omega),aq,List.getElem?_map,List.getElem?_eq_getElem hj,Option.map_some,xO,pO,asInt,if_true,eT,dU,aW];generalize (decide (l[j+1].stop<0)||decide (l[j+1].stop≥stops))=A;generalize (decide (l[j+1].arr<low)||decide (l[j+1].arr>l[j+1].dep)||decide (l[j+1].dep>high))=B;generalize decide (l[j].stop=l[j+1].stop)=C;generalize decide (l[j+1].arr<l[j].dep)=D;cases A<;>cases B<;>cases C<;>cases D<;>rfl
theorem oG(l:List ao)(stops low high:Int)(hl:l.length≤maxLen):dw [.rs 5 (l.map ao.pv),.int .i64 stops,.int .i64 low,.int .i64 high]=some (res (bj l stops low high).1 (bj l stops low high).2):=by
 have hm:=aT;simp only[dw,wP,ab,asInt,if_true,U,List.length_map,aW];unfold bj;split
 ·rfl
 ·rw[←lD];refine aY (fun k=>(l.map ao.pv,stops,low,high,(l.length:Int),(k:Int),())) l.length _ (fun k hk rec=>?_) (fun rec=>?_) ?_ rfl
  ·have h1:(k:Int)<(l.length:Int):=by omega
   simp only[ri,decide_eq_true_eq,h1,if_true,HU l stops low high k hk hl,U,asInt,ak (show k<9223372036854775807 by omega),jy];by_cases he:lG l stops low high k=0
   ·simp[he,HV,cY]
   ·simp[he,HV,cY,res]
  ·simp only[ri,decide_eq_true_eq,Int.lt_irrefl,if_false];rfl
  ·have:=aP;omega
theorem zb(l:List ao)(stops low high:Int)(hl:l.length≤maxLen):cq [.rs 5 (l.map ao.pv),.int .i64 stops,.int .i64 low,.int .i64 high]=some (.int .i64 (bj l stops low high).2):=by
 have hm:=aT;simp only[cq,uw,ab,asInt,if_true,U,List.length_map,aW];unfold bj;split
 ·rfl
 ·rw[←LM];refine aY (fun k=>(l.map ao.pv,stops,low,high,(k:Int),())) l.length _ (fun k hk rec=>?_) (fun rec=>?_) ?_ rfl
  ·have h1:(k:Int)<(l.length:Int):=by omega
   simp only[pP,decide_eq_true_eq,List.length_map,h1,if_true,aq,List.getElem?_map,List.getElem?_eq_getElem hk,Option.map_some,U,xO,pN,pO,asInt,aW,ak (show k<9223372036854775807 by omega)];unfold lG kT;rw[List.getElem?_eq_getElem hk];simp only;cases k with
   |zero=>
    have h0:decide (((0:Nat):Int)>0)=false:=by decide
    simp only[h0,cond_false,U,aW,Bool.or_false,eT];generalize (decide (l[0].stop<0)||decide (l[0].stop≥stops))=A;generalize (decide (l[0].arr<low)||decide (l[0].arr>l[0].dep)||decide (l[0].dep>high))=B;cases A<;>cases B<;>rfl
   |succ j=>
    have h0:decide (((j+1:Nat):Int)>0)=true:=by rw[decide_eq_true_eq];omega
    have hj:j<l.length:=by omega
    have hc:decide (l[j+1].stop=l[j].stop)=decide (l[j].stop=l[j+1].stop):=by rw[Bool.eq_iff_iff];simp;exact eq_comm
    simp only[h0,cond_true,U,mE j (by omega),aq,List.getElem?_map,List.getElem?_eq_getElem hj,Option.map_some,xO,pO,asInt,if_true,eT,dU,aW,hc];generalize (decide (l[j+1].stop<0)||decide (l[j+1].stop≥stops))=A;generalize (decide (l[j+1].arr<low)||decide (l[j+1].arr>l[j+1].dep)||decide (l[j+1].dep>high))=B;generalize decide (l[j].stop=l[j+1].stop)=C;generalize decide (l[j+1].arr<l[j].dep)=D;cases A<;>cases B<;>cases C<;>cases D<;>rfl
  ·simp only[pP,decide_eq_true_eq,List.length_map,Int.lt_irrefl,if_false]
  ·have:=aP;omega
end Go.Ab.Tt
namespace Go.Ab.Tt
set_option maxRecDepth 100000
set_option linter.unusedVariables false
set_option linter.unusedSimpArgs false
structure bq where
 cX:Int
 day:Int
 inst:Int
 id:Bytes
 bd:Int
 free:Bool
 rj:Bool
 calls:List ao
 deriving DecidableEq
def bq.pv(x:bq):PV:=.agg [.int .i64 x.cX,.int .i64 x.day,.int .i64 x.inst,.str x.id,.int .i64 x.bd,.bool x.free,.bool x.rj,.rs 5 (x.calls.map ao.pv)]
structure bq.jo(M:Nat)(x:bq):Prop where
 cX:j9 x.cX
 day:j9 x.day
 inst:j9 x.inst
 id:x.id.length≤M
 bd:j9 x.bd
 calls:x.calls.length≤M∧∀y∈x.calls,y.jo M
abbrev bq.Ok(x:bq):Prop:=x.jo maxLen
theorem afr(r:bq):asAgg 8 r.pv=some ():=rfl
theorem abc(r:bq):PV.agg [cell r.pv 0,cell r.pv 1,cell r.pv 2,cell r.pv 3,cell r.pv 4,cell r.pv 5,cell r.pv 6,cell r.pv 7]=r.pv:=rfl
theorem Wb(x:bq):cell x.pv 0=.int .i64 x.cX:=rfl
theorem LN(x:bq):cell x.pv 1=.int .i64 x.day:=rfl
theorem LO(x:bq):cell x.pv 2=.int .i64 x.inst:=rfl
theorem LP(x:bq):cell x.pv 3=.str x.id:=rfl
theorem Wc(x:bq):cell x.pv 4=.int .i64 x.bd:=rfl
theorem ZC(x:bq):cell x.pv 5=.bool x.free:=rfl
theorem ZD(x:bq):cell x.pv 6=.bool x.rj:=rfl
theorem AQ(x:bq):cell x.pv 7=.rs 5 (x.calls.map ao.pv):=rfl
structure aC where
 a:Int
 ac:Int
 b:Int
 bc:Int
 stay:Bool
 deriving DecidableEq
def aC.pv(x:aC):PV:=.agg [.int .i64 x.a,.int .i64 x.ac,.int .i64 x.b,.int .i64 x.bc,.bool x.stay]
structure aC.jo(M:Nat)(x:aC):Prop where
 a:j9 x.a
 ac:j9 x.ac
 b:j9 x.b
 bc:j9 x.bc
abbrev aC.Ok(x:aC):Prop:=x.jo maxLen
theorem CL(x:aC):cell x.pv 0=.int .i64 x.a:=rfl
theorem HW(x:aC):cell x.pv 1=.int .i64 x.ac:=rfl
theorem link2(x:aC):cell x.pv 2=.int .i64 x.b:=rfl
theorem HX(x:aC):cell x.pv 3=.int .i64 x.bc:=rfl
theorem EF(x:aC):cell x.pv 4=.bool x.stay:=rfl
theorem HY(x:Path):cell x.pv 0=.int .i64 x.a:=rfl
theorem HZ(x:Path):cell x.pv 1=.int .i64 x.b:=rfl
theorem Ox(x:Path):cell x.pv 2=.int .i64 x.bm:=rfl
theorem H0(x:Path):cell x.pv 3=.bool x.free:=rfl
structure ag where
 stops:List Stop
 af:List ax
 runs:List bq
 ah:List aC
 paths:List Path
 au:List aS
 aR:Int
 within:Int
 cap:Int
 deriving DecidableEq
def ag.pv(x:ag):PV:=.agg [.rs 4 (x.stops.map Stop.pv),.rs 3 (x.af.map ax.pv),.rs 8 (x.runs.map bq.pv),.rs 5 (x.ah.map aC.pv),.rs 4 (x.paths.map Path.pv),.rs 6 (x.au.map aS.pv),.int .i64 x.aR,.int .i64 x.within,.int .i64 x.cap]
structure ag.jo(M:Nat)(x:ag):Prop where
 stops:x.stops.length≤M∧∀y∈x.stops,y.jo M
 af:x.af.length≤M∧∀y∈x.af,y.jo M
 runs:x.runs.length≤M∧∀y∈x.runs,y.jo M
 ah:x.ah.length≤M∧∀y∈x.ah,y.jo M
 paths:x.paths.length≤M∧∀y∈x.paths,y.jo M
 au:x.au.length≤M∧∀y∈x.au,y.jo M
 aR:j9 x.aR
 within:j9 x.within
 cap:j9 x.cap
abbrev ag.Ok(x:ag):Prop:=x.jo maxLen
theorem mF(x:ag):asAgg 9 x.pv=some ():=rfl
theorem nW(x:ag):ab 4 (cell x.pv 0)=some (x.stops.map Stop.pv):=rfl
theorem nX(x:ag):ab 3 (cell x.pv 1)=some (x.af.map ax.pv):=rfl
theorem nY(x:ag):ab 8 (cell x.pv 2)=some (x.runs.map bq.pv):=rfl
theorem nZ(x:ag):ab 5 (cell x.pv 3)=some (x.ah.map aC.pv):=rfl
theorem oa(x:ag):ab 4 (cell x.pv 4)=some (x.paths.map Path.pv):=rfl
theorem ob(x:ag):ab 6 (cell x.pv 5)=some (x.au.map aS.pv):=rfl
theorem oc(x:ag):asInt .i64 (cell x.pv 6)=some x.aR:=rfl
theorem od(x:ag):asInt .i64 (cell x.pv 7)=some x.within:=rfl
theorem og(x:ag):asInt .i64 (cell x.pv 8)=some x.cap:=rfl
theorem tu(x:ag):PV.agg [.rs 4 (x.stops.map Stop.pv),.rs 3 (x.af.map ax.pv),.rs 8 (x.runs.map bq.pv),.rs 5 (x.ah.map aC.pv),.rs 4 (x.paths.map Path.pv),.rs 6 (x.au.map aS.pv),.int .i64 x.aR,.int .i64 x.within,.int .i64 x.cap]=x.pv:=rfl
def r3(p i e:Int):PV:=.agg [.int .i64 p,.int .i64 i,.int .i64 e]
def prt(p:Int)(x:Int×Int):PV:=if x.2=0 then r3 0 0 0 else r3 p x.1 x.2
theorem Oy(p i e:Int):asAgg 3 (r3 p i e)=some ():=rfl
theorem wS(p i e:Int):cell (r3 p i e) 0=.int .i64 p:=rfl
theorem wj(p i e:Int):cell (r3 p i e) 1=.int .i64 i:=rfl
theorem zd(p i e:Int):cell (r3 p i e) 2=.int .i64 e:=rfl
theorem CM(p i e:Int):aV [.int .i64 p,.int .i64 i,.int .i64 e]=some (r3 p i e):=rfl
theorem wT(n m:Int):bT [.int .i64 n,.int .i64 m]=some (.bool (decide (n≥0)&&decide (n<m))):=by simp only[bT,pD,asInt,if_true,U,cT]
variable{R:Type}
theorem iu(f:Nat→Int)(n:Nat)(g:Int→Int→R)(fin:Option R):cY ((List.range n).findSome? fun k=>if f k=0 then none else some (some (g k (f k)))) fin=if(bS f n).2=0 then fin else some (g (bS f n).1 (bS f n).2):=by
 unfold bS;have:(List.range n).findSome? (fun k=>if f k=0 then none else some (some (g k (f k))))=((List.range n).findSome? (fun k=>if f k=0 then none else some ((k:Int),f k))).map fun x=>some (g x.1 x.2):=by rw[List.map_findSome?];congr 1;funext k;by_cases h:f k=0<;>simp[h]
 rw[this];cases hf:(List.range n).findSome? (fun k=>if f k=0 then none else some ((k:Int),f k))with
 |none=>rfl
 |some x=>
  obtain⟨k,_,hk⟩:=List.exists_of_findSome?_eq_some hf;have hx:x.2≠0:=by
   by_cases h0:f k=0
   ·rw[if_pos h0]at hk;cases hk
   ·rw[if_neg h0]at hk;simp only[Option.some.injEq]at hk;subst hk;exact h0
  simp only[Option.map_some,cY];rw[if_neg hx]
theorem mG(f:Nat→Int)(n:Nat):(bS f n).2=0↔∀k,k<n→f k=0:=by
 unfold bS;cases hf:(List.range n).findSome? (fun k=>if f k=0 then none else some ((k:Int),f k))with
 |none=>
  simp only[true_iff];intro k hk;rw[List.findSome?_eq_none_iff]at hf;have:=hf k (by simpa using hk);by_cases h0:f k=0
  ·exact h0
  ·rw[if_neg h0]at this;cases this
 |some x=>
  obtain⟨k,hk,hx⟩:=List.exists_of_findSome?_eq_some hf;by_cases h0:f k=0
  ·rw[if_pos h0]at hx;cases hx
  ·rw[if_neg h0]at hx;simp only[Option.some.injEq]at hx;subst hx;exact⟨fun h=>absurd h h0,fun h=>absurd (h k (by simpa using hk)) h0⟩
theorem mS{S:Type}{body:S→(S→Option R)→Option R}(st:Nat→S)(n:Nat)(bad:Nat→Option (Option R)){fin:Option R}(h:∀k,k<n→(∀j,j<k→bad j=none)→∀rec,body (st k) rec=cY (bad k) (rec (st (k+1))))(nv:(∀j,j<n→bad j=none)→∀rec,body (st n) rec=fin)(hn:n<rounds){s0:S}(h0:st 0=s0):bI.run body s0=cY ((List.range n).findSome? bad) fin:=by
 by_cases AM:∀j,j<n→bad j=none
 ·have:(List.range n).findSome? bad=none:=by rw[List.findSome?_eq_none_iff];intro k hk;exact AM k (by simpa using hk)
  rw[this];refine bp st n (fun k hk rec=>?_) (nv AM) hn h0;rw[h k hk (fun j hj=>AM j (by omega)),AM k hk];rfl
 ·have hex:∃m,m<n∧bad m≠none∧∀j,j<m→bad j=none:=by
   have key:∀m,(∃i,i<m∧i<n∧bad i≠none)→∃m,m<n∧bad m≠none∧∀j,j<m→bad j=none:=by
    intro m;induction m with
    |zero=>rintro⟨i,hi,_⟩;omega
    |succ m ih=>
     intro hi;by_cases hc:∃i,i<m∧i<n∧bad i≠none
     ·exact ih hc
     ·obtain⟨i,h1,h2,h3⟩:=hi;have him:i=m:=by
       by_cases h:i<m
       ·exact absurd ⟨i,h,h2,h3⟩ hc
       ·omega
      subst him;refine⟨i,h2,h3,fun j hj=>?_⟩;cases hb:bad j with
      |none=>rfl
      |some x=>exact absurd ⟨j,hj,by omega,by rw[hb];exact fun h=>nomatch h⟩ hc
   have hc:∃i,i<n∧bad i≠none:=by
    by_cases hc:∃i,i<n∧bad i≠none
    ·exact hc
    ·refine absurd (fun j hj=>?_) AM;cases hb:bad j with
     |none=>rfl
     |some x=>exact absurd ⟨j,hj,by rw[hb];exact fun h=>nomatch h⟩ hc
   obtain⟨i,h1,h2⟩:=hc;exact key n ⟨i,h1,h1,h2⟩
  obtain⟨m,hm,hb,bu⟩:=hex;cases hbm:bad m with
  |none=>exact absurd hbm hb
  |some x=>
   have hf:(List.range n).findSome? bad=some x:=by
    have hnm:n=m+(n-m):=by omega
    rw[hnm,List.range_add,List.findSome?_append];have h1:(List.range m).findSome? bad=none:=by rw[List.findSome?_eq_none_iff];intro k hk;exact bu k (by simpa using hk)
    rw[h1,Option.none_or];have hd:n-m=(n-m-1)+1:=by omega
    rw[hd,List.range_succ_eq_map,List.map_cons,List.findSome?_cons,Nat.add_zero,hbm]
   rw[hf];refine bp st m (fun k hk rec=>?_) (fun rec=>?_) (by omega) h0
   ·rw[h k (by omega) (fun j hj=>bu j (by omega)),bu k hk];rfl
   ·rw[h m hm bu,hbm];rfl
theorem mT{A:Type}[DecidableEq A](a b:List A)(h:a.length=b.length)(no fin:Option R):cY ((List.range a.length).findSome? fun k=>if a[k]?=b[k]? then none else some no) fin=if a=b then fin else no:=by
 by_cases rA:a=b
 ·rw[if_pos rA];have:(List.range a.length).findSome? (fun k=>if a[k]?=b[k]? then none else some no)=none:=by rw[List.findSome?_eq_none_iff];intro k _;rw[if_pos (by rw[rA])]
  rw[this];rfl
 ·rw[if_neg rA];cases hf:(List.range a.length).findSome? (fun k=>if a[k]?=b[k]? then none else some no)with
  |none=>
   refine absurd (List.ext_getElem? fun k=>?_) rA;rw[List.findSome?_eq_none_iff]at hf;by_cases hk:k<a.length
   ·have:=hf k (by simpa using hk);by_cases h0:a[k]?=b[k]?
    ·exact h0
    ·rw[if_neg h0]at this;cases this
   ·rw[List.getElem?_eq_none (by omega),List.getElem?_eq_none (by omega)]
  |some x=>
   obtain⟨k,hk,hx⟩:=List.exists_of_findSome?_eq_some hf;by_cases h0:a[k]?=b[k]?
   ·rw[if_pos h0]at hx;cases hx
   ·rw[if_neg h0]at hx;simp only[Option.some.injEq]at hx;subst hx;rfl
end Go.Ab.Tt
