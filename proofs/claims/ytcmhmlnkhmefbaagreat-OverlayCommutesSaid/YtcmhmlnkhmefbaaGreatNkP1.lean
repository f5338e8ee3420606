import Derived.Test.YtcmhmlnkhmefbaaGreatTtChk0
import Derived.Test.YtcmhmlnkhmefbaaGreatSh2
namespace Go.Ab.Tt
set_option maxRecDepth 100000
set_option linter.unusedVariables false
theorem tV(s:Bytes)(hs:s.length≤maxLen):dt [.str s]=some (.bool (eN s)):=by
 have hm:=aW;simp only[dt,tR,bt,U];refine(B6 s hs kB (some (.bool false)) (some (.bool (decide ((s.length:Int)>0)&&decide ((s.length:Int)≤32)))) (fun k hk rec=>?_) (fun rec=>?_)).trans ?_
 ·have h1:(k:Int)<(s.length:Int):=by omega
  simp only[oS,decide_eq_true_eq,h1,if_true,G3,List.getElem?_eq_getElem hk,U,dw,al (show k<9223372036854775807 by omega),eW];generalize s[k]=b;unfold kB;generalize (decide (97≤(b.toNat:Int))&&decide ((b.toNat:Int)≤122))=x1;generalize (decide (65≤(b.toNat:Int))&&decide ((b.toNat:Int)≤90))=x2;generalize (decide (48≤(b.toNat:Int))&&decide ((b.toNat:Int)≤57))=x3;by_cases e4:(b.toNat:Int)=45<;>by_cases e5:(b.toNat:Int)=95<;>by_cases e6:(b.toNat:Int)=46<;>cases x1<;>cases x2<;>cases x3<;>simp[e4,e5,e6]
 ·simp only[oS,decide_eq_true_eq,Int.lt_irrefl,if_false,dw,U]
 ·unfold eN;cases s.all kB with
  |true=>simp only[if_true,Bool.and_true,Option.some.injEq,PV.bool.injEq];rw[Bool.eq_iff_iff];simp only[Bool.and_eq_true,decide_eq_true_eq];omega
  |false=>simp
theorem OQ{body:Bytes×Int×Unit→(Bytes×Int×Unit→Option PV)→Option PV}(s:Bytes)(hs:s.length≤maxLen)(h:∀k,(hk:k<s.length)→∀rec,body (s,(k:Int),()) rec=if kB s[k]then rec (s,((k+1:Nat):Int),())else some (.bool false))(mV:∀rec,body (s,(s.length:Int),()) rec=some (.bool true)){c:Bool}(hc:c= !(decide (1≤s.length)&&decide (s.length≤32))):(if c=true then some (.bool false)else ca.run body (s,0,()))=some (.bool (eN s)):=by rw[B6 s hs kB _ _ h mV,hc];unfold eN;cases s.all kB<;>cases(decide (1≤s.length)&&decide (s.length≤32))<;>rfl
theorem sn(s:Bytes)(hs:s.length≤maxLen):ee [.str s]=some (.bool (eN s)):=by
 have hm:=aW;simp only[ee,qC,bt,U,bn];refine OQ s hs (fun k hk rec=>?_) (fun rec=>?_) ?_
 ·have h1:(k:Int)<(s.length:Int):=by omega
  simp only[l8,decide_eq_true_eq,h1,if_true,G3,List.getElem?_eq_getElem hk,U,dw,bn,al (show k<9223372036854775807 by omega),kC];generalize s[k]=b;unfold kB;simp only[ge_iff_le];generalize (decide (97≤(b.toNat:Int))&&decide ((b.toNat:Int)≤122))=x1;generalize (decide (65≤(b.toNat:Int))&&decide ((b.toNat:Int)≤90))=x2;generalize (decide (48≤(b.toNat:Int))&&decide ((b.toNat:Int)≤57))=x3;by_cases e4:(b.toNat:Int)=45<;>by_cases e5:(b.toNat:Int)=95<;>by_cases e6:(b.toNat:Int)=46<;>cases x1<;>cases x2<;>cases x3<;>simp[e4,e5,e6]
 ·simp only[l8,decide_eq_true_eq,Int.lt_irrefl,if_false]
 ·rw[Bool.eq_iff_iff];simp only[eW,Bool.or_eq_true,Bool.not_eq_true',Bool.and_eq_false_iff,decide_eq_true_eq,decide_eq_false_iff_not];omega
def ES(l:List Stop)(k:Nat):Int:=match l[k]? with
 |none=>0
 |some x=>if eN x.id=false then 12 else if x.id∈(l.map Stop.id).take k then 6 else if(decide (x.sS<0)||decide (x.sS≥16)||decide (x.change<0)||decide (x.change>3600))=true then 2 else 0
def gN(l:List Stop):Int×Int:=if l.length>64 then(0,5)else bT (ES l) l.length
theorem OR(l:List Stop)(hl:l.length≤maxLen∧∀y∈l,y.Ok):gI [.rs 4 (l.map Stop.pv)]=some (res (gN l).1 (gN l).2):=by
 have hm:=aW;simp only[gI,we,ab,if_true,U,List.length_map];unfold gN;by_cases sV:l.length>64
 ·rw[if_pos (by simp;omega),if_pos sV];rfl
 ·rw[if_neg (by simp;omega),if_neg sV,←mK];refine aX (fun k=>(l.map Stop.pv,(l.length:Int),(k:Int),seen PV.str ((l.map Stop.id).take k),())) l.length _ (fun k hk rec=>?_) (fun rec=>?_) ?_ rfl
  ·have h1:(k:Int)<(l.length:Int):=by omega
   have hid:=tV l[k].id (hl.2 _ (List.getElem_mem hk)).id;have qt:=mL uW l[k].id ((l.map Stop.id).take k);have rj:=kD uW l[k].id ((l.map Stop.id).take k);simp only[qG,decide_eq_true_eq,h1,if_true,ay,List.getElem?_map,List.getElem?_eq_getElem hk,Option.map_some,U,Stop.pv,cell,PV.cells,List.getD_cons_zero,List.getD_cons_succ,bt,asInt,asBool,hid,qt,rj,bn,al (show k<9223372036854775807 by omega),oT Stop.id l k hk];unfold ES;rw[List.getElem?_eq_getElem hk];simp only;generalize (decide (l[k].sS<0)||decide (l[k].sS≥16)||decide (l[k].change<0)||decide (l[k].change>3600))=c;cases eN l[k].id with
   |false=>rfl
   |true=>
    by_cases bO:l[k].id∈(l.map Stop.id).take k
    ·simp only[bO,if_true,Bool.not_true,Bool.false_eq_true,Bool.true_eq_false,if_false];rfl
    ·simp only[bO,if_true,Bool.not_true,Bool.false_eq_true,Bool.true_eq_false,if_false];cases c<;>rfl
  ·simp only[qG,decide_eq_true_eq,Int.lt_irrefl,if_false];rfl
  ·have:=aR;omega
end Go.Ab.Tt
namespace Go.Ab.Tt
set_option maxRecDepth 100000
set_option linter.unusedVariables false
set_option linter.unusedSimpArgs false
theorem B7(n a b:Int):bD [.int .i64 n,.int .i64 a,.int .i64 b]=some (.bool (decide (n≥a)&&decide (n≤b))):=by simp only[bD,B5,asInt,if_true,U,dw]
theorem ET(x:Stop):cell x.pv 0=.str x.id:=rfl
theorem UO(x:Stop):cell x.pv 1=.int .i64 x.sS:=rfl
theorem UP(x:Stop):cell x.pv 3=.int .i64 x.change:=rfl
theorem G4{R:Type}(ids:List Bytes)(i:Nat)(hi:i<ids.length)(no fin:Option R):c8 ((List.range i).findSome? fun k=>if decide (ids[k]?=some ids[i])=true then some no else none) fin=if ids[i]∈ids.take i then no else fin:=by
 rw[pU (fun k=>decide (ids[k]?=some ids[i])) (fun _=>no)];cases hf:(List.range i).find? fun k=>decide (ids[k]?=some ids[i])with
 |none=>
  have hn:ids[i]∉ids.take i:=fun bO=>by
   obtain⟨j,hj⟩:=List.mem_iff_getElem?.1 bO;have Jk:j<i:=by have:=(List.getElem?_eq_some_iff.1 hj).1;simp at this;omega
   rw[List.getElem?_take_of_lt Jk]at hj;rw[List.find?_eq_none]at hf;exact hf j (by simpa using Jk) (by simpa using hj)
  rw[if_neg hn];rfl
 |some j=>rw[List.find?_range_eq_some]at hf;obtain⟨h1,h2,_⟩:=hf;have bO:ids[i]∈ids.take i:=List.mem_iff_getElem?.2 ⟨j,by rw[List.getElem?_take_of_lt (by simpa using h2)];simpa using h1⟩;rw[if_pos bO];rfl
theorem G5(l:List Stop)(hl:l.length≤maxLen)(i:Nat)(hi:i<l.length)(fb:List PV×Int×Unit→Option PV):ca.run (lb fb) (l.map Stop.pv,(i:Int),0,())=if(l.map Stop.id)[i]'(by simpa using hi)∈(l.map Stop.id).take i then some (res i 6)else if(decide (l[i].sS<0)||decide (l[i].sS≥16)||decide (l[i].change<0)||decide (l[i].change>3600))=true then some (res i 2)else fb (l.map Stop.pv,IntKind.i64.wrap ((i:Int)+1),()):=by
 have hm:=aW;have Q8:(l.map Stop.pv)[i]?=some l[i].pv:=by rw[List.getElem?_map,List.getElem?_eq_getElem hi];rfl
 have Dq:i<(l.map Stop.id).length:=by simpa using hi
 have XR:(l.map Stop.id)[i]=l[i].id:=by simp
 rw[←G4 (l.map Stop.id) i Dq];refine aX (fun k=>(l.map Stop.pv,(i:Int),(k:Int),())) i (fun k=>if decide ((l.map Stop.id)[k]?=some (l.map Stop.id)[i])=true then some (some (res i 6))else none) (fun k hk rec=>?_) (fun rec=>?_) ?_ rfl
 ·have h1:decide ((k:Int)<(i:Int))=true:=by simp;omega
  have jn:k<l.length:=by omega
  have XS:(l.map Stop.pv)[k]?=some l[k].pv:=by rw[List.getElem?_map,List.getElem?_eq_getElem jn];rfl
  have hdk:decide ((l.map Stop.id)[k]?=some (l.map Stop.id)[i])=decide (l[k].id=l[i].id):=by rw[List.getElem?_map,List.getElem?_eq_getElem jn,XR];simp
  unfold lb;dsimp only;rw[if_pos h1,ay,XS,U,ET,ay,Q8,al (by omega),hdk];simp only[bt,U,ET,eW];cases decide (l[k].id=l[i].id)<;>rfl
 ·unfold lb;dsimp only;rw[if_neg (by simp),ay,Q8];simp only[U,UO,UP,asInt,if_true,B7,asBool,bn];have:(!(decide (l[i].sS≥0)&&decide (l[i].sS≤15))|| !(decide (l[i].change≥0)&&decide (l[i].change≤3600)))=(decide (l[i].sS<0)||decide (l[i].sS≥16)||decide (l[i].change<0)||decide (l[i].change>3600)):=by rw[Bool.eq_iff_iff];simp only[Bool.or_eq_true,Bool.not_eq_true',Bool.and_eq_false_iff,decide_eq_true_eq,decide_eq_false_iff_not];omega
  rw[this];cases(decide (l[i].sS<0)||decide (l[i].sS≥16)||decide (l[i].change<0)||decide (l[i].change>3600))<;>rfl
 ·have:=aR;omega
theorem OS(l:List Stop)(hl:l.length≤maxLen∧∀y∈l,y.Ok):jA [.rs 4 (l.map Stop.pv)]=some (res (gN l).1 (gN l).2):=by
 have hm:=aW;simp only[jA,tL,ab,if_true,U,List.length_map];unfold gN;by_cases sV:l.length>64
 ·rw[if_pos (by simp;omega),if_pos sV];rfl
 ·rw[if_neg (by simp;omega),if_neg sV,←mK];refine aX (fun k=>(l.map Stop.pv,(k:Int),())) l.length _ (fun k hk rec=>?_) (fun rec=>?_) ?_ rfl
  ·have h1:decide ((k:Int)<((l.map Stop.pv).length:Int))=true:=by simp;omega
   have XS:(l.map Stop.pv)[k]?=some l[k].pv:=by rw[List.getElem?_map,List.getElem?_eq_getElem hk];rfl
   have hid:=sn l[k].id (hl.2 _ (List.getElem_mem hk)).id;have XT:(l.map Stop.id)[k]'(by simpa using hk)=l[k].id:=by simp
   unfold oU;dsimp only;rw[if_pos h1,ay,XS,U,ET];simp only[bt,U,hid,asBool];rw[G5 l hl.1 k hk rec,XT,al (by omega)];unfold ES;rw[List.getElem?_eq_getElem hk];simp only;generalize (decide (l[k].sS<0)||decide (l[k].sS≥16)||decide (l[k].change<0)||decide (l[k].change>3600))=c;cases eN l[k].id with
   |false=>rfl
   |true=>
    by_cases bO:l[k].id∈(l.map Stop.id).take k
    ·simp only[bO,if_true,Bool.not_true,Bool.false_eq_true,Bool.true_eq_false,if_false];rfl
    ·simp only[bO,if_true,Bool.not_true,Bool.false_eq_true,Bool.true_eq_false,if_false];cases c<;>rfl
  ·unfold oU;dsimp only;rw[if_neg (by simp)];rfl
  ·have:=aR;omega
end Go.Ab.Tt
namespace Go.Ab.Tt
set_option maxRecDepth 100000
set_option linter.unusedVariables false
set_option linter.unusedSimpArgs false
theorem B8(x:au):cell x.pv 0=.str x.id:=rfl
theorem RR(x:au):cell x.pv 1=.int .i64 x.mode:=rfl
def B9(l:List au)(k:Nat):Int:=match l[k]? with
 |none=>0
 |some x=>if eN x.id=false then 12 else if x.id∈(l.map au.id).take k then 6 else if(decide (x.mode≥0)&&decide (x.mode<8))=false then 2 else 0
def fo(l:List au):Int×Int:=if l.length>64 then(0,5)else bT (B9 l) l.length
theorem KD(l:List au)(hl:l.length≤maxLen∧∀y∈l,y.Ok):fT [.rs 3 (l.map au.pv)]=some (res (fo l).1 (fo l).2):=by
 have hm:=aW;simp only[fT,tO,ab,if_true,U,List.length_map];unfold fo;by_cases sV:l.length>64
 ·rw[if_pos (by simp;omega),if_pos sV];rfl
 ·rw[if_neg (by simp;omega),if_neg sV,←mK];refine aX (fun k=>(l.map au.pv,(l.length:Int),(k:Int),seen PV.str ((l.map au.id).take k),())) l.length _ (fun k hk rec=>?_) (fun rec=>?_) ?_ rfl
  ·have h1:(k:Int)<(l.length:Int):=by omega
   have hid:=tV l[k].id (hl.2 _ (List.getElem_mem hk)).id;have qt:=mL uW l[k].id ((l.map au.id).take k);have rj:=kD uW l[k].id ((l.map au.id).take k);simp only[oV,decide_eq_true_eq,h1,if_true,ay,List.getElem?_map,List.getElem?_eq_getElem hk,Option.map_some,U,au.pv,cell,PV.cells,List.getD_cons_zero,List.getD_cons_succ,bt,asInt,asBool,hid,qt,rj,bn,al (show k<9223372036854775807 by omega),oT au.id l k hk,gZ,tM,dw];unfold B9;rw[List.getElem?_eq_getElem hk];simp only;generalize (decide (l[k].mode≥0)&&decide (l[k].mode<8))=c;cases eN l[k].id with
   |false=>rfl
   |true=>
    by_cases bO:l[k].id∈(l.map au.id).take k
    ·simp only[bO,if_true,Bool.not_true,Bool.false_eq_true,Bool.true_eq_false,if_false];rfl
    ·simp only[bO,if_true,Bool.not_true,Bool.false_eq_true,Bool.true_eq_false,if_false];cases c<;>rfl
  ·simp only[oV,decide_eq_true_eq,Int.lt_irrefl,if_false];rfl
  ·have:=aR;omega
theorem EU(l:List au)(hl:l.length≤maxLen)(i:Nat)(hi:i<l.length)(fb:List PV×Int×Unit→Option PV):ca.run (jP fb) (l.map au.pv,(i:Int),0,())=if(l.map au.id)[i]'(by simpa using hi)∈(l.map au.id).take i then some (res i 6)else if(decide (l[i].mode≥0)&&decide (l[i].mode<8))=false then some (res i 2)else fb (l.map au.pv,IntKind.i64.wrap ((i:Int)+1),()):=by
 have hm:=aW;have Q8:(l.map au.pv)[i]?=some l[i].pv:=by rw[List.getElem?_map,List.getElem?_eq_getElem hi];rfl
 have Dq:i<(l.map au.id).length:=by simpa using hi
 have XR:(l.map au.id)[i]=l[i].id:=by simp
 rw[←G4 (l.map au.id) i Dq];refine aX (fun k=>(l.map au.pv,(i:Int),(k:Int),())) i (fun k=>if decide ((l.map au.id)[k]?=some (l.map au.id)[i])=true then some (some (res i 6))else none) (fun k hk rec=>?_) (fun rec=>?_) ?_ rfl
 ·have h1:decide ((k:Int)<(i:Int))=true:=by simp;omega
  have jn:k<l.length:=by omega
  have XS:(l.map au.pv)[k]?=some l[k].pv:=by rw[List.getElem?_map,List.getElem?_eq_getElem jn];rfl
  have hdk:decide ((l.map au.id)[k]?=some (l.map au.id)[i])=decide (l[k].id=l[i].id):=by rw[List.getElem?_map,List.getElem?_eq_getElem jn,XR];simp
  unfold jP;dsimp only;rw[if_pos h1,ay,XS,U,B8,ay,Q8,al (by omega),hdk];simp only[bt,U,B8,eW];cases decide (l[k].id=l[i].id)<;>rfl
 ·unfold jP;dsimp only;rw[if_neg (by simp),ay,Q8];simp only[U,RR,asInt,if_true,B7,asBool];have:(decide (l[i].mode≥0)&&decide (l[i].mode≤7))=(decide (l[i].mode≥0)&&decide (l[i].mode<8)):=by rw[Bool.eq_iff_iff];simp only[Bool.and_eq_true,decide_eq_true_eq];omega
  rw[this];cases(decide (l[i].mode≥0)&&decide (l[i].mode<8))<;>rfl
 ·have:=aR;omega
theorem KE(l:List au)(hl:l.length≤maxLen∧∀y∈l,y.Ok):iS [.rs 3 (l.map au.pv)]=some (res (fo l).1 (fo l).2):=by
 have hm:=aW;simp only[iS,si,ab,if_true,U,List.length_map];unfold fo;by_cases sV:l.length>64
 ·rw[if_pos (by simp;omega),if_pos sV];rfl
 ·rw[if_neg (by simp;omega),if_neg sV,←mK];refine aX (fun k=>(l.map au.pv,(k:Int),())) l.length _ (fun k hk rec=>?_) (fun rec=>?_) ?_ rfl
  ·have h1:decide ((k:Int)<((l.map au.pv).length:Int))=true:=by simp;omega
   have XS:(l.map au.pv)[k]?=some l[k].pv:=by rw[List.getElem?_map,List.getElem?_eq_getElem hk];rfl
   have hid:=sn l[k].id (hl.2 _ (List.getElem_mem hk)).id;have XT:(l.map au.id)[k]'(by simpa using hk)=l[k].id:=by simp
   unfold nk;dsimp only;rw[if_pos h1,ay,XS,U,B8];simp only[bt,U,hid,asBool];rw[EU l hl.1 k hk rec,XT,al (by omega)];unfold B9;rw[List.getElem?_eq_getElem hk];simp only;generalize (decide (l[k].mode≥0)&&decide (l[k].mode<8))=c;cases eN l[k].id with
   |false=>rfl
   |true=>
    by_cases bO:l[k].id∈(l.map au.id).take k
    ·simp only[bO,if_true,Bool.not_true,Bool.false_eq_true,Bool.true_eq_false,if_false];rfl
    ·simp only[bO,if_true,Bool.not_true,Bool.false_eq_true,Bool.true_eq_false,if_false];cases c<;>rfl
  ·unfold nk;dsimp only;rw[if_neg (by simp)];rfl
  ·have:=aR;omega
end Go.Ab.Tt
namespace Go.Ab.Tt
set_option maxRecDepth 100000
set_option linter.unusedVariables false
set_option linter.unusedSimpArgs false
def wi(n a b:Int):Bool:=decide (n≥a)&&decide (n≤b)
theorem zy(n a b:Int):bu [.int .i64 n,.int .i64 a,.int .i64 b]=some (.bool (wi n a b)):=by simp only[bu,oR,asInt,if_true,U,dw];rfl
theorem XU(x:aQ):cell x.pv 0=.str x.id:=rfl
theorem aaz(x:aQ):cell x.pv 1=.int .i64 x.zz:=rfl
theorem aaA(x:aQ):cell x.pv 2=.int .i64 x.zA:=rfl
theorem aaB(x:aQ):cell x.pv 3=.int .i64 x.zB:=rfl
theorem aaC(x:aQ):cell x.pv 4=.int .i64 x.bM:=rfl
theorem aaD(x:aQ):cell x.pv 5=.int .i64 x.zC:=rfl
def uX(x:aQ):Bool:= !wi x.zz 0 1000000|| !wi x.zA 1 8|| !wi x.zB 1 16|| !wi x.bM 0 86400|| !wi x.zC 1 255
def EV(l:List aQ)(k:Nat):Int:=match l[k]? with
 |none=>0
 |some x=>if eN x.id=false then 12 else if x.id∈(l.map aQ.id).take k then 6 else if uX x=true then 2 else 0
def uY(l:List aQ)(aN within cap:Int):PV:=.agg [.rs 6 (l.map aQ.pv),.int .i64 aN,.int .i64 within,.int .i64 cap]
def dH(l:List aQ)(aN within cap:Int):Int×Int:=if(!wi aN 0 1000000|| !wi within 0 86400|| !wi cap 0 1000000)=true then(-1,2)else if l.length>16 then(0,5)else bT (EV l) l.length
theorem KF(l:List aQ)(aN within cap:Int)(hl:l.length≤maxLen∧∀y∈l,y.Ok):da [uY l aN within cap]=some (res (dH l aN within cap).1 (dH l aN within cap).2):=by
 have hm:=aW;simp only[da,qx,uY,asAgg,cell,PV.cells,List.getD_cons_zero,List.getD_cons_succ,List.length_cons,List.length_nil,Nat.reduceAdd,ab,asInt,asBool,if_true,U,List.length_map,zy,bn];unfold dH;generalize (!wi aN 0 1000000|| !wi within 0 86400|| !wi cap 0 1000000)=c;cases c with
 |true=>rfl
 |false=>
  simp only[Bool.false_eq_true,if_false];by_cases sV:l.length>16
  ·rw[if_pos (by simp;omega),if_pos sV];rfl
  ·rw[if_neg (by simp;omega),if_neg sV,←mK];refine aX (fun k=>(l.map aQ.pv,(l.length:Int),(k:Int),seen PV.str ((l.map aQ.id).take k),())) l.length _ (fun k hk rec=>?_) (fun rec=>?_) ?_ rfl
   ·have h1:(k:Int)<(l.length:Int):=by omega
    have hid:=tV l[k].id (hl.2 _ (List.getElem_mem hk)).id;have qt:=mL uW l[k].id ((l.map aQ.id).take k);have rj:=kD uW l[k].id ((l.map aQ.id).take k);simp only[l9,decide_eq_true_eq,h1,if_true,ay,List.getElem?_map,List.getElem?_eq_getElem hk,Option.map_some,U,XU,aaz,aaA,aaB,aaC,aaD,bt,asInt,asBool,hid,qt,rj,zy,bn,al (show k<9223372036854775807 by omega),oT aQ.id l k hk];unfold EV;rw[List.getElem?_eq_getElem hk];have hb:(!wi l[k].zz 0 1000000|| !wi l[k].zA 1 8|| !wi l[k].zB 1 16|| !wi l[k].bM 0 86400|| !wi l[k].zC 1 255)=uX l[k]:=rfl;simp only[hb];generalize uX l[k]=c;cases eN l[k].id with
    |false=>rfl
    |true=>
     by_cases bO:l[k].id∈(l.map aQ.id).take k
     ·simp only[bO,if_true,Bool.not_true,Bool.false_eq_true,Bool.true_eq_false,if_false];rfl
     ·simp only[bO,if_true,Bool.not_true,Bool.false_eq_true,Bool.true_eq_false,if_false];cases c<;>rfl
   ·simp only[l9,decide_eq_true_eq,Int.lt_irrefl,if_false];rfl
   ·have:=aR;omega
theorem Wd(n a b:Int):bD [.int .i64 n,.int .i64 a,.int .i64 b]=some (.bool (wi n a b)):=B7 n a b
theorem G6(l:List aQ)(hl:l.length≤maxLen)(d w c:Int)(i:Nat)(hi:i<l.length)(fb:Int×List PV×Int×Int×Int×Unit→Option PV):ca.run (lf fb) ((i:Int),0,l.map aQ.pv,d,w,c,.str l[i].id,.int .i64 l[i].zz,.int .i64 l[i].zA,.int .i64 l[i].zB,.int .i64 l[i].bM,.int .i64 l[i].zC,())=if l[i].id∈(l.map aQ.id).take i then some (res i 6)else if uX l[i]=true then some (res i 2)else fb (IntKind.i64.wrap ((i:Int)+1),l.map aQ.pv,d,w,c,()):=by
 have hm:=aW;refine(oW (fun k=>((i:Int),(k:Int),l.map aQ.pv,d,w,c,PV.str l[i].id,PV.int .i64 l[i].zz,PV.int .i64 l[i].zA,PV.int .i64 l[i].zB,PV.int .i64 l[i].bM,PV.int .i64 l[i].zC,())) i (fun k=>decide ((l.map aQ.id)[k]?=some l[i].id)) (no:=some (res i 6)) (fin:=if uX l[i]=true then some (res i 2)else fb (IntKind.i64.wrap ((i:Int)+1),l.map aQ.pv,d,w,c,())) (fun k hk rec=>?_) (fun rec=>?_) ?_ rfl).trans ?_
 ·have h1:(k:Int)<(i:Int):=by omega
  have jn:k<l.length:=by omega
  simp only[lf,decide_eq_true_eq,h1,if_true,ay,List.getElem?_map,List.getElem?_eq_getElem jn,Option.map_some,U,XU,bt,al (show k<9223372036854775807 by omega),eW,Option.some.injEq];rfl
 ·simp only[lf,decide_eq_true_eq,Int.lt_irrefl,if_false,U,asInt,if_true,Wd,asBool,bn];rfl
 ·have:=aR;omega
 ·rw[Aw _ _ (by simp;omega)];simp only[decide_eq_true_eq]
theorem OT(l:List aQ)(aN within cap:Int)(hl:l.length≤maxLen∧∀y∈l,y.Ok):jB [uY l aN within cap]=some (res (dH l aN within cap).1 (dH l aN within cap).2):=by
 have hm:=aW;simp only[jB,tT,uY,asAgg,cell,PV.cells,List.getD_cons_zero,List.getD_cons_succ,List.length_cons,List.length_nil,Nat.reduceAdd,ab,asInt,asBool,if_true,U,List.length_map,Wd,bn];unfold dH;generalize (!wi aN 0 1000000|| !wi within 0 86400|| !wi cap 0 1000000)=c;cases c with
 |true=>rfl
 |false=>
  simp only[Bool.false_eq_true,if_false];by_cases sV:l.length>16
  ·rw[if_pos (by simp;omega),if_pos sV];rfl
  ·rw[if_neg (by simp;omega),if_neg sV,←mK];refine aX (fun k=>((k:Int),l.map aQ.pv,aN,within,cap,())) l.length _ (fun k hk rec=>?_) (fun rec=>?_) ?_ rfl
   ·have h1:(k:Int)<(l.length:Int):=by omega
    have hid:=sn l[k].id (hl.2 _ (List.getElem_mem hk)).id;have pS:=G6 l hl.1 aN within cap k hk rec;simp only[oX,decide_eq_true_eq,List.length_map,h1,if_true,ay,List.getElem?_map,List.getElem?_eq_getElem hk,Option.map_some,U,XU,aaz,aaA,aaB,aaC,aaD,bt,asBool,hid,pS,al (show k<9223372036854775807 by omega)];unfold EV;rw[List.getElem?_eq_getElem hk];simp only;generalize uX l[k]=c;cases eN l[k].id with
    |false=>rfl
    |true=>
     by_cases bO:l[k].id∈(l.map aQ.id).take k
     ·simp only[bO,if_true,Bool.not_true,Bool.false_eq_true,Bool.true_eq_false,if_false];rfl
     ·simp only[bO,if_true,Bool.not_true,Bool.false_eq_true,Bool.true_eq_false,if_false];cases c<;>rfl
   ·simp only[oX,decide_eq_true_eq,List.length_map,Int.lt_irrefl,if_false];rfl
   ·have:=aR;omega
end Go.Ab.Tt
namespace Go.Ab.Tt
set_option maxRecDepth 100000
set_option linter.unusedVariables false
set_option linter.unusedSimpArgs false
theorem G7(x:av):cell x.pv 0=.int .i64 x.stop:=rfl
theorem zD(x:av):cell x.pv 1=.int .i64 x.arr:=rfl
theorem zF(x:av):cell x.pv 2=.int .i64 x.dep:=rfl
def iw(l:List av):Nat→Option av
 |0=>none
 |k+1=>l[k]?
def lh(c:av)(p:Option av)(stops low high:Int):Int:=
 if(decide (c.stop<0)||decide (c.stop≥stops))=true then 9
 else if(match p with|some p=>decide (p.stop=c.stop)|none=>false)=true then 13
 else if(decide (c.arr<low)||decide (c.arr>c.dep)||decide (c.dep>high)||(match p with|some p=>decide (c.arr<p.dep)|none=>false))=true then 10 else 0
def mr(l:List av)(stops low high:Int)(k:Nat):Int:=match l[k]? with
 |none=>0
 |some c=>lh c (iw l k) stops low high
def bk(l:List av)(stops low high:Int):Int×Int:=if(decide ((l.length:Int)<2)||decide ((l.length:Int)>32))=true then(0,5)else bT (mr l stops low high) l.length
theorem uZ(j:Nat)(h:j<9223372036854775807):IntKind.i64.wrap (((j+1:Nat):Int)-1)=(j:Int):=by rw[fx (by omega) (by omega)];omega
theorem G8(l:List av)(stops low high:Int)(k:Nat)(hk:k<l.length)(hl:l.length≤maxLen):j3 [.rs 5 (l.map av.pv),.int .i64 k,.int .i64 stops,.int .i64 low,.int .i64 high]=some (.int .i64 (mr l stops low high k)):=by
 have hm:=aW;simp only[j3,B4,ab,asInt,if_true,U,ay,List.getElem?_map,List.getElem?_eq_getElem hk,Option.map_some,G7,zD,zF,bn];unfold mr lh;rw[List.getElem?_eq_getElem hk];simp only;cases k with
 |zero=>
  have h0:decide (((0:Nat):Int)>0)=false:=by decide
  simp only[h0,cond_false,U,bn,Bool.or_false,iw];generalize (decide (l[0].stop<0)||decide (l[0].stop≥stops))=A;generalize (decide (l[0].arr<low)||decide (l[0].arr>l[0].dep)||decide (l[0].dep>high))=B;cases A<;>cases B<;>rfl
 |succ j=>
  have h0:decide (((j+1:Nat):Int)>0)=true:=by rw[decide_eq_true_eq];omega
  have hj:j<l.length:=by omega
  simp only[h0,cond_true,U,uZ j (by omega),ay,List.getElem?_map,List.getElem?_eq_getElem hj,Option.map_some,G7,zF,asInt,if_true,iw,eW,bn];generalize (decide (l[j+1].stop<0)||decide (l[j+1].stop≥stops))=A;generalize (decide (l[j+1].arr<low)||decide (l[j+1].arr>l[j+1].dep)||decide (l[j+1].dep>high))=B;generalize decide (l[j].stop=l[j+1].stop)=C;generalize decide (l[j+1].arr<l[j].dep)=D;cases A<;>cases B<;>cases C<;>cases D<;>rfl
theorem nS(l:List av)(stops low high:Int)(hl:l.length≤maxLen):dv [.rs 5 (l.map av.pv),.int .i64 stops,.int .i64 low,.int .i64 high]=some (res (bk l stops low high).1 (bk l stops low high).2):=by
 have hm:=aW;simp only[dv,wb,ab,asInt,if_true,U,List.length_map,bn];unfold bk;split
 ·rfl
 ·rw[←mK];refine aX (fun k=>(l.map av.pv,stops,low,high,(l.length:Int),(k:Int),())) l.length _ (fun k hk rec=>?_) (fun rec=>?_) ?_ rfl
  ·have h1:(k:Int)<(l.length:Int):=by omega
   simp only[qH,decide_eq_true_eq,h1,if_true,G8 l stops low high k hk hl,U,asInt,al (show k<9223372036854775807 by omega),kC];by_cases he:mr l stops low high k=0
   ·simp[he,G9,c8]
   ·simp[he,G9,c8,res]
  ·simp only[qH,decide_eq_true_eq,Int.lt_irrefl,if_false];rfl
  ·have:=aR;omega
theorem OU(l:List av)(stops low high:Int)(hl:l.length≤maxLen):jC [.rs 5 (l.map av.pv),.int .i64 stops,.int .i64 low,.int .i64 high]=some (.int .i64 (bk l stops low high).2):=by
 have hm:=aW;simp only[jC,tP,ab,asInt,if_true,U,List.length_map,bn];unfold bk;split
 ·rfl
 ·rw[←KG];refine aX (fun k=>(l.map av.pv,stops,low,high,(k:Int),())) l.length _ (fun k hk rec=>?_) (fun rec=>?_) ?_ rfl
  ·have h1:(k:Int)<(l.length:Int):=by omega
   simp only[oY,decide_eq_true_eq,List.length_map,h1,if_true,ay,List.getElem?_map,List.getElem?_eq_getElem hk,Option.map_some,U,G7,zD,zF,asInt,bn,al (show k<9223372036854775807 by omega)];unfold mr lh;rw[List.getElem?_eq_getElem hk];simp only;cases k with
   |zero=>
    have h0:decide (((0:Nat):Int)>0)=false:=by decide
    simp only[h0,cond_false,U,bn,Bool.or_false,iw];generalize (decide (l[0].stop<0)||decide (l[0].stop≥stops))=A;generalize (decide (l[0].arr<low)||decide (l[0].arr>l[0].dep)||decide (l[0].dep>high))=B;cases A<;>cases B<;>rfl
   |succ j=>
    have h0:decide (((j+1:Nat):Int)>0)=true:=by rw[decide_eq_true_eq];omega
    have hj:j<l.length:=by omega
    have hc:decide (l[j+1].stop=l[j].stop)=decide (l[j].stop=l[j+1].stop):=by rw[Bool.eq_iff_iff];simp;exact eq_comm
    simp only[h0,cond_true,U,uZ j (by omega),ay,List.getElem?_map,List.getElem?_eq_getElem hj,Option.map_some,G7,zF,asInt,if_true,iw,eW,bn,hc];generalize (decide (l[j+1].stop<0)||decide (l[j+1].stop≥stops))=A;generalize (decide (l[j+1].arr<low)||decide (l[j+1].arr>l[j+1].dep)||decide (l[j+1].dep>high))=B;generalize decide (l[j].stop=l[j+1].stop)=C;generalize decide (l[j+1].arr<l[j].dep)=D;cases A<;>cases B<;>cases C<;>cases D<;>rfl
  ·simp only[oY,decide_eq_true_eq,List.length_map,Int.lt_irrefl,if_false]
  ·have:=aR;omega
end Go.Ab.Tt
namespace Go.Ab.Tt
set_option maxRecDepth 100000
set_option linter.unusedVariables false
set_option linter.unusedSimpArgs false
structure bw where
 dp:Int
 day:Int
 inst:Int
 id:Bytes
 bh:Int
 free:Bool
 oZ:Bool
 calls:List av
 deriving DecidableEq
def bw.pv(x:bw):PV:=.agg [.int .i64 x.dp,.int .i64 x.day,.int .i64 x.inst,.str x.id,.int .i64 x.bh,.bool x.free,.bool x.oZ,.rs 5 (x.calls.map av.pv)]
structure bw.jm(M:Nat)(x:bw):Prop where
 dp:jQ x.dp
 day:jQ x.day
 inst:jQ x.inst
 id:x.id.length≤M
 bh:jQ x.bh
 calls:x.calls.length≤M∧∀y∈x.calls,y.jm M
abbrev bw.Ok(x:bw):Prop:=x.jm maxLen
theorem aeB(r:bw):asAgg 8 r.pv=some ():=rfl
theorem aaE(r:bw):PV.agg [cell r.pv 0,cell r.pv 1,cell r.pv 2,cell r.pv 3,cell r.pv 4,cell r.pv 5,cell r.pv 6,cell r.pv 7]=r.pv:=rfl
theorem UQ(x:bw):cell x.pv 0=.int .i64 x.dp:=rfl
theorem OV(x:bw):cell x.pv 1=.int .i64 x.day:=rfl
theorem OW(x:bw):cell x.pv 2=.int .i64 x.inst:=rfl
theorem OX(x:bw):cell x.pv 3=.str x.id:=rfl
theorem UR(x:bw):cell x.pv 4=.int .i64 x.bh:=rfl
theorem XV(x:bw):cell x.pv 5=.bool x.free:=rfl
theorem XW(x:bw):cell x.pv 6=.bool x.oZ:=rfl
theorem EW(x:bw):cell x.pv 7=.rs 5 (x.calls.map av.pv):=rfl
structure aG where
 a:Int
 ac:Int
 b:Int
 bc:Int
 stay:Bool
 deriving DecidableEq
def aG.pv(x:aG):PV:=.agg [.int .i64 x.a,.int .i64 x.ac,.int .i64 x.b,.int .i64 x.bc,.bool x.stay]
structure aG.jm(M:Nat)(x:aG):Prop where
 a:jQ x.a
 ac:jQ x.ac
 b:jQ x.b
 bc:jQ x.bc
abbrev aG.Ok(x:aG):Prop:=x.jm maxLen
theorem DM(x:aG):cell x.pv 0=.int .i64 x.a:=rfl
theorem M0(x:aG):cell x.pv 1=.int .i64 x.ac:=rfl
theorem link2(x:aG):cell x.pv 2=.int .i64 x.b:=rfl
theorem M1(x:aG):cell x.pv 3=.int .i64 x.bc:=rfl
theorem Ha(x:aG):cell x.pv 4=.bool x.stay:=rfl
theorem Hb(x:Path):cell x.pv 0=.int .i64 x.a:=rfl
theorem Hc(x:Path):cell x.pv 1=.int .i64 x.b:=rfl
theorem M3(x:Path):cell x.pv 2=.int .i64 x.bM:=rfl
theorem Hd(x:Path):cell x.pv 3=.bool x.free:=rfl
structure ag where
 stops:List Stop
 ae:List au
 runs:List bw
 ah:List aG
 paths:List Path
 aq:List aQ
 aN:Int
 within:Int
 cap:Int
 deriving DecidableEq
def ag.pv(x:ag):PV:=.agg [.rs 4 (x.stops.map Stop.pv),.rs 3 (x.ae.map au.pv),.rs 8 (x.runs.map bw.pv),.rs 5 (x.ah.map aG.pv),.rs 4 (x.paths.map Path.pv),.rs 6 (x.aq.map aQ.pv),.int .i64 x.aN,.int .i64 x.within,.int .i64 x.cap]
structure ag.jm(M:Nat)(x:ag):Prop where
 stops:x.stops.length≤M∧∀y∈x.stops,y.jm M
 ae:x.ae.length≤M∧∀y∈x.ae,y.jm M
 runs:x.runs.length≤M∧∀y∈x.runs,y.jm M
 ah:x.ah.length≤M∧∀y∈x.ah,y.jm M
 paths:x.paths.length≤M∧∀y∈x.paths,y.jm M
 aq:x.aq.length≤M∧∀y∈x.aq,y.jm M
 aN:jQ x.aN
 within:jQ x.within
 cap:jQ x.cap
abbrev ag.Ok(x:ag):Prop:=x.jm maxLen
theorem pD(x:ag):asAgg 9 x.pv=some ():=rfl
theorem rn(x:ag):ab 4 (cell x.pv 0)=some (x.stops.map Stop.pv):=rfl
theorem rq(x:ag):ab 3 (cell x.pv 1)=some (x.ae.map au.pv):=rfl
theorem rr(x:ag):ab 8 (cell x.pv 2)=some (x.runs.map bw.pv):=rfl
theorem ru(x:ag):ab 5 (cell x.pv 3)=some (x.ah.map aG.pv):=rfl
theorem ry(x:ag):ab 4 (cell x.pv 4)=some (x.paths.map Path.pv):=rfl
theorem rz(x:ag):ab 6 (cell x.pv 5)=some (x.aq.map aQ.pv):=rfl
theorem rA(x:ag):asInt .i64 (cell x.pv 6)=some x.aN:=rfl
theorem rB(x:ag):asInt .i64 (cell x.pv 7)=some x.within:=rfl
theorem rC(x:ag):asInt .i64 (cell x.pv 8)=some x.cap:=rfl
theorem yA(x:ag):PV.agg [.rs 4 (x.stops.map Stop.pv),.rs 3 (x.ae.map au.pv),.rs 8 (x.runs.map bw.pv),.rs 5 (x.ah.map aG.pv),.rs 4 (x.paths.map Path.pv),.rs 6 (x.aq.map aQ.pv),.int .i64 x.aN,.int .i64 x.within,.int .i64 x.cap]=x.pv:=rfl
def r3(p i e:Int):PV:=.agg [.int .i64 p,.int .i64 i,.int .i64 e]
def prt(p:Int)(x:Int×Int):PV:=if x.2=0 then r3 0 0 0 else r3 p x.1 x.2
theorem M4(p i e:Int):asAgg 3 (r3 p i e)=some ():=rfl
theorem yB(p i e:Int):cell (r3 p i e) 0=.int .i64 p:=rfl
theorem xK(p i e:Int):cell (r3 p i e) 1=.int .i64 i:=rfl
theorem Ca(p i e:Int):cell (r3 p i e) 2=.int .i64 e:=rfl
theorem Cb(p i e:Int):aT [.int .i64 p,.int .i64 i,.int .i64 e]=some (r3 p i e):=rfl
theorem wg(n m:Int):bU [.int .i64 n,.int .i64 m]=some (.bool (decide (n≥0)&&decide (n<m))):=by simp only[bU,oO,asInt,if_true,U,dw]
variable{R:Type}
theorem hU(f:Nat→Int)(n:Nat)(g:Int→Int→R)(fin:Option R):c8 ((List.range n).findSome? fun k=>if f k=0 then none else some (some (g k (f k)))) fin=if(bT f n).2=0 then fin else some (g (bT f n).1 (bT f n).2):=by
 unfold bT;have:(List.range n).findSome? (fun k=>if f k=0 then none else some (some (g k (f k))))=((List.range n).findSome? (fun k=>if f k=0 then none else some ((k:Int),f k))).map fun x=>some (g x.1 x.2):=by rw[List.map_findSome?];congr 1;funext k;by_cases h:f k=0<;>simp[h]
 rw[this];cases hf:(List.range n).findSome? (fun k=>if f k=0 then none else some ((k:Int),f k))with
 |none=>rfl
 |some x=>
  obtain⟨k,_,hk⟩:=List.exists_of_findSome?_eq_some hf;have hx:x.2≠0:=by
   by_cases h0:f k=0
   ·rw[if_pos h0]at hk;cases hk
   ·rw[if_neg h0]at hk;simp only[Option.some.injEq]at hk;subst hk;exact h0
  simp only[Option.map_some,c8];rw[if_neg hx]
theorem ma(f:Nat→Int)(n:Nat):(bT f n).2=0↔∀k,k<n→f k=0:=by
 unfold bT;cases hf:(List.range n).findSome? (fun k=>if f k=0 then none else some ((k:Int),f k))with
 |none=>
  simp only[true_iff];intro k hk;rw[List.findSome?_eq_none_iff]at hf;have:=hf k (by simpa using hk);by_cases h0:f k=0
  ·exact h0
  ·rw[if_neg h0]at this;cases this
 |some x=>
  obtain⟨k,hk,hx⟩:=List.exists_of_findSome?_eq_some hf;by_cases h0:f k=0
  ·rw[if_pos h0]at hx;cases hx
  ·rw[if_neg h0]at hx;simp only[Option.some.injEq]at hx;subst hx;exact⟨fun h=>absurd h h0,fun h=>absurd (h k (by simpa using hk)) h0⟩
theorem vG{S:Type}{body:S→(S→Option R)→Option R}(st:Nat→S)(n:Nat)(bad:Nat→Option (Option R)){fin:Option R}(h:∀k,k<n→(∀j,j<k→bad j=none)→∀rec,body (st k) rec=c8 (bad k) (rec (st (k+1))))(mV:(∀j,j<n→bad j=none)→∀rec,body (st n) rec=fin)(hn:n<rounds){s0:S}(h0:st 0=s0):ca.run body s0=c8 ((List.range n).findSome? bad) fin:=by
 by_cases wQ:∀j,j<n→bad j=none
 ·have:(List.range n).findSome? bad=none:=by rw[List.findSome?_eq_none_iff];intro k hk;exact wQ k (by simpa using hk)
  rw[this];refine bK st n (fun k hk rec=>?_) (mV wQ) hn h0;rw[h k hk (fun j hj=>wQ j (by omega)),wQ k hk];rfl
 ·have hex:∃m,m<n∧bad m≠none∧∀j,j<m→bad j=none:=by
   have key:∀m,(∃i,i<m∧i<n∧bad i≠none)→∃m,m<n∧bad m≠none∧∀j,j<m→bad j=none:=by
    intro m;induction m with
    |zero=>rintro⟨i,hi,_⟩;omega
    |succ m ih=>
     intro hi;by_cases hc:∃i,i<m∧i<n∧bad i≠none
     ·exact ih hc
     ·obtain⟨i,h1,h2,h3⟩:=hi;have him:i=m:=by
       by_cases h:i<m
       ·exact absurd ⟨i,h,h2,h3⟩ hc
       ·omega
      subst him;refine⟨i,h2,h3,fun j hj=>?_⟩;cases hb:bad j with
      |none=>rfl
      |some x=>exact absurd ⟨j,hj,by omega,by rw[hb];exact fun h=>nomatch h⟩ hc
   have hc:∃i,i<n∧bad i≠none:=by
    by_cases hc:∃i,i<n∧bad i≠none
    ·exact hc
    ·refine absurd (fun j hj=>?_) wQ;cases hb:bad j with
     |none=>rfl
     |some x=>exact absurd ⟨j,hj,by rw[hb];exact fun h=>nomatch h⟩ hc
   obtain⟨i,h1,h2⟩:=hc;exact key n ⟨i,h1,h1,h2⟩
  obtain⟨m,hm,hb,br⟩:=hex;cases hbm:bad m with
  |none=>exact absurd hbm hb
  |some x=>
   have hf:(List.range n).findSome? bad=some x:=by
    have Y4:n=m+(n-m):=by omega
    rw[Y4,List.range_add,List.findSome?_append];have h1:(List.range m).findSome? bad=none:=by rw[List.findSome?_eq_none_iff];intro k hk;exact br k (by simpa using hk)
    rw[h1,Option.none_or];have hd:n-m=(n-m-1)+1:=by omega
    rw[hd,List.range_succ_eq_map,List.map_cons,List.findSome?_cons,Nat.add_zero,hbm]
   rw[hf];refine bK st m (fun k hk rec=>?_) (fun rec=>?_) (by omega) h0
   ·rw[h k (by omega) (fun j hj=>br j (by omega)),br k hk];rfl
   ·rw[h m hm br,hbm];rfl
theorem mw{A:Type}[DecidableEq A](a b:List A)(h:a.length=b.length)(no fin:Option R):c8 ((List.range a.length).findSome? fun k=>if a[k]?=b[k]? then none else some no) fin=if a=b then fin else no:=by
 by_cases qM:a=b
 ·rw[if_pos qM];have:(List.range a.length).findSome? (fun k=>if a[k]?=b[k]? then none else some no)=none:=by rw[List.findSome?_eq_none_iff];intro k _;rw[if_pos (by rw[qM])]
  rw[this];rfl
 ·rw[if_neg qM];cases hf:(List.range a.length).findSome? (fun k=>if a[k]?=b[k]? then none else some no)with
  |none=>
   refine absurd (List.ext_getElem? fun k=>?_) qM;rw[List.findSome?_eq_none_iff]at hf;by_cases hk:k<a.length
   ·have:=hf k (by simpa using hk);by_cases h0:a[k]?=b[k]?
    ·exact h0
    ·rw[if_neg h0]at this;cases this
   ·rw[List.getElem?_eq_none (by omega),List.getElem?_eq_none (by omega)]
  |some x=>
   obtain⟨k,hk,hx⟩:=List.exists_of_findSome?_eq_some hf;by_cases h0:a[k]?=b[k]?
   ·rw[if_pos h0]at hx;cases hx
   ·rw[if_neg h0]at hx;simp only[Option.some.injEq]at hx;subst hx;rfl
end Go.Ab.Tt
