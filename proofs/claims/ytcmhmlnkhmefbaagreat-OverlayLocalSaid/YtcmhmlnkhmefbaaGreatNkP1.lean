import Derived.Test.YtcmhmlnkhmefbaaGreatTtChk0
import Derived.Test.YtcmhmlnkhmefbaaGreatSh2
namespace Go.Ab.Tt
set_option maxRecDepth 100000
set_option linter.unusedVariables false
theorem ub(s:Bytes)(hs:s.length≤maxLen):dv [.str s]=some (.bool (eP s)):=by
 have hm:=aW;simp only[dv,tX,bB,U];refine(Cb s hs kG (some (.bool false)) (some (.bool (decide ((s.length:Int)>0)&&decide ((s.length:Int)≤32)))) (fun k hk rec=>?_) (fun rec=>?_)).trans ?_
 ·have h1:(k:Int)<(s.length:Int):=by omega
  simp only[oV,decide_eq_true_eq,h1,if_true,G1,List.getElem?_eq_getElem hk,U,dJ,an (show k<9223372036854775807 by omega),ff];generalize s[k]=b;unfold kG;generalize (decide (97≤(b.toNat:Int))&&decide ((b.toNat:Int)≤122))=x1;generalize (decide (65≤(b.toNat:Int))&&decide ((b.toNat:Int)≤90))=x2;generalize (decide (48≤(b.toNat:Int))&&decide ((b.toNat:Int)≤57))=x3;by_cases e4:(b.toNat:Int)=45<;>by_cases e5:(b.toNat:Int)=95<;>by_cases e6:(b.toNat:Int)=46<;>cases x1<;>cases x2<;>cases x3<;>simp[e4,e5,e6]
 ·simp only[oV,decide_eq_true_eq,Int.lt_irrefl,if_false,dJ,U]
 ·unfold eP;cases s.all kG with
  |true=>simp only[if_true,Bool.and_true,Option.some.injEq,PV.bool.injEq];rw[Bool.eq_iff_iff];simp only[Bool.and_eq_true,decide_eq_true_eq];omega
  |false=>simp
theorem OM{body:Bytes×Int×Unit→(Bytes×Int×Unit→Option PV)→Option PV}(s:Bytes)(hs:s.length≤maxLen)(h:∀k,(hk:k<s.length)→∀rec,body (s,(k:Int),()) rec=if kG s[k]then rec (s,((k+1:Nat):Int),())else some (.bool false))(nc:∀rec,body (s,(s.length:Int),()) rec=some (.bool true)){c:Bool}(hc:c= !(decide (1≤s.length)&&decide (s.length≤32))):(if c=true then some (.bool false)else cd.run body (s,0,()))=some (.bool (eP s)):=by rw[Cb s hs kG _ _ h nc,hc];unfold eP;cases s.all kG<;>cases(decide (1≤s.length)&&decide (s.length≤32))<;>rfl
theorem sx(s:Bytes)(hs:s.length≤maxLen):eg [.str s]=some (.bool (eP s)):=by
 have hm:=aW;simp only[eg,qF,bB,U,bn];refine OM s hs (fun k hk rec=>?_) (fun rec=>?_) ?_
 ·have h1:(k:Int)<(s.length:Int):=by omega
  simp only[mc,decide_eq_true_eq,h1,if_true,G1,List.getElem?_eq_getElem hk,U,dJ,bn,an (show k<9223372036854775807 by omega),kH];generalize s[k]=b;unfold kG;simp only[ge_iff_le];generalize (decide (97≤(b.toNat:Int))&&decide ((b.toNat:Int)≤122))=x1;generalize (decide (65≤(b.toNat:Int))&&decide ((b.toNat:Int)≤90))=x2;generalize (decide (48≤(b.toNat:Int))&&decide ((b.toNat:Int)≤57))=x3;by_cases e4:(b.toNat:Int)=45<;>by_cases e5:(b.toNat:Int)=95<;>by_cases e6:(b.toNat:Int)=46<;>cases x1<;>cases x2<;>cases x3<;>simp[e4,e5,e6]
 ·simp only[mc,decide_eq_true_eq,Int.lt_irrefl,if_false]
 ·rw[Bool.eq_iff_iff];simp only[ff,Bool.or_eq_true,Bool.not_eq_true',Bool.and_eq_false_iff,decide_eq_true_eq,decide_eq_false_iff_not];omega
def EU(l:List Stop)(k:Nat):Int:=match l[k]? with
 |none=>0
 |some x=>if eP x.id=false then 12 else if x.id∈(l.map Stop.id).take k then 6 else if(decide (x.sW<0)||decide (x.sW≥16)||decide (x.change<0)||decide (x.change>3600))=true then 2 else 0
def gQ(l:List Stop):Int×Int:=if l.length>64 then(0,5)else bW (EU l) l.length
theorem ON(l:List Stop)(hl:l.length≤maxLen∧∀y∈l,y.Ok):gL [.rs 4 (l.map Stop.pv)]=some (res (gQ l).1 (gQ l).2):=by
 have hm:=aW;simp only[gL,wq,ab,if_true,U,List.length_map];unfold gQ;by_cases s9:l.length>64
 ·rw[if_pos (by simp;omega),if_pos s9];rfl
 ·rw[if_neg (by simp;omega),if_neg s9,←mQ];refine aX (fun k=>(l.map Stop.pv,(l.length:Int),(k:Int),seen PV.str ((l.map Stop.id).take k),())) l.length _ (fun k hk rec=>?_) (fun rec=>?_) ?_ rfl
  ·have h1:(k:Int)<(l.length:Int):=by omega
   have hid:=ub l[k].id (hl.2 _ (List.getElem_mem hk)).id;have qw:=mR u7 l[k].id ((l.map Stop.id).take k);have ru:=kJ u7 l[k].id ((l.map Stop.id).take k);simp only[qJ,decide_eq_true_eq,h1,if_true,az,List.getElem?_map,List.getElem?_eq_getElem hk,Option.map_some,U,Stop.pv,cell,PV.cells,List.getD_cons_zero,List.getD_cons_succ,bB,asInt,asBool,hid,qw,ru,bn,an (show k<9223372036854775807 by omega),oW Stop.id l k hk];unfold EU;rw[List.getElem?_eq_getElem hk];simp only;generalize (decide (l[k].sW<0)||decide (l[k].sW≥16)||decide (l[k].change<0)||decide (l[k].change>3600))=c;cases eP l[k].id with
   |false=>rfl
   |true=>
    by_cases bP:l[k].id∈(l.map Stop.id).take k
    ·simp only[bP,if_true,Bool.not_true,Bool.false_eq_true,Bool.true_eq_false,if_false];rfl
    ·simp only[bP,if_true,Bool.not_true,Bool.false_eq_true,Bool.true_eq_false,if_false];cases c<;>rfl
  ·simp only[qJ,decide_eq_true_eq,Int.lt_irrefl,if_false];rfl
  ·have:=aS;omega
end Go.Ab.Tt
namespace Go.Ab.Tt
set_option maxRecDepth 100000
set_option linter.unusedVariables false
set_option linter.unusedSimpArgs false
theorem Cc(n a b:Int):bF [.int .i64 n,.int .i64 a,.int .i64 b]=some (.bool (decide (n≥a)&&decide (n≤b))):=by simp only[bF,Ca,asInt,if_true,U,dJ]
theorem EV(x:Stop):cell x.pv 0=.str x.id:=rfl
theorem UA(x:Stop):cell x.pv 1=.int .i64 x.sW:=rfl
theorem UB(x:Stop):cell x.pv 3=.int .i64 x.change:=rfl
theorem G2{R:Type}(ids:List Bytes)(i:Nat)(hi:i<ids.length)(no fin:Option R):da ((List.range i).findSome? fun k=>if decide (ids[k]?=some ids[i])=true then some no else none) fin=if ids[i]∈ids.take i then no else fin:=by
 rw[pV (fun k=>decide (ids[k]?=some ids[i])) (fun _=>no)];cases hf:(List.range i).find? fun k=>decide (ids[k]?=some ids[i])with
 |none=>
  have hn:ids[i]∉ids.take i:=fun bP=>by
   obtain⟨j,hj⟩:=List.mem_iff_getElem?.1 bP;have Jd:j<i:=by have:=(List.getElem?_eq_some_iff.1 hj).1;simp at this;omega
   rw[List.getElem?_take_of_lt Jd]at hj;rw[List.find?_eq_none]at hf;exact hf j (by simpa using Jd) (by simpa using hj)
  rw[if_neg hn];rfl
 |some j=>rw[List.find?_range_eq_some]at hf;obtain⟨h1,h2,_⟩:=hf;have bP:ids[i]∈ids.take i:=List.mem_iff_getElem?.2 ⟨j,by rw[List.getElem?_take_of_lt (by simpa using h2)];simpa using h1⟩;rw[if_pos bP];rfl
theorem G3(l:List Stop)(hl:l.length≤maxLen)(i:Nat)(hi:i<l.length)(fg:List PV×Int×Unit→Option PV):cd.run (ll fg) (l.map Stop.pv,(i:Int),0,())=if(l.map Stop.id)[i]'(by simpa using hi)∈(l.map Stop.id).take i then some (res i 6)else if(decide (l[i].sW<0)||decide (l[i].sW≥16)||decide (l[i].change<0)||decide (l[i].change>3600))=true then some (res i 2)else fg (l.map Stop.pv,IntKind.i64.wrap ((i:Int)+1),()):=by
 have hm:=aW;have Ow:(l.map Stop.pv)[i]?=some l[i].pv:=by rw[List.getElem?_map,List.getElem?_eq_getElem hi];rfl
 have Dt:i<(l.map Stop.id).length:=by simpa using hi
 have XJ:(l.map Stop.id)[i]=l[i].id:=by simp
 rw[←G2 (l.map Stop.id) i Dt];refine aX (fun k=>(l.map Stop.pv,(i:Int),(k:Int),())) i (fun k=>if decide ((l.map Stop.id)[k]?=some (l.map Stop.id)[i])=true then some (some (res i 6))else none) (fun k hk rec=>?_) (fun rec=>?_) ?_ rfl
 ·have h1:decide ((k:Int)<(i:Int))=true:=by simp;omega
  have jE:k<l.length:=by omega
  have XK:(l.map Stop.pv)[k]?=some l[k].pv:=by rw[List.getElem?_map,List.getElem?_eq_getElem jE];rfl
  have hdk:decide ((l.map Stop.id)[k]?=some (l.map Stop.id)[i])=decide (l[k].id=l[i].id):=by rw[List.getElem?_map,List.getElem?_eq_getElem jE,XJ];simp
  unfold ll;dsimp only;rw[if_pos h1,az,XK,U,EV,az,Ow,an (by omega),hdk];simp only[bB,U,EV,ff];cases decide (l[k].id=l[i].id)<;>rfl
 ·unfold ll;dsimp only;rw[if_neg (by simp),az,Ow];simp only[U,UA,UB,asInt,if_true,Cc,asBool,bn];have:(!(decide (l[i].sW≥0)&&decide (l[i].sW≤15))|| !(decide (l[i].change≥0)&&decide (l[i].change≤3600)))=(decide (l[i].sW<0)||decide (l[i].sW≥16)||decide (l[i].change<0)||decide (l[i].change>3600)):=by rw[Bool.eq_iff_iff];simp only[Bool.or_eq_true,Bool.not_eq_true',Bool.and_eq_false_iff,decide_eq_true_eq,decide_eq_false_iff_not];omega
  rw[this];cases(decide (l[i].sW<0)||decide (l[i].sW≥16)||decide (l[i].change<0)||decide (l[i].change>3600))<;>rfl
 ·have:=aS;omega
theorem OO(l:List Stop)(hl:l.length≤maxLen∧∀y∈l,y.Ok):jG [.rs 4 (l.map Stop.pv)]=some (res (gQ l).1 (gQ l).2):=by
 have hm:=aW;simp only[jG,tR,ab,if_true,U,List.length_map];unfold gQ;by_cases s9:l.length>64
 ·rw[if_pos (by simp;omega),if_pos s9];rfl
 ·rw[if_neg (by simp;omega),if_neg s9,←mQ];refine aX (fun k=>(l.map Stop.pv,(k:Int),())) l.length _ (fun k hk rec=>?_) (fun rec=>?_) ?_ rfl
  ·have h1:decide ((k:Int)<((l.map Stop.pv).length:Int))=true:=by simp;omega
   have XK:(l.map Stop.pv)[k]?=some l[k].pv:=by rw[List.getElem?_map,List.getElem?_eq_getElem hk];rfl
   have hid:=sx l[k].id (hl.2 _ (List.getElem_mem hk)).id;have XL:(l.map Stop.id)[k]'(by simpa using hk)=l[k].id:=by simp
   unfold oX;dsimp only;rw[if_pos h1,az,XK,U,EV];simp only[bB,U,hid,asBool];rw[G3 l hl.1 k hk rec,XL,an (by omega)];unfold EU;rw[List.getElem?_eq_getElem hk];simp only;generalize (decide (l[k].sW<0)||decide (l[k].sW≥16)||decide (l[k].change<0)||decide (l[k].change>3600))=c;cases eP l[k].id with
   |false=>rfl
   |true=>
    by_cases bP:l[k].id∈(l.map Stop.id).take k
    ·simp only[bP,if_true,Bool.not_true,Bool.false_eq_true,Bool.true_eq_false,if_false];rfl
    ·simp only[bP,if_true,Bool.not_true,Bool.false_eq_true,Bool.true_eq_false,if_false];cases c<;>rfl
  ·unfold oX;dsimp only;rw[if_neg (by simp)];rfl
  ·have:=aS;omega
end Go.Ab.Tt
namespace Go.Ab.Tt
set_option maxRecDepth 100000
set_option linter.unusedVariables false
set_option linter.unusedSimpArgs false
theorem Cd(x:av):cell x.pv 0=.str x.id:=rfl
theorem RS(x:av):cell x.pv 1=.int .i64 x.mode:=rfl
def Ce(l:List av)(k:Nat):Int:=match l[k]? with
 |none=>0
 |some x=>if eP x.id=false then 12 else if x.id∈(l.map av.id).take k then 6 else if(decide (x.mode≥0)&&decide (x.mode<8))=false then 2 else 0
def fv(l:List av):Int×Int:=if l.length>64 then(0,5)else bW (Ce l) l.length
theorem Kw(l:List av)(hl:l.length≤maxLen∧∀y∈l,y.Ok):fU [.rs 3 (l.map av.pv)]=some (res (fv l).1 (fv l).2):=by
 have hm:=aW;simp only[fU,tU,ab,if_true,U,List.length_map];unfold fv;by_cases s9:l.length>64
 ·rw[if_pos (by simp;omega),if_pos s9];rfl
 ·rw[if_neg (by simp;omega),if_neg s9,←mQ];refine aX (fun k=>(l.map av.pv,(l.length:Int),(k:Int),seen PV.str ((l.map av.id).take k),())) l.length _ (fun k hk rec=>?_) (fun rec=>?_) ?_ rfl
  ·have h1:(k:Int)<(l.length:Int):=by omega
   have hid:=ub l[k].id (hl.2 _ (List.getElem_mem hk)).id;have qw:=mR u7 l[k].id ((l.map av.id).take k);have ru:=kJ u7 l[k].id ((l.map av.id).take k);simp only[oY,decide_eq_true_eq,h1,if_true,az,List.getElem?_map,List.getElem?_eq_getElem hk,Option.map_some,U,av.pv,cell,PV.cells,List.getD_cons_zero,List.getD_cons_succ,bB,asInt,asBool,hid,qw,ru,bn,an (show k<9223372036854775807 by omega),oW av.id l k hk,ig,tS,dJ];unfold Ce;rw[List.getElem?_eq_getElem hk];simp only;generalize (decide (l[k].mode≥0)&&decide (l[k].mode<8))=c;cases eP l[k].id with
   |false=>rfl
   |true=>
    by_cases bP:l[k].id∈(l.map av.id).take k
    ·simp only[bP,if_true,Bool.not_true,Bool.false_eq_true,Bool.true_eq_false,if_false];rfl
    ·simp only[bP,if_true,Bool.not_true,Bool.false_eq_true,Bool.true_eq_false,if_false];cases c<;>rfl
  ·simp only[oY,decide_eq_true_eq,Int.lt_irrefl,if_false];rfl
  ·have:=aS;omega
theorem EW(l:List av)(hl:l.length≤maxLen)(i:Nat)(hi:i<l.length)(fg:List PV×Int×Unit→Option PV):cd.run (jU fg) (l.map av.pv,(i:Int),0,())=if(l.map av.id)[i]'(by simpa using hi)∈(l.map av.id).take i then some (res i 6)else if(decide (l[i].mode≥0)&&decide (l[i].mode<8))=false then some (res i 2)else fg (l.map av.pv,IntKind.i64.wrap ((i:Int)+1),()):=by
 have hm:=aW;have Ow:(l.map av.pv)[i]?=some l[i].pv:=by rw[List.getElem?_map,List.getElem?_eq_getElem hi];rfl
 have Dt:i<(l.map av.id).length:=by simpa using hi
 have XJ:(l.map av.id)[i]=l[i].id:=by simp
 rw[←G2 (l.map av.id) i Dt];refine aX (fun k=>(l.map av.pv,(i:Int),(k:Int),())) i (fun k=>if decide ((l.map av.id)[k]?=some (l.map av.id)[i])=true then some (some (res i 6))else none) (fun k hk rec=>?_) (fun rec=>?_) ?_ rfl
 ·have h1:decide ((k:Int)<(i:Int))=true:=by simp;omega
  have jE:k<l.length:=by omega
  have XK:(l.map av.pv)[k]?=some l[k].pv:=by rw[List.getElem?_map,List.getElem?_eq_getElem jE];rfl
  have hdk:decide ((l.map av.id)[k]?=some (l.map av.id)[i])=decide (l[k].id=l[i].id):=by rw[List.getElem?_map,List.getElem?_eq_getElem jE,XJ];simp
  unfold jU;dsimp only;rw[if_pos h1,az,XK,U,Cd,az,Ow,an (by omega),hdk];simp only[bB,U,Cd,ff];cases decide (l[k].id=l[i].id)<;>rfl
 ·unfold jU;dsimp only;rw[if_neg (by simp),az,Ow];simp only[U,RS,asInt,if_true,Cc,asBool];have:(decide (l[i].mode≥0)&&decide (l[i].mode≤7))=(decide (l[i].mode≥0)&&decide (l[i].mode<8)):=by rw[Bool.eq_iff_iff];simp only[Bool.and_eq_true,decide_eq_true_eq];omega
  rw[this];cases(decide (l[i].mode≥0)&&decide (l[i].mode<8))<;>rfl
 ·have:=aS;omega
theorem Kx(l:List av)(hl:l.length≤maxLen∧∀y∈l,y.Ok):iX [.rs 3 (l.map av.pv)]=some (res (fv l).1 (fv l).2):=by
 have hm:=aW;simp only[iX,so,ab,if_true,U,List.length_map];unfold fv;by_cases s9:l.length>64
 ·rw[if_pos (by simp;omega),if_pos s9];rfl
 ·rw[if_neg (by simp;omega),if_neg s9,←mQ];refine aX (fun k=>(l.map av.pv,(k:Int),())) l.length _ (fun k hk rec=>?_) (fun rec=>?_) ?_ rfl
  ·have h1:decide ((k:Int)<((l.map av.pv).length:Int))=true:=by simp;omega
   have XK:(l.map av.pv)[k]?=some l[k].pv:=by rw[List.getElem?_map,List.getElem?_eq_getElem hk];rfl
   have hid:=sx l[k].id (hl.2 _ (List.getElem_mem hk)).id;have XL:(l.map av.id)[k]'(by simpa using hk)=l[k].id:=by simp
   unfold nv;dsimp only;rw[if_pos h1,az,XK,U,Cd];simp only[bB,U,hid,asBool];rw[EW l hl.1 k hk rec,XL,an (by omega)];unfold Ce;rw[List.getElem?_eq_getElem hk];simp only;generalize (decide (l[k].mode≥0)&&decide (l[k].mode<8))=c;cases eP l[k].id with
   |false=>rfl
   |true=>
    by_cases bP:l[k].id∈(l.map av.id).take k
    ·simp only[bP,if_true,Bool.not_true,Bool.false_eq_true,Bool.true_eq_false,if_false];rfl
    ·simp only[bP,if_true,Bool.not_true,Bool.false_eq_true,Bool.true_eq_false,if_false];cases c<;>rfl
  ·unfold nv;dsimp only;rw[if_neg (by simp)];rfl
  ·have:=aS;omega
end Go.Ab.Tt
namespace Go.Ab.Tt
set_option maxRecDepth 100000
set_option linter.unusedVariables false
set_option linter.unusedSimpArgs false
def wi(n a b:Int):Bool:=decide (n≥a)&&decide (n≤b)
theorem zG(n a b:Int):bu [.int .i64 n,.int .i64 a,.int .i64 b]=some (.bool (wi n a b)):=by simp only[bu,oU,asInt,if_true,U,dJ];rfl
theorem XM(x:aR):cell x.pv 0=.str x.id:=rfl
theorem aaw(x:aR):cell x.pv 1=.int .i64 x.zH:=rfl
theorem aax(x:aR):cell x.pv 2=.int .i64 x.zI:=rfl
theorem aay(x:aR):cell x.pv 3=.int .i64 x.zJ:=rfl
theorem aaz(x:aR):cell x.pv 4=.int .i64 x.bS:=rfl
theorem aaA(x:aR):cell x.pv 5=.int .i64 x.zK:=rfl
def u9(x:aR):Bool:= !wi x.zH 0 1000000|| !wi x.zI 1 8|| !wi x.zJ 1 16|| !wi x.bS 0 86400|| !wi x.zK 1 255
def EX(l:List aR)(k:Nat):Int:=match l[k]? with
 |none=>0
 |some x=>if eP x.id=false then 12 else if x.id∈(l.map aR.id).take k then 6 else if u9 x=true then 2 else 0
def va(l:List aR)(aO within cap:Int):PV:=.agg [.rs 6 (l.map aR.pv),.int .i64 aO,.int .i64 within,.int .i64 cap]
def dK(l:List aR)(aO within cap:Int):Int×Int:=if(!wi aO 0 1000000|| !wi within 0 86400|| !wi cap 0 1000000)=true then(-1,2)else if l.length>16 then(0,5)else bW (EX l) l.length
theorem Ky(l:List aR)(aO within cap:Int)(hl:l.length≤maxLen∧∀y∈l,y.Ok):dc [va l aO within cap]=some (res (dK l aO within cap).1 (dK l aO within cap).2):=by
 have hm:=aW;simp only[dc,qA,va,asAgg,cell,PV.cells,List.getD_cons_zero,List.getD_cons_succ,List.length_cons,List.length_nil,Nat.reduceAdd,ab,asInt,asBool,if_true,U,List.length_map,zG,bn];unfold dK;generalize (!wi aO 0 1000000|| !wi within 0 86400|| !wi cap 0 1000000)=c;cases c with
 |true=>rfl
 |false=>
  simp only[Bool.false_eq_true,if_false];by_cases s9:l.length>16
  ·rw[if_pos (by simp;omega),if_pos s9];rfl
  ·rw[if_neg (by simp;omega),if_neg s9,←mQ];refine aX (fun k=>(l.map aR.pv,(l.length:Int),(k:Int),seen PV.str ((l.map aR.id).take k),())) l.length _ (fun k hk rec=>?_) (fun rec=>?_) ?_ rfl
   ·have h1:(k:Int)<(l.length:Int):=by omega
    have hid:=ub l[k].id (hl.2 _ (List.getElem_mem hk)).id;have qw:=mR u7 l[k].id ((l.map aR.id).take k);have ru:=kJ u7 l[k].id ((l.map aR.id).take k);simp only[me,decide_eq_true_eq,h1,if_true,az,List.getElem?_map,List.getElem?_eq_getElem hk,Option.map_some,U,XM,aaw,aax,aay,aaz,aaA,bB,asInt,asBool,hid,qw,ru,zG,bn,an (show k<9223372036854775807 by omega),oW aR.id l k hk];unfold EX;rw[List.getElem?_eq_getElem hk];have hb:(!wi l[k].zH 0 1000000|| !wi l[k].zI 1 8|| !wi l[k].zJ 1 16|| !wi l[k].bS 0 86400|| !wi l[k].zK 1 255)=u9 l[k]:=rfl;simp only[hb];generalize u9 l[k]=c;cases eP l[k].id with
    |false=>rfl
    |true=>
     by_cases bP:l[k].id∈(l.map aR.id).take k
     ·simp only[bP,if_true,Bool.not_true,Bool.false_eq_true,Bool.true_eq_false,if_false];rfl
     ·simp only[bP,if_true,Bool.not_true,Bool.false_eq_true,Bool.true_eq_false,if_false];cases c<;>rfl
   ·simp only[me,decide_eq_true_eq,Int.lt_irrefl,if_false];rfl
   ·have:=aS;omega
theorem V0(n a b:Int):bF [.int .i64 n,.int .i64 a,.int .i64 b]=some (.bool (wi n a b)):=Cc n a b
theorem G4(l:List aR)(hl:l.length≤maxLen)(d w c:Int)(i:Nat)(hi:i<l.length)(fg:Int×List PV×Int×Int×Int×Unit→Option PV):cd.run (lq fg) ((i:Int),0,l.map aR.pv,d,w,c,.str l[i].id,.int .i64 l[i].zH,.int .i64 l[i].zI,.int .i64 l[i].zJ,.int .i64 l[i].bS,.int .i64 l[i].zK,())=if l[i].id∈(l.map aR.id).take i then some (res i 6)else if u9 l[i]=true then some (res i 2)else fg (IntKind.i64.wrap ((i:Int)+1),l.map aR.pv,d,w,c,()):=by
 have hm:=aW;refine(oZ (fun k=>((i:Int),(k:Int),l.map aR.pv,d,w,c,PV.str l[i].id,PV.int .i64 l[i].zH,PV.int .i64 l[i].zI,PV.int .i64 l[i].zJ,PV.int .i64 l[i].bS,PV.int .i64 l[i].zK,())) i (fun k=>decide ((l.map aR.id)[k]?=some l[i].id)) (no:=some (res i 6)) (fin:=if u9 l[i]=true then some (res i 2)else fg (IntKind.i64.wrap ((i:Int)+1),l.map aR.pv,d,w,c,())) (fun k hk rec=>?_) (fun rec=>?_) ?_ rfl).trans ?_
 ·have h1:(k:Int)<(i:Int):=by omega
  have jE:k<l.length:=by omega
  simp only[lq,decide_eq_true_eq,h1,if_true,az,List.getElem?_map,List.getElem?_eq_getElem jE,Option.map_some,U,XM,bB,an (show k<9223372036854775807 by omega),ff,Option.some.injEq];rfl
 ·simp only[lq,decide_eq_true_eq,Int.lt_irrefl,if_false,U,asInt,if_true,V0,asBool,bn];rfl
 ·have:=aS;omega
 ·rw[AE _ _ (by simp;omega)];simp only[decide_eq_true_eq]
theorem OP(l:List aR)(aO within cap:Int)(hl:l.length≤maxLen∧∀y∈l,y.Ok):jH [va l aO within cap]=some (res (dK l aO within cap).1 (dK l aO within cap).2):=by
 have hm:=aW;simp only[jH,tZ,va,asAgg,cell,PV.cells,List.getD_cons_zero,List.getD_cons_succ,List.length_cons,List.length_nil,Nat.reduceAdd,ab,asInt,asBool,if_true,U,List.length_map,V0,bn];unfold dK;generalize (!wi aO 0 1000000|| !wi within 0 86400|| !wi cap 0 1000000)=c;cases c with
 |true=>rfl
 |false=>
  simp only[Bool.false_eq_true,if_false];by_cases s9:l.length>16
  ·rw[if_pos (by simp;omega),if_pos s9];rfl
  ·rw[if_neg (by simp;omega),if_neg s9,←mQ];refine aX (fun k=>((k:Int),l.map aR.pv,aO,within,cap,())) l.length _ (fun k hk rec=>?_) (fun rec=>?_) ?_ rfl
   ·have h1:(k:Int)<(l.length:Int):=by omega
    have hid:=sx l[k].id (hl.2 _ (List.getElem_mem hk)).id;have pT:=G4 l hl.1 aO within cap k hk rec;simp only[pc,decide_eq_true_eq,List.length_map,h1,if_true,az,List.getElem?_map,List.getElem?_eq_getElem hk,Option.map_some,U,XM,aaw,aax,aay,aaz,aaA,bB,asBool,hid,pT,an (show k<9223372036854775807 by omega)];unfold EX;rw[List.getElem?_eq_getElem hk];simp only;generalize u9 l[k]=c;cases eP l[k].id with
    |false=>rfl
    |true=>
     by_cases bP:l[k].id∈(l.map aR.id).take k
     ·simp only[bP,if_true,Bool.not_true,Bool.false_eq_true,Bool.true_eq_false,if_false];rfl
     ·simp only[bP,if_true,Bool.not_true,Bool.false_eq_true,Bool.true_eq_false,if_false];cases c<;>rfl
   ·simp only[pc,decide_eq_true_eq,List.length_map,Int.lt_irrefl,if_false];rfl
   ·have:=aS;omega
end Go.Ab.Tt
namespace Go.Ab.Tt
set_option maxRecDepth 100000
set_option linter.unusedVariables false
set_option linter.unusedSimpArgs false
theorem G5(x:aw):cell x.pv 0=.int .i64 x.stop:=rfl
theorem zL(x:aw):cell x.pv 1=.int .i64 x.arr:=rfl
theorem zM(x:aw):cell x.pv 2=.int .i64 x.dep:=rfl
def iD(l:List aw):Nat→Option aw
 |0=>none
 |k+1=>l[k]?
def lr(c:aw)(p:Option aw)(stops low high:Int):Int:=
 if(decide (c.stop<0)||decide (c.stop≥stops))=true then 9
 else if(match p with|some p=>decide (p.stop=c.stop)|none=>false)=true then 13
 else if(decide (c.arr<low)||decide (c.arr>c.dep)||decide (c.dep>high)||(match p with|some p=>decide (c.arr<p.dep)|none=>false))=true then 10 else 0
def mA(l:List aw)(stops low high:Int)(k:Nat):Int:=match l[k]? with
 |none=>0
 |some c=>lr c (iD l k) stops low high
def br(l:List aw)(stops low high:Int):Int×Int:=if(decide ((l.length:Int)<2)||decide ((l.length:Int)>32))=true then(0,5)else bW (mA l stops low high) l.length
theorem vb(j:Nat)(h:j<9223372036854775807):IntKind.i64.wrap (((j+1:Nat):Int)-1)=(j:Int):=by rw[fB (by omega) (by omega)];omega
theorem G6(l:List aw)(stops low high:Int)(k:Nat)(hk:k<l.length)(hl:l.length≤maxLen):j8 [.rs 5 (l.map aw.pv),.int .i64 k,.int .i64 stops,.int .i64 low,.int .i64 high]=some (.int .i64 (mA l stops low high k)):=by
 have hm:=aW;simp only[j8,B9,ab,asInt,if_true,U,az,List.getElem?_map,List.getElem?_eq_getElem hk,Option.map_some,G5,zL,zM,bn];unfold mA lr;rw[List.getElem?_eq_getElem hk];simp only;cases k with
 |zero=>
  have h0:decide (((0:Nat):Int)>0)=false:=by decide
  simp only[h0,cond_false,U,bn,Bool.or_false,iD];generalize (decide (l[0].stop<0)||decide (l[0].stop≥stops))=A;generalize (decide (l[0].arr<low)||decide (l[0].arr>l[0].dep)||decide (l[0].dep>high))=B;cases A<;>cases B<;>rfl
 |succ j=>
  have h0:decide (((j+1:Nat):Int)>0)=true:=by rw[decide_eq_true_eq];omega
  have hj:j<l.length:=by omega
  simp only[h0,cond_true,U,vb j (by omega),az,List.getElem?_map,List.getElem?_eq_getElem hj,Option.map_some,G5,zM,asInt,if_true,iD,ff,bn];generalize (decide (l[j+1].stop<0)||decide (l[j+1].stop≥stops))=A;generalize (decide (l[j+1].arr<low)||decide (l[j+1].arr>l[j+1].dep)||decide (l[j+1].dep>high))=B;generalize decide (l[j].stop=l[j+1].stop)=C;generalize decide (l[j+1].arr<l[j].dep)=D;cases A<;>cases B<;>cases C<;>cases D<;>rfl
theorem nV(l:List aw)(stops low high:Int)(hl:l.length≤maxLen):dy [.rs 5 (l.map aw.pv),.int .i64 stops,.int .i64 low,.int .i64 high]=some (res (br l stops low high).1 (br l stops low high).2):=by
 have hm:=aW;simp only[dy,wo,ab,asInt,if_true,U,List.length_map,bn];unfold br;split
 ·rfl
 ·rw[←mQ];refine aX (fun k=>(l.map aw.pv,stops,low,high,(l.length:Int),(k:Int),())) l.length _ (fun k hk rec=>?_) (fun rec=>?_) ?_ rfl
  ·have h1:(k:Int)<(l.length:Int):=by omega
   simp only[qK,decide_eq_true_eq,h1,if_true,G6 l stops low high k hk hl,U,asInt,an (show k<9223372036854775807 by omega),kH];by_cases he:mA l stops low high k=0
   ·simp[he,G7,da]
   ·simp[he,G7,da,res]
  ·simp only[qK,decide_eq_true_eq,Int.lt_irrefl,if_false];rfl
  ·have:=aS;omega
theorem OQ(l:List aw)(stops low high:Int)(hl:l.length≤maxLen):jI [.rs 5 (l.map aw.pv),.int .i64 stops,.int .i64 low,.int .i64 high]=some (.int .i64 (br l stops low high).2):=by
 have hm:=aW;simp only[jI,tV,ab,asInt,if_true,U,List.length_map,bn];unfold br;split
 ·rfl
 ·rw[←Kz];refine aX (fun k=>(l.map aw.pv,stops,low,high,(k:Int),())) l.length _ (fun k hk rec=>?_) (fun rec=>?_) ?_ rfl
  ·have h1:(k:Int)<(l.length:Int):=by omega
   simp only[pd,decide_eq_true_eq,List.length_map,h1,if_true,az,List.getElem?_map,List.getElem?_eq_getElem hk,Option.map_some,U,G5,zL,zM,asInt,bn,an (show k<9223372036854775807 by omega)];unfold mA lr;rw[List.getElem?_eq_getElem hk];simp only;cases k with
   |zero=>
    have h0:decide (((0:Nat):Int)>0)=false:=by decide
    simp only[h0,cond_false,U,bn,Bool.or_false,iD];generalize (decide (l[0].stop<0)||decide (l[0].stop≥stops))=A;generalize (decide (l[0].arr<low)||decide (l[0].arr>l[0].dep)||decide (l[0].dep>high))=B;cases A<;>cases B<;>rfl
   |succ j=>
    have h0:decide (((j+1:Nat):Int)>0)=true:=by rw[decide_eq_true_eq];omega
    have hj:j<l.length:=by omega
    have hc:decide (l[j+1].stop=l[j].stop)=decide (l[j].stop=l[j+1].stop):=by rw[Bool.eq_iff_iff];simp;exact eq_comm
    simp only[h0,cond_true,U,vb j (by omega),az,List.getElem?_map,List.getElem?_eq_getElem hj,Option.map_some,G5,zM,asInt,if_true,iD,ff,bn,hc];generalize (decide (l[j+1].stop<0)||decide (l[j+1].stop≥stops))=A;generalize (decide (l[j+1].arr<low)||decide (l[j+1].arr>l[j+1].dep)||decide (l[j+1].dep>high))=B;generalize decide (l[j].stop=l[j+1].stop)=C;generalize decide (l[j+1].arr<l[j].dep)=D;cases A<;>cases B<;>cases C<;>cases D<;>rfl
  ·simp only[pd,decide_eq_true_eq,List.length_map,Int.lt_irrefl,if_false]
  ·have:=aS;omega
end Go.Ab.Tt
namespace Go.Ab.Tt
set_option maxRecDepth 100000
set_option linter.unusedVariables false
set_option linter.unusedSimpArgs false
structure bx where
 dw:Int
 day:Int
 inst:Int
 id:Bytes
 bj:Int
 free:Bool
 pE:Bool
 calls:List aw
 deriving DecidableEq
def bx.pv(x:bx):PV:=.agg [.int .i64 x.dw,.int .i64 x.day,.int .i64 x.inst,.str x.id,.int .i64 x.bj,.bool x.free,.bool x.pE,.rs 5 (x.calls.map aw.pv)]
structure bx.js(M:Nat)(x:bx):Prop where
 dw:jV x.dw
 day:jV x.day
 inst:jV x.inst
 id:x.id.length≤M
 bj:jV x.bj
 calls:x.calls.length≤M∧∀y∈x.calls,y.js M
abbrev bx.Ok(x:bx):Prop:=x.js maxLen
theorem aey(r:bx):asAgg 8 r.pv=some ():=rfl
theorem aaB(r:bx):PV.agg [cell r.pv 0,cell r.pv 1,cell r.pv 2,cell r.pv 3,cell r.pv 4,cell r.pv 5,cell r.pv 6,cell r.pv 7]=r.pv:=rfl
theorem UC(x:bx):cell x.pv 0=.int .i64 x.dw:=rfl
theorem OR(x:bx):cell x.pv 1=.int .i64 x.day:=rfl
theorem OS(x:bx):cell x.pv 2=.int .i64 x.inst:=rfl
theorem OT(x:bx):cell x.pv 3=.str x.id:=rfl
theorem UD(x:bx):cell x.pv 4=.int .i64 x.bj:=rfl
theorem XN(x:bx):cell x.pv 5=.bool x.free:=rfl
theorem XO(x:bx):cell x.pv 6=.bool x.pE:=rfl
theorem EY(x:bx):cell x.pv 7=.rs 5 (x.calls.map aw.pv):=rfl
structure aH where
 a:Int
 ac:Int
 b:Int
 bc:Int
 stay:Bool
 deriving DecidableEq
def aH.pv(x:aH):PV:=.agg [.int .i64 x.a,.int .i64 x.ac,.int .i64 x.b,.int .i64 x.bc,.bool x.stay]
structure aH.js(M:Nat)(x:aH):Prop where
 a:jV x.a
 ac:jV x.ac
 b:jV x.b
 bc:jV x.bc
abbrev aH.Ok(x:aH):Prop:=x.js maxLen
theorem DO(x:aH):cell x.pv 0=.int .i64 x.a:=rfl
theorem MU(x:aH):cell x.pv 1=.int .i64 x.ac:=rfl
theorem link2(x:aH):cell x.pv 2=.int .i64 x.b:=rfl
theorem MV(x:aH):cell x.pv 3=.int .i64 x.bc:=rfl
theorem G8(x:aH):cell x.pv 4=.bool x.stay:=rfl
theorem G9(x:Path):cell x.pv 0=.int .i64 x.a:=rfl
theorem Ha(x:Path):cell x.pv 1=.int .i64 x.b:=rfl
theorem MW(x:Path):cell x.pv 2=.int .i64 x.bS:=rfl
theorem Hb(x:Path):cell x.pv 3=.bool x.free:=rfl
structure af where
 stops:List Stop
 ae:List av
 runs:List bx
 ah:List aH
 paths:List Path
 ar:List aR
 aO:Int
 within:Int
 cap:Int
 deriving DecidableEq
def af.pv(x:af):PV:=.agg [.rs 4 (x.stops.map Stop.pv),.rs 3 (x.ae.map av.pv),.rs 8 (x.runs.map bx.pv),.rs 5 (x.ah.map aH.pv),.rs 4 (x.paths.map Path.pv),.rs 6 (x.ar.map aR.pv),.int .i64 x.aO,.int .i64 x.within,.int .i64 x.cap]
structure af.js(M:Nat)(x:af):Prop where
 stops:x.stops.length≤M∧∀y∈x.stops,y.js M
 ae:x.ae.length≤M∧∀y∈x.ae,y.js M
 runs:x.runs.length≤M∧∀y∈x.runs,y.js M
 ah:x.ah.length≤M∧∀y∈x.ah,y.js M
 paths:x.paths.length≤M∧∀y∈x.paths,y.js M
 ar:x.ar.length≤M∧∀y∈x.ar,y.js M
 aO:jV x.aO
 within:jV x.within
 cap:jV x.cap
abbrev af.Ok(x:af):Prop:=x.js maxLen
theorem qL(x:af):asAgg 9 x.pv=some ():=rfl
theorem ry(x:af):ab 4 (cell x.pv 0)=some (x.stops.map Stop.pv):=rfl
theorem rz(x:af):ab 3 (cell x.pv 1)=some (x.ae.map av.pv):=rfl
theorem rA(x:af):ab 8 (cell x.pv 2)=some (x.runs.map bx.pv):=rfl
theorem rB(x:af):ab 5 (cell x.pv 3)=some (x.ah.map aH.pv):=rfl
theorem rC(x:af):ab 4 (cell x.pv 4)=some (x.paths.map Path.pv):=rfl
theorem rD(x:af):ab 6 (cell x.pv 5)=some (x.ar.map aR.pv):=rfl
theorem rE(x:af):asInt .i64 (cell x.pv 6)=some x.aO:=rfl
theorem rF(x:af):asInt .i64 (cell x.pv 7)=some x.within:=rfl
theorem rG(x:af):asInt .i64 (cell x.pv 8)=some x.cap:=rfl
theorem yI(x:af):PV.agg [.rs 4 (x.stops.map Stop.pv),.rs 3 (x.ae.map av.pv),.rs 8 (x.runs.map bx.pv),.rs 5 (x.ah.map aH.pv),.rs 4 (x.paths.map Path.pv),.rs 6 (x.ar.map aR.pv),.int .i64 x.aO,.int .i64 x.within,.int .i64 x.cap]=x.pv:=rfl
def r3(p i e:Int):PV:=.agg [.int .i64 p,.int .i64 i,.int .i64 e]
def prt(p:Int)(x:Int×Int):PV:=if x.2=0 then r3 0 0 0 else r3 p x.1 x.2
theorem MX(p i e:Int):asAgg 3 (r3 p i e)=some ():=rfl
theorem yJ(p i e:Int):cell (r3 p i e) 0=.int .i64 p:=rfl
theorem wK(p i e:Int):cell (r3 p i e) 1=.int .i64 i:=rfl
theorem Cf(p i e:Int):cell (r3 p i e) 2=.int .i64 e:=rfl
theorem Cg(p i e:Int):aU [.int .i64 p,.int .i64 i,.int .i64 e]=some (r3 p i e):=rfl
theorem wu(n m:Int):bX [.int .i64 n,.int .i64 m]=some (.bool (decide (n≥0)&&decide (n<m))):=by simp only[bX,oR,asInt,if_true,U,dJ]
variable{R:Type}
theorem il(f:Nat→Int)(n:Nat)(g:Int→Int→R)(fin:Option R):da ((List.range n).findSome? fun k=>if f k=0 then none else some (some (g k (f k)))) fin=if(bW f n).2=0 then fin else some (g (bW f n).1 (bW f n).2):=by
 unfold bW;have:(List.range n).findSome? (fun k=>if f k=0 then none else some (some (g k (f k))))=((List.range n).findSome? (fun k=>if f k=0 then none else some ((k:Int),f k))).map fun x=>some (g x.1 x.2):=by rw[List.map_findSome?];congr 1;funext k;by_cases h:f k=0<;>simp[h]
 rw[this];cases hf:(List.range n).findSome? (fun k=>if f k=0 then none else some ((k:Int),f k))with
 |none=>rfl
 |some x=>
  obtain⟨k,_,hk⟩:=List.exists_of_findSome?_eq_some hf;have hx:x.2≠0:=by
   by_cases h0:f k=0
   ·rw[if_pos h0]at hk;cases hk
   ·rw[if_neg h0]at hk;simp only[Option.some.injEq]at hk;subst hk;exact h0
  simp only[Option.map_some,da];rw[if_neg hx]
theorem mf(f:Nat→Int)(n:Nat):(bW f n).2=0↔∀k,k<n→f k=0:=by
 unfold bW;cases hf:(List.range n).findSome? (fun k=>if f k=0 then none else some ((k:Int),f k))with
 |none=>
  simp only[true_iff];intro k hk;rw[List.findSome?_eq_none_iff]at hf;have:=hf k (by simpa using hk);by_cases h0:f k=0
  ·exact h0
  ·rw[if_neg h0]at this;cases this
 |some x=>
  obtain⟨k,hk,hx⟩:=List.exists_of_findSome?_eq_some hf;by_cases h0:f k=0
  ·rw[if_pos h0]at hx;cases hx
  ·rw[if_neg h0]at hx;simp only[Option.some.injEq]at hx;subst hx;exact⟨fun h=>absurd h h0,fun h=>absurd (h k (by simpa using hk)) h0⟩
theorem vL{S:Type}{body:S→(S→Option R)→Option R}(st:Nat→S)(n:Nat)(bad:Nat→Option (Option R)){fin:Option R}(h:∀k,k<n→(∀j,j<k→bad j=none)→∀rec,body (st k) rec=da (bad k) (rec (st (k+1))))(nc:(∀j,j<n→bad j=none)→∀rec,body (st n) rec=fin)(hn:n<rounds){s0:S}(h0:st 0=s0):cd.run body s0=da ((List.range n).findSome? bad) fin:=by
 by_cases Ai:∀j,j<n→bad j=none
 ·have:(List.range n).findSome? bad=none:=by rw[List.findSome?_eq_none_iff];intro k hk;exact Ai k (by simpa using hk)
  rw[this];refine bM st n (fun k hk rec=>?_) (nc Ai) hn h0;rw[h k hk (fun j hj=>Ai j (by omega)),Ai k hk];rfl
 ·have hex:∃m,m<n∧bad m≠none∧∀j,j<m→bad j=none:=by
   have key:∀m,(∃i,i<m∧i<n∧bad i≠none)→∃m,m<n∧bad m≠none∧∀j,j<m→bad j=none:=by
    intro m;induction m with
    |zero=>rintro⟨i,hi,_⟩;omega
    |succ m ih=>
     intro hi;by_cases hc:∃i,i<m∧i<n∧bad i≠none
     ·exact ih hc
     ·obtain⟨i,h1,h2,h3⟩:=hi;have him:i=m:=by
       by_cases h:i<m
       ·exact absurd ⟨i,h,h2,h3⟩ hc
       ·omega
      subst him;refine⟨i,h2,h3,fun j hj=>?_⟩;cases hb:bad j with
      |none=>rfl
      |some x=>exact absurd ⟨j,hj,by omega,by rw[hb];exact fun h=>nomatch h⟩ hc
   have hc:∃i,i<n∧bad i≠none:=by
    by_cases hc:∃i,i<n∧bad i≠none
    ·exact hc
    ·refine absurd (fun j hj=>?_) Ai;cases hb:bad j with
     |none=>rfl
     |some x=>exact absurd ⟨j,hj,by rw[hb];exact fun h=>nomatch h⟩ hc
   obtain⟨i,h1,h2⟩:=hc;exact key n ⟨i,h1,h1,h2⟩
  obtain⟨m,hm,hb,bt⟩:=hex;cases hbm:bad m with
  |none=>exact absurd hbm hb
  |some x=>
   have hf:(List.range n).findSome? bad=some x:=by
    have Y0:n=m+(n-m):=by omega
    rw[Y0,List.range_add,List.findSome?_append];have h1:(List.range m).findSome? bad=none:=by rw[List.findSome?_eq_none_iff];intro k hk;exact bt k (by simpa using hk)
    rw[h1,Option.none_or];have hd:n-m=(n-m-1)+1:=by omega
    rw[hd,List.range_succ_eq_map,List.map_cons,List.findSome?_cons,Nat.add_zero,hbm]
   rw[hf];refine bM st m (fun k hk rec=>?_) (fun rec=>?_) (by omega) h0
   ·rw[h k (by omega) (fun j hj=>bt j (by omega)),bt k hk];rfl
   ·rw[h m hm bt,hbm];rfl
theorem mB{A:Type}[DecidableEq A](a b:List A)(h:a.length=b.length)(no fin:Option R):da ((List.range a.length).findSome? fun k=>if a[k]?=b[k]? then none else some no) fin=if a=b then fin else no:=by
 by_cases qQ:a=b
 ·rw[if_pos qQ];have:(List.range a.length).findSome? (fun k=>if a[k]?=b[k]? then none else some no)=none:=by rw[List.findSome?_eq_none_iff];intro k _;rw[if_pos (by rw[qQ])]
  rw[this];rfl
 ·rw[if_neg qQ];cases hf:(List.range a.length).findSome? (fun k=>if a[k]?=b[k]? then none else some no)with
  |none=>
   refine absurd (List.ext_getElem? fun k=>?_) qQ;rw[List.findSome?_eq_none_iff]at hf;by_cases hk:k<a.length
   ·have:=hf k (by simpa using hk);by_cases h0:a[k]?=b[k]?
    ·exact h0
    ·rw[if_neg h0]at this;cases this
   ·rw[List.getElem?_eq_none (by omega),List.getElem?_eq_none (by omega)]
  |some x=>
   obtain⟨k,hk,hx⟩:=List.exists_of_findSome?_eq_some hf;by_cases h0:a[k]?=b[k]?
   ·rw[if_pos h0]at hx;cases hx
   ·rw[if_neg h0]at hx;simp only[Option.some.injEq]at hx;subst hx;rfl
end Go.Ab.Tt
