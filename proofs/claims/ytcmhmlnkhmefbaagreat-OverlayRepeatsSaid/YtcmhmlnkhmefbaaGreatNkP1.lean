import Derived.Test.YtcmhmlnkhmefbaaGreatTtChk0
import Derived.Test.YtcmhmlnkhmefbaaGreatSh2
namespace Go.Ab.Tt
set_option maxRecDepth 100000
set_option linter.unusedVariables false
theorem ua(s:Bytes)(hs:s.length≤maxLen):dv [.str s]=some (.bool (eN s)):=by
 have hm:=aW;simp only[dv,tW,bx,U];refine(Ca s hs kD (some (.bool false)) (some (.bool (decide ((s.length:Int)>0)&&decide ((s.length:Int)≤32)))) (fun k hk rec=>?_) (fun rec=>?_)).trans ?_
 ·have h1:(k:Int)<(s.length:Int):=by omega
  simp only[oU,decide_eq_true_eq,h1,if_true,GW,List.getElem?_eq_getElem hk,U,dy,an (show k<9223372036854775807 by omega),fa];generalize s[k]=b;unfold kD;generalize (decide (97≤(b.toNat:Int))&&decide ((b.toNat:Int)≤122))=x1;generalize (decide (65≤(b.toNat:Int))&&decide ((b.toNat:Int)≤90))=x2;generalize (decide (48≤(b.toNat:Int))&&decide ((b.toNat:Int)≤57))=x3;by_cases e4:(b.toNat:Int)=45<;>by_cases e5:(b.toNat:Int)=95<;>by_cases e6:(b.toNat:Int)=46<;>cases x1<;>cases x2<;>cases x3<;>simp[e4,e5,e6]
 ·simp only[oU,decide_eq_true_eq,Int.lt_irrefl,if_false,dy,U]
 ·unfold eN;cases s.all kD with
  |true=>simp only[if_true,Bool.and_true,Option.some.injEq,PV.bool.injEq];rw[Bool.eq_iff_iff];simp only[Bool.and_eq_true,decide_eq_true_eq];omega
  |false=>simp
theorem OH{body:Bytes×Int×Unit→(Bytes×Int×Unit→Option PV)→Option PV}(s:Bytes)(hs:s.length≤maxLen)(h:∀k,(hk:k<s.length)→∀rec,body (s,(k:Int),()) rec=if kD s[k]then rec (s,((k+1:Nat):Int),())else some (.bool false))(mU:∀rec,body (s,(s.length:Int),()) rec=some (.bool true)){c:Bool}(hc:c= !(decide (1≤s.length)&&decide (s.length≤32))):(if c=true then some (.bool false)else cd.run body (s,0,()))=some (.bool (eN s)):=by rw[Ca s hs kD _ _ h mU,hc];unfold eN;cases s.all kD<;>cases(decide (1≤s.length)&&decide (s.length≤32))<;>rfl
theorem sw(s:Bytes)(hs:s.length≤maxLen):ef [.str s]=some (.bool (eN s)):=by
 have hm:=aW;simp only[ef,qD,bx,U,bn];refine OH s hs (fun k hk rec=>?_) (fun rec=>?_) ?_
 ·have h1:(k:Int)<(s.length:Int):=by omega
  simp only[l9,decide_eq_true_eq,h1,if_true,GW,List.getElem?_eq_getElem hk,U,dy,bn,an (show k<9223372036854775807 by omega),jC];generalize s[k]=b;unfold kD;simp only[ge_iff_le];generalize (decide (97≤(b.toNat:Int))&&decide ((b.toNat:Int)≤122))=x1;generalize (decide (65≤(b.toNat:Int))&&decide ((b.toNat:Int)≤90))=x2;generalize (decide (48≤(b.toNat:Int))&&decide ((b.toNat:Int)≤57))=x3;by_cases e4:(b.toNat:Int)=45<;>by_cases e5:(b.toNat:Int)=95<;>by_cases e6:(b.toNat:Int)=46<;>cases x1<;>cases x2<;>cases x3<;>simp[e4,e5,e6]
 ·simp only[l9,decide_eq_true_eq,Int.lt_irrefl,if_false]
 ·rw[Bool.eq_iff_iff];simp only[fa,Bool.or_eq_true,Bool.not_eq_true',Bool.and_eq_false_iff,decide_eq_true_eq,decide_eq_false_iff_not];omega
def EP(l:List Stop)(k:Nat):Int:=match l[k]? with
 |none=>0
 |some x=>if eN x.id=false then 12 else if x.id∈(l.map Stop.id).take k then 6 else if(decide (x.sW<0)||decide (x.sW≥16)||decide (x.change<0)||decide (x.change>3600))=true then 2 else 0
def gN(l:List Stop):Int×Int:=if l.length>64 then(0,5)else bV (EP l) l.length
theorem OI(l:List Stop)(hl:l.length≤maxLen∧∀y∈l,y.Ok):gI [.rs 4 (l.map Stop.pv)]=some (res (gN l).1 (gN l).2):=by
 have hm:=aW;simp only[gI,wk,ab,if_true,U,List.length_map];unfold gN;by_cases s9:l.length>64
 ·rw[if_pos (by simp;omega),if_pos s9];rfl
 ·rw[if_neg (by simp;omega),if_neg s9,←mL];refine aX (fun k=>(l.map Stop.pv,(l.length:Int),(k:Int),seen PV.str ((l.map Stop.id).take k),())) l.length _ (fun k hk rec=>?_) (fun rec=>?_) ?_ rfl
  ·have h1:(k:Int)<(l.length:Int):=by omega
   have hid:=ua l[k].id (hl.2 _ (List.getElem_mem hk)).id;have qu:=mM u7 l[k].id ((l.map Stop.id).take k);have rn:=kE u7 l[k].id ((l.map Stop.id).take k);simp only[qH,decide_eq_true_eq,h1,if_true,az,List.getElem?_map,List.getElem?_eq_getElem hk,Option.map_some,U,Stop.pv,cell,PV.cells,List.getD_cons_zero,List.getD_cons_succ,bx,asInt,asBool,hid,qu,rn,bn,an (show k<9223372036854775807 by omega),oV Stop.id l k hk];unfold EP;rw[List.getElem?_eq_getElem hk];simp only;generalize (decide (l[k].sW<0)||decide (l[k].sW≥16)||decide (l[k].change<0)||decide (l[k].change>3600))=c;cases eN l[k].id with
   |false=>rfl
   |true=>
    by_cases bO:l[k].id∈(l.map Stop.id).take k
    ·simp only[bO,if_true,Bool.not_true,Bool.false_eq_true,Bool.true_eq_false,if_false];rfl
    ·simp only[bO,if_true,Bool.not_true,Bool.false_eq_true,Bool.true_eq_false,if_false];cases c<;>rfl
  ·simp only[qH,decide_eq_true_eq,Int.lt_irrefl,if_false];rfl
  ·have:=aS;omega
end Go.Ab.Tt
namespace Go.Ab.Tt
set_option maxRecDepth 100000
set_option linter.unusedVariables false
set_option linter.unusedSimpArgs false
theorem Cb(n a b:Int):bE [.int .i64 n,.int .i64 a,.int .i64 b]=some (.bool (decide (n≥a)&&decide (n≤b))):=by simp only[bE,B9,asInt,if_true,U,dy]
theorem ER(x:Stop):cell x.pv 0=.str x.id:=rfl
theorem Ux(x:Stop):cell x.pv 1=.int .i64 x.sW:=rfl
theorem Uy(x:Stop):cell x.pv 3=.int .i64 x.change:=rfl
theorem GX{R:Type}(ids:List Bytes)(i:Nat)(hi:i<ids.length)(no fin:Option R):c9 ((List.range i).findSome? fun k=>if decide (ids[k]?=some ids[i])=true then some no else none) fin=if ids[i]∈ids.take i then no else fin:=by
 rw[pU (fun k=>decide (ids[k]?=some ids[i])) (fun _=>no)];cases hf:(List.range i).find? fun k=>decide (ids[k]?=some ids[i])with
 |none=>
  have hn:ids[i]∉ids.take i:=fun bO=>by
   obtain⟨j,hj⟩:=List.mem_iff_getElem?.1 bO;have I9:j<i:=by have:=(List.getElem?_eq_some_iff.1 hj).1;simp at this;omega
   rw[List.getElem?_take_of_lt I9]at hj;rw[List.find?_eq_none]at hf;exact hf j (by simpa using I9) (by simpa using hj)
  rw[if_neg hn];rfl
 |some j=>rw[List.find?_range_eq_some]at hf;obtain⟨h1,h2,_⟩:=hf;have bO:ids[i]∈ids.take i:=List.mem_iff_getElem?.2 ⟨j,by rw[List.getElem?_take_of_lt (by simpa using h2)];simpa using h1⟩;rw[if_pos bO];rfl
theorem GY(l:List Stop)(hl:l.length≤maxLen)(i:Nat)(hi:i<l.length)(fe:List PV×Int×Unit→Option PV):cd.run (lh fe) (l.map Stop.pv,(i:Int),0,())=if(l.map Stop.id)[i]'(by simpa using hi)∈(l.map Stop.id).take i then some (res i 6)else if(decide (l[i].sW<0)||decide (l[i].sW≥16)||decide (l[i].change<0)||decide (l[i].change>3600))=true then some (res i 2)else fe (l.map Stop.pv,IntKind.i64.wrap ((i:Int)+1),()):=by
 have hm:=aW;have Q3:(l.map Stop.pv)[i]?=some l[i].pv:=by rw[List.getElem?_map,List.getElem?_eq_getElem hi];rfl
 have Dp:i<(l.map Stop.id).length:=by simpa using hi
 have XD:(l.map Stop.id)[i]=l[i].id:=by simp
 rw[←GX (l.map Stop.id) i Dp];refine aX (fun k=>(l.map Stop.pv,(i:Int),(k:Int),())) i (fun k=>if decide ((l.map Stop.id)[k]?=some (l.map Stop.id)[i])=true then some (some (res i 6))else none) (fun k hk rec=>?_) (fun rec=>?_) ?_ rfl
 ·have h1:decide ((k:Int)<(i:Int))=true:=by simp;omega
  have jA:k<l.length:=by omega
  have XE:(l.map Stop.pv)[k]?=some l[k].pv:=by rw[List.getElem?_map,List.getElem?_eq_getElem jA];rfl
  have hdk:decide ((l.map Stop.id)[k]?=some (l.map Stop.id)[i])=decide (l[k].id=l[i].id):=by rw[List.getElem?_map,List.getElem?_eq_getElem jA,XD];simp
  unfold lh;dsimp only;rw[if_pos h1,az,XE,U,ER,az,Q3,an (by omega),hdk];simp only[bx,U,ER,fa];cases decide (l[k].id=l[i].id)<;>rfl
 ·unfold lh;dsimp only;rw[if_neg (by simp),az,Q3];simp only[U,Ux,Uy,asInt,if_true,Cb,asBool,bn];have:(!(decide (l[i].sW≥0)&&decide (l[i].sW≤15))|| !(decide (l[i].change≥0)&&decide (l[i].change≤3600)))=(decide (l[i].sW<0)||decide (l[i].sW≥16)||decide (l[i].change<0)||decide (l[i].change>3600)):=by rw[Bool.eq_iff_iff];simp only[Bool.or_eq_true,Bool.not_eq_true',Bool.and_eq_false_iff,decide_eq_true_eq,decide_eq_false_iff_not];omega
  rw[this];cases(decide (l[i].sW<0)||decide (l[i].sW≥16)||decide (l[i].change<0)||decide (l[i].change>3600))<;>rfl
 ·have:=aS;omega
theorem OJ(l:List Stop)(hl:l.length≤maxLen∧∀y∈l,y.Ok):jD [.rs 4 (l.map Stop.pv)]=some (res (gN l).1 (gN l).2):=by
 have hm:=aW;simp only[jD,tQ,ab,if_true,U,List.length_map];unfold gN;by_cases s9:l.length>64
 ·rw[if_pos (by simp;omega),if_pos s9];rfl
 ·rw[if_neg (by simp;omega),if_neg s9,←mL];refine aX (fun k=>(l.map Stop.pv,(k:Int),())) l.length _ (fun k hk rec=>?_) (fun rec=>?_) ?_ rfl
  ·have h1:decide ((k:Int)<((l.map Stop.pv).length:Int))=true:=by simp;omega
   have XE:(l.map Stop.pv)[k]?=some l[k].pv:=by rw[List.getElem?_map,List.getElem?_eq_getElem hk];rfl
   have hid:=sw l[k].id (hl.2 _ (List.getElem_mem hk)).id;have XF:(l.map Stop.id)[k]'(by simpa using hk)=l[k].id:=by simp
   unfold oW;dsimp only;rw[if_pos h1,az,XE,U,ER];simp only[bx,U,hid,asBool];rw[GY l hl.1 k hk rec,XF,an (by omega)];unfold EP;rw[List.getElem?_eq_getElem hk];simp only;generalize (decide (l[k].sW<0)||decide (l[k].sW≥16)||decide (l[k].change<0)||decide (l[k].change>3600))=c;cases eN l[k].id with
   |false=>rfl
   |true=>
    by_cases bO:l[k].id∈(l.map Stop.id).take k
    ·simp only[bO,if_true,Bool.not_true,Bool.false_eq_true,Bool.true_eq_false,if_false];rfl
    ·simp only[bO,if_true,Bool.not_true,Bool.false_eq_true,Bool.true_eq_false,if_false];cases c<;>rfl
  ·unfold oW;dsimp only;rw[if_neg (by simp)];rfl
  ·have:=aS;omega
end Go.Ab.Tt
namespace Go.Ab.Tt
set_option maxRecDepth 100000
set_option linter.unusedVariables false
set_option linter.unusedSimpArgs false
theorem Cc(x:av):cell x.pv 0=.str x.id:=rfl
theorem RM(x:av):cell x.pv 1=.int .i64 x.mode:=rfl
def Cd(l:List av)(k:Nat):Int:=match l[k]? with
 |none=>0
 |some x=>if eN x.id=false then 12 else if x.id∈(l.map av.id).take k then 6 else if(decide (x.mode≥0)&&decide (x.mode<8))=false then 2 else 0
def fp(l:List av):Int×Int:=if l.length>64 then(0,5)else bV (Cd l) l.length
theorem Ks(l:List av)(hl:l.length≤maxLen∧∀y∈l,y.Ok):fS [.rs 3 (l.map av.pv)]=some (res (fp l).1 (fp l).2):=by
 have hm:=aW;simp only[fS,tT,ab,if_true,U,List.length_map];unfold fp;by_cases s9:l.length>64
 ·rw[if_pos (by simp;omega),if_pos s9];rfl
 ·rw[if_neg (by simp;omega),if_neg s9,←mL];refine aX (fun k=>(l.map av.pv,(l.length:Int),(k:Int),seen PV.str ((l.map av.id).take k),())) l.length _ (fun k hk rec=>?_) (fun rec=>?_) ?_ rfl
  ·have h1:(k:Int)<(l.length:Int):=by omega
   have hid:=ua l[k].id (hl.2 _ (List.getElem_mem hk)).id;have qu:=mM u7 l[k].id ((l.map av.id).take k);have rn:=kE u7 l[k].id ((l.map av.id).take k);simp only[oX,decide_eq_true_eq,h1,if_true,az,List.getElem?_map,List.getElem?_eq_getElem hk,Option.map_some,U,av.pv,cell,PV.cells,List.getD_cons_zero,List.getD_cons_succ,bx,asInt,asBool,hid,qu,rn,bn,an (show k<9223372036854775807 by omega),oV av.id l k hk,hT,tR,dy];unfold Cd;rw[List.getElem?_eq_getElem hk];simp only;generalize (decide (l[k].mode≥0)&&decide (l[k].mode<8))=c;cases eN l[k].id with
   |false=>rfl
   |true=>
    by_cases bO:l[k].id∈(l.map av.id).take k
    ·simp only[bO,if_true,Bool.not_true,Bool.false_eq_true,Bool.true_eq_false,if_false];rfl
    ·simp only[bO,if_true,Bool.not_true,Bool.false_eq_true,Bool.true_eq_false,if_false];cases c<;>rfl
  ·simp only[oX,decide_eq_true_eq,Int.lt_irrefl,if_false];rfl
  ·have:=aS;omega
theorem ES(l:List av)(hl:l.length≤maxLen)(i:Nat)(hi:i<l.length)(fe:List PV×Int×Unit→Option PV):cd.run (jS fe) (l.map av.pv,(i:Int),0,())=if(l.map av.id)[i]'(by simpa using hi)∈(l.map av.id).take i then some (res i 6)else if(decide (l[i].mode≥0)&&decide (l[i].mode<8))=false then some (res i 2)else fe (l.map av.pv,IntKind.i64.wrap ((i:Int)+1),()):=by
 have hm:=aW;have Q3:(l.map av.pv)[i]?=some l[i].pv:=by rw[List.getElem?_map,List.getElem?_eq_getElem hi];rfl
 have Dp:i<(l.map av.id).length:=by simpa using hi
 have XD:(l.map av.id)[i]=l[i].id:=by simp
 rw[←GX (l.map av.id) i Dp];refine aX (fun k=>(l.map av.pv,(i:Int),(k:Int),())) i (fun k=>if decide ((l.map av.id)[k]?=some (l.map av.id)[i])=true then some (some (res i 6))else none) (fun k hk rec=>?_) (fun rec=>?_) ?_ rfl
 ·have h1:decide ((k:Int)<(i:Int))=true:=by simp;omega
  have jA:k<l.length:=by omega
  have XE:(l.map av.pv)[k]?=some l[k].pv:=by rw[List.getElem?_map,List.getElem?_eq_getElem jA];rfl
  have hdk:decide ((l.map av.id)[k]?=some (l.map av.id)[i])=decide (l[k].id=l[i].id):=by rw[List.getElem?_map,List.getElem?_eq_getElem jA,XD];simp
  unfold jS;dsimp only;rw[if_pos h1,az,XE,U,Cc,az,Q3,an (by omega),hdk];simp only[bx,U,Cc,fa];cases decide (l[k].id=l[i].id)<;>rfl
 ·unfold jS;dsimp only;rw[if_neg (by simp),az,Q3];simp only[U,RM,asInt,if_true,Cb,asBool];have:(decide (l[i].mode≥0)&&decide (l[i].mode≤7))=(decide (l[i].mode≥0)&&decide (l[i].mode<8)):=by rw[Bool.eq_iff_iff];simp only[Bool.and_eq_true,decide_eq_true_eq];omega
  rw[this];cases(decide (l[i].mode≥0)&&decide (l[i].mode<8))<;>rfl
 ·have:=aS;omega
theorem Kt(l:List av)(hl:l.length≤maxLen∧∀y∈l,y.Ok):iU [.rs 3 (l.map av.pv)]=some (res (fp l).1 (fp l).2):=by
 have hm:=aW;simp only[iU,sn,ab,if_true,U,List.length_map];unfold fp;by_cases s9:l.length>64
 ·rw[if_pos (by simp;omega),if_pos s9];rfl
 ·rw[if_neg (by simp;omega),if_neg s9,←mL];refine aX (fun k=>(l.map av.pv,(k:Int),())) l.length _ (fun k hk rec=>?_) (fun rec=>?_) ?_ rfl
  ·have h1:decide ((k:Int)<((l.map av.pv).length:Int))=true:=by simp;omega
   have XE:(l.map av.pv)[k]?=some l[k].pv:=by rw[List.getElem?_map,List.getElem?_eq_getElem hk];rfl
   have hid:=sw l[k].id (hl.2 _ (List.getElem_mem hk)).id;have XF:(l.map av.id)[k]'(by simpa using hk)=l[k].id:=by simp
   unfold nj;dsimp only;rw[if_pos h1,az,XE,U,Cc];simp only[bx,U,hid,asBool];rw[ES l hl.1 k hk rec,XF,an (by omega)];unfold Cd;rw[List.getElem?_eq_getElem hk];simp only;generalize (decide (l[k].mode≥0)&&decide (l[k].mode<8))=c;cases eN l[k].id with
   |false=>rfl
   |true=>
    by_cases bO:l[k].id∈(l.map av.id).take k
    ·simp only[bO,if_true,Bool.not_true,Bool.false_eq_true,Bool.true_eq_false,if_false];rfl
    ·simp only[bO,if_true,Bool.not_true,Bool.false_eq_true,Bool.true_eq_false,if_false];cases c<;>rfl
  ·unfold nj;dsimp only;rw[if_neg (by simp)];rfl
  ·have:=aS;omega
end Go.Ab.Tt
namespace Go.Ab.Tt
set_option maxRecDepth 100000
set_option linter.unusedVariables false
set_option linter.unusedSimpArgs false
def wi(n a b:Int):Bool:=decide (n≥a)&&decide (n≤b)
theorem zC(n a b:Int):bt [.int .i64 n,.int .i64 a,.int .i64 b]=some (.bool (wi n a b)):=by simp only[bt,oT,asInt,if_true,U,dy];rfl
theorem XG(x:aR):cell x.pv 0=.str x.id:=rfl
theorem aat(x:aR):cell x.pv 1=.int .i64 x.zD:=rfl
theorem aau(x:aR):cell x.pv 2=.int .i64 x.zF:=rfl
theorem aav(x:aR):cell x.pv 3=.int .i64 x.zG:=rfl
theorem aaw(x:aR):cell x.pv 4=.int .i64 x.bT:=rfl
theorem aax(x:aR):cell x.pv 5=.int .i64 x.zH:=rfl
def u9(x:aR):Bool:= !wi x.zD 0 1000000|| !wi x.zF 1 8|| !wi x.zG 1 16|| !wi x.bT 0 86400|| !wi x.zH 1 255
def ET(l:List aR)(k:Nat):Int:=match l[k]? with
 |none=>0
 |some x=>if eN x.id=false then 12 else if x.id∈(l.map aR.id).take k then 6 else if u9 x=true then 2 else 0
def va(l:List aR)(aO within cap:Int):PV:=.agg [.rs 6 (l.map aR.pv),.int .i64 aO,.int .i64 within,.int .i64 cap]
def dI(l:List aR)(aO within cap:Int):Int×Int:=if(!wi aO 0 1000000|| !wi within 0 86400|| !wi cap 0 1000000)=true then(-1,2)else if l.length>16 then(0,5)else bV (ET l) l.length
theorem Ku(l:List aR)(aO within cap:Int)(hl:l.length≤maxLen∧∀y∈l,y.Ok):dc [va l aO within cap]=some (res (dI l aO within cap).1 (dI l aO within cap).2):=by
 have hm:=aW;simp only[dc,qy,va,asAgg,cell,PV.cells,List.getD_cons_zero,List.getD_cons_succ,List.length_cons,List.length_nil,Nat.reduceAdd,ab,asInt,asBool,if_true,U,List.length_map,zC,bn];unfold dI;generalize (!wi aO 0 1000000|| !wi within 0 86400|| !wi cap 0 1000000)=c;cases c with
 |true=>rfl
 |false=>
  simp only[Bool.false_eq_true,if_false];by_cases s9:l.length>16
  ·rw[if_pos (by simp;omega),if_pos s9];rfl
  ·rw[if_neg (by simp;omega),if_neg s9,←mL];refine aX (fun k=>(l.map aR.pv,(l.length:Int),(k:Int),seen PV.str ((l.map aR.id).take k),())) l.length _ (fun k hk rec=>?_) (fun rec=>?_) ?_ rfl
   ·have h1:(k:Int)<(l.length:Int):=by omega
    have hid:=ua l[k].id (hl.2 _ (List.getElem_mem hk)).id;have qu:=mM u7 l[k].id ((l.map aR.id).take k);have rn:=kE u7 l[k].id ((l.map aR.id).take k);simp only[ma,decide_eq_true_eq,h1,if_true,az,List.getElem?_map,List.getElem?_eq_getElem hk,Option.map_some,U,XG,aat,aau,aav,aaw,aax,bx,asInt,asBool,hid,qu,rn,zC,bn,an (show k<9223372036854775807 by omega),oV aR.id l k hk];unfold ET;rw[List.getElem?_eq_getElem hk];have hb:(!wi l[k].zD 0 1000000|| !wi l[k].zF 1 8|| !wi l[k].zG 1 16|| !wi l[k].bT 0 86400|| !wi l[k].zH 1 255)=u9 l[k]:=rfl;simp only[hb];generalize u9 l[k]=c;cases eN l[k].id with
    |false=>rfl
    |true=>
     by_cases bO:l[k].id∈(l.map aR.id).take k
     ·simp only[bO,if_true,Bool.not_true,Bool.false_eq_true,Bool.true_eq_false,if_false];rfl
     ·simp only[bO,if_true,Bool.not_true,Bool.false_eq_true,Bool.true_eq_false,if_false];cases c<;>rfl
   ·simp only[ma,decide_eq_true_eq,Int.lt_irrefl,if_false];rfl
   ·have:=aS;omega
theorem VW(n a b:Int):bE [.int .i64 n,.int .i64 a,.int .i64 b]=some (.bool (wi n a b)):=Cb n a b
theorem GZ(l:List aR)(hl:l.length≤maxLen)(d w c:Int)(i:Nat)(hi:i<l.length)(fe:Int×List PV×Int×Int×Int×Unit→Option PV):cd.run (lj fe) ((i:Int),0,l.map aR.pv,d,w,c,.str l[i].id,.int .i64 l[i].zD,.int .i64 l[i].zF,.int .i64 l[i].zG,.int .i64 l[i].bT,.int .i64 l[i].zH,())=if l[i].id∈(l.map aR.id).take i then some (res i 6)else if u9 l[i]=true then some (res i 2)else fe (IntKind.i64.wrap ((i:Int)+1),l.map aR.pv,d,w,c,()):=by
 have hm:=aW;refine(oY (fun k=>((i:Int),(k:Int),l.map aR.pv,d,w,c,PV.str l[i].id,PV.int .i64 l[i].zD,PV.int .i64 l[i].zF,PV.int .i64 l[i].zG,PV.int .i64 l[i].bT,PV.int .i64 l[i].zH,())) i (fun k=>decide ((l.map aR.id)[k]?=some l[i].id)) (no:=some (res i 6)) (fin:=if u9 l[i]=true then some (res i 2)else fe (IntKind.i64.wrap ((i:Int)+1),l.map aR.pv,d,w,c,())) (fun k hk rec=>?_) (fun rec=>?_) ?_ rfl).trans ?_
 ·have h1:(k:Int)<(i:Int):=by omega
  have jA:k<l.length:=by omega
  simp only[lj,decide_eq_true_eq,h1,if_true,az,List.getElem?_map,List.getElem?_eq_getElem jA,Option.map_some,U,XG,bx,an (show k<9223372036854775807 by omega),fa,Option.some.injEq];rfl
 ·simp only[lj,decide_eq_true_eq,Int.lt_irrefl,if_false,U,asInt,if_true,VW,asBool,bn];rfl
 ·have:=aS;omega
 ·rw[AE _ _ (by simp;omega)];simp only[decide_eq_true_eq]
theorem OK(l:List aR)(aO within cap:Int)(hl:l.length≤maxLen∧∀y∈l,y.Ok):jE [va l aO within cap]=some (res (dI l aO within cap).1 (dI l aO within cap).2):=by
 have hm:=aW;simp only[jE,tY,va,asAgg,cell,PV.cells,List.getD_cons_zero,List.getD_cons_succ,List.length_cons,List.length_nil,Nat.reduceAdd,ab,asInt,asBool,if_true,U,List.length_map,VW,bn];unfold dI;generalize (!wi aO 0 1000000|| !wi within 0 86400|| !wi cap 0 1000000)=c;cases c with
 |true=>rfl
 |false=>
  simp only[Bool.false_eq_true,if_false];by_cases s9:l.length>16
  ·rw[if_pos (by simp;omega),if_pos s9];rfl
  ·rw[if_neg (by simp;omega),if_neg s9,←mL];refine aX (fun k=>((k:Int),l.map aR.pv,aO,within,cap,())) l.length _ (fun k hk rec=>?_) (fun rec=>?_) ?_ rfl
   ·have h1:(k:Int)<(l.length:Int):=by omega
    have hid:=sw l[k].id (hl.2 _ (List.getElem_mem hk)).id;have pS:=GZ l hl.1 aO within cap k hk rec;simp only[oZ,decide_eq_true_eq,List.length_map,h1,if_true,az,List.getElem?_map,List.getElem?_eq_getElem hk,Option.map_some,U,XG,aat,aau,aav,aaw,aax,bx,asBool,hid,pS,an (show k<9223372036854775807 by omega)];unfold ET;rw[List.getElem?_eq_getElem hk];simp only;generalize u9 l[k]=c;cases eN l[k].id with
    |false=>rfl
    |true=>
     by_cases bO:l[k].id∈(l.map aR.id).take k
     ·simp only[bO,if_true,Bool.not_true,Bool.false_eq_true,Bool.true_eq_false,if_false];rfl
     ·simp only[bO,if_true,Bool.not_true,Bool.false_eq_true,Bool.true_eq_false,if_false];cases c<;>rfl
   ·simp only[oZ,decide_eq_true_eq,List.length_map,Int.lt_irrefl,if_false];rfl
   ·have:=aS;omega
end Go.Ab.Tt
namespace Go.Ab.Tt
set_option maxRecDepth 100000
set_option linter.unusedVariables false
set_option linter.unusedSimpArgs false
theorem G0(x:aw):cell x.pv 0=.int .i64 x.stop:=rfl
theorem zI(x:aw):cell x.pv 1=.int .i64 x.arr:=rfl
theorem zJ(x:aw):cell x.pv 2=.int .i64 x.dep:=rfl
def iy(l:List aw):Nat→Option aw
 |0=>none
 |k+1=>l[k]?
def lk(c:aw)(p:Option aw)(stops low high:Int):Int:=
 if(decide (c.stop<0)||decide (c.stop≥stops))=true then 9
 else if(match p with|some p=>decide (p.stop=c.stop)|none=>false)=true then 13
 else if(decide (c.arr<low)||decide (c.arr>c.dep)||decide (c.dep>high)||(match p with|some p=>decide (c.arr<p.dep)|none=>false))=true then 10 else 0
def mw(l:List aw)(stops low high:Int)(k:Nat):Int:=match l[k]? with
 |none=>0
 |some c=>lk c (iy l k) stops low high
def bu(l:List aw)(stops low high:Int):Int×Int:=if(decide ((l.length:Int)<2)||decide ((l.length:Int)>32))=true then(0,5)else bV (mw l stops low high) l.length
theorem vb(j:Nat)(h:j<9223372036854775807):IntKind.i64.wrap (((j+1:Nat):Int)-1)=(j:Int):=by rw[fy (by omega) (by omega)];omega
theorem G1(l:List aw)(stops low high:Int)(k:Nat)(hk:k<l.length)(hl:l.length≤maxLen):j6 [.rs 5 (l.map aw.pv),.int .i64 k,.int .i64 stops,.int .i64 low,.int .i64 high]=some (.int .i64 (mw l stops low high k)):=by
 have hm:=aW;simp only[j6,B8,ab,asInt,if_true,U,az,List.getElem?_map,List.getElem?_eq_getElem hk,Option.map_some,G0,zI,zJ,bn];unfold mw lk;rw[List.getElem?_eq_getElem hk];simp only;cases k with
 |zero=>
  have h0:decide (((0:Nat):Int)>0)=false:=by decide
  simp only[h0,cond_false,U,bn,Bool.or_false,iy];generalize (decide (l[0].stop<0)||decide (l[0].stop≥stops))=A;generalize (decide (l[0].arr<low)||decide (l[0].arr>l[0].dep)||decide (l[0].dep>high))=B;cases A<;>cases B<;>rfl
 |succ j=>
  have h0:decide (((j+1:Nat):Int)>0)=true:=by rw[decide_eq_true_eq];omega
  have hj:j<l.length:=by omega
  simp only[h0,cond_true,U,vb j (by omega),az,List.getElem?_map,List.getElem?_eq_getElem hj,Option.map_some,G0,zJ,asInt,if_true,iy,fa,bn];generalize (decide (l[j+1].stop<0)||decide (l[j+1].stop≥stops))=A;generalize (decide (l[j+1].arr<low)||decide (l[j+1].arr>l[j+1].dep)||decide (l[j+1].dep>high))=B;generalize decide (l[j].stop=l[j+1].stop)=C;generalize decide (l[j+1].arr<l[j].dep)=D;cases A<;>cases B<;>cases C<;>cases D<;>rfl
theorem nU(l:List aw)(stops low high:Int)(hl:l.length≤maxLen):dx [.rs 5 (l.map aw.pv),.int .i64 stops,.int .i64 low,.int .i64 high]=some (res (bu l stops low high).1 (bu l stops low high).2):=by
 have hm:=aW;simp only[dx,wj,ab,asInt,if_true,U,List.length_map,bn];unfold bu;split
 ·rfl
 ·rw[←mL];refine aX (fun k=>(l.map aw.pv,stops,low,high,(l.length:Int),(k:Int),())) l.length _ (fun k hk rec=>?_) (fun rec=>?_) ?_ rfl
  ·have h1:(k:Int)<(l.length:Int):=by omega
   simp only[qI,decide_eq_true_eq,h1,if_true,G1 l stops low high k hk hl,U,asInt,an (show k<9223372036854775807 by omega),jC];by_cases he:mw l stops low high k=0
   ·simp[he,G2,c9]
   ·simp[he,G2,c9,res]
  ·simp only[qI,decide_eq_true_eq,Int.lt_irrefl,if_false];rfl
  ·have:=aS;omega
theorem OL(l:List aw)(stops low high:Int)(hl:l.length≤maxLen):jF [.rs 5 (l.map aw.pv),.int .i64 stops,.int .i64 low,.int .i64 high]=some (.int .i64 (bu l stops low high).2):=by
 have hm:=aW;simp only[jF,tU,ab,asInt,if_true,U,List.length_map,bn];unfold bu;split
 ·rfl
 ·rw[←Kv];refine aX (fun k=>(l.map aw.pv,stops,low,high,(k:Int),())) l.length _ (fun k hk rec=>?_) (fun rec=>?_) ?_ rfl
  ·have h1:(k:Int)<(l.length:Int):=by omega
   simp only[pc,decide_eq_true_eq,List.length_map,h1,if_true,az,List.getElem?_map,List.getElem?_eq_getElem hk,Option.map_some,U,G0,zI,zJ,asInt,bn,an (show k<9223372036854775807 by omega)];unfold mw lk;rw[List.getElem?_eq_getElem hk];simp only;cases k with
   |zero=>
    have h0:decide (((0:Nat):Int)>0)=false:=by decide
    simp only[h0,cond_false,U,bn,Bool.or_false,iy];generalize (decide (l[0].stop<0)||decide (l[0].stop≥stops))=A;generalize (decide (l[0].arr<low)||decide (l[0].arr>l[0].dep)||decide (l[0].dep>high))=B;cases A<;>cases B<;>rfl
   |succ j=>
    have h0:decide (((j+1:Nat):Int)>0)=true:=by rw[decide_eq_true_eq];omega
    have hj:j<l.length:=by omega
    have hc:decide (l[j+1].stop=l[j].stop)=decide (l[j].stop=l[j+1].stop):=by rw[Bool.eq_iff_iff];simp;exact eq_comm
    simp only[h0,cond_true,U,vb j (by omega),az,List.getElem?_map,List.getElem?_eq_getElem hj,Option.map_some,G0,zJ,asInt,if_true,iy,fa,bn,hc];generalize (decide (l[j+1].stop<0)||decide (l[j+1].stop≥stops))=A;generalize (decide (l[j+1].arr<low)||decide (l[j+1].arr>l[j+1].dep)||decide (l[j+1].dep>high))=B;generalize decide (l[j].stop=l[j+1].stop)=C;generalize decide (l[j+1].arr<l[j].dep)=D;cases A<;>cases B<;>cases C<;>cases D<;>rfl
  ·simp only[pc,decide_eq_true_eq,List.length_map,Int.lt_irrefl,if_false]
  ·have:=aS;omega
end Go.Ab.Tt
namespace Go.Ab.Tt
set_option maxRecDepth 100000
set_option linter.unusedVariables false
set_option linter.unusedSimpArgs false
structure bA where
 dw:Int
 day:Int
 inst:Int
 id:Bytes
 bk:Int
 free:Bool
 nF:Bool
 calls:List aw
 deriving DecidableEq
def bA.pv(x:bA):PV:=.agg [.int .i64 x.dw,.int .i64 x.day,.int .i64 x.inst,.str x.id,.int .i64 x.bk,.bool x.free,.bool x.nF,.rs 5 (x.calls.map aw.pv)]
structure bA.jo(M:Nat)(x:bA):Prop where
 dw:jT x.dw
 day:jT x.day
 inst:jT x.inst
 id:x.id.length≤M
 bk:jT x.bk
 calls:x.calls.length≤M∧∀y∈x.calls,y.jo M
abbrev bA.Ok(x:bA):Prop:=x.jo maxLen
theorem aev(r:bA):asAgg 8 r.pv=some ():=rfl
theorem aay(r:bA):PV.agg [cell r.pv 0,cell r.pv 1,cell r.pv 2,cell r.pv 3,cell r.pv 4,cell r.pv 5,cell r.pv 6,cell r.pv 7]=r.pv:=rfl
theorem Uz(x:bA):cell x.pv 0=.int .i64 x.dw:=rfl
theorem OM(x:bA):cell x.pv 1=.int .i64 x.day:=rfl
theorem ON(x:bA):cell x.pv 2=.int .i64 x.inst:=rfl
theorem OO(x:bA):cell x.pv 3=.str x.id:=rfl
theorem UA(x:bA):cell x.pv 4=.int .i64 x.bk:=rfl
theorem XH(x:bA):cell x.pv 5=.bool x.free:=rfl
theorem XI(x:bA):cell x.pv 6=.bool x.nF:=rfl
theorem EU(x:bA):cell x.pv 7=.rs 5 (x.calls.map aw.pv):=rfl
structure aH where
 a:Int
 ac:Int
 b:Int
 bc:Int
 stay:Bool
 deriving DecidableEq
def aH.pv(x:aH):PV:=.agg [.int .i64 x.a,.int .i64 x.ac,.int .i64 x.b,.int .i64 x.bc,.bool x.stay]
structure aH.jo(M:Nat)(x:aH):Prop where
 a:jT x.a
 ac:jT x.ac
 b:jT x.b
 bc:jT x.bc
abbrev aH.Ok(x:aH):Prop:=x.jo maxLen
theorem DL(x:aH):cell x.pv 0=.int .i64 x.a:=rfl
theorem MR(x:aH):cell x.pv 1=.int .i64 x.ac:=rfl
theorem link2(x:aH):cell x.pv 2=.int .i64 x.b:=rfl
theorem MS(x:aH):cell x.pv 3=.int .i64 x.bc:=rfl
theorem G3(x:aH):cell x.pv 4=.bool x.stay:=rfl
theorem G4(x:Path):cell x.pv 0=.int .i64 x.a:=rfl
theorem G5(x:Path):cell x.pv 1=.int .i64 x.b:=rfl
theorem MT(x:Path):cell x.pv 2=.int .i64 x.bT:=rfl
theorem G6(x:Path):cell x.pv 3=.bool x.free:=rfl
structure ag where
 stops:List Stop
 ae:List av
 runs:List bA
 ah:List aH
 paths:List Path
 ar:List aR
 aO:Int
 within:Int
 cap:Int
 deriving DecidableEq
def ag.pv(x:ag):PV:=.agg [.rs 4 (x.stops.map Stop.pv),.rs 3 (x.ae.map av.pv),.rs 8 (x.runs.map bA.pv),.rs 5 (x.ah.map aH.pv),.rs 4 (x.paths.map Path.pv),.rs 6 (x.ar.map aR.pv),.int .i64 x.aO,.int .i64 x.within,.int .i64 x.cap]
structure ag.jo(M:Nat)(x:ag):Prop where
 stops:x.stops.length≤M∧∀y∈x.stops,y.jo M
 ae:x.ae.length≤M∧∀y∈x.ae,y.jo M
 runs:x.runs.length≤M∧∀y∈x.runs,y.jo M
 ah:x.ah.length≤M∧∀y∈x.ah,y.jo M
 paths:x.paths.length≤M∧∀y∈x.paths,y.jo M
 ar:x.ar.length≤M∧∀y∈x.ar,y.jo M
 aO:jT x.aO
 within:jT x.within
 cap:jT x.cap
abbrev ag.Ok(x:ag):Prop:=x.jo maxLen
theorem pD(x:ag):asAgg 9 x.pv=some ():=rfl
theorem rq(x:ag):ab 4 (cell x.pv 0)=some (x.stops.map Stop.pv):=rfl
theorem rr(x:ag):ab 3 (cell x.pv 1)=some (x.ae.map av.pv):=rfl
theorem ru(x:ag):ab 8 (cell x.pv 2)=some (x.runs.map bA.pv):=rfl
theorem ry(x:ag):ab 5 (cell x.pv 3)=some (x.ah.map aH.pv):=rfl
theorem rz(x:ag):ab 4 (cell x.pv 4)=some (x.paths.map Path.pv):=rfl
theorem rA(x:ag):ab 6 (cell x.pv 5)=some (x.ar.map aR.pv):=rfl
theorem rB(x:ag):asInt .i64 (cell x.pv 6)=some x.aO:=rfl
theorem rC(x:ag):asInt .i64 (cell x.pv 7)=some x.within:=rfl
theorem rD(x:ag):asInt .i64 (cell x.pv 8)=some x.cap:=rfl
theorem yF(x:ag):PV.agg [.rs 4 (x.stops.map Stop.pv),.rs 3 (x.ae.map av.pv),.rs 8 (x.runs.map bA.pv),.rs 5 (x.ah.map aH.pv),.rs 4 (x.paths.map Path.pv),.rs 6 (x.ar.map aR.pv),.int .i64 x.aO,.int .i64 x.within,.int .i64 x.cap]=x.pv:=rfl
def r3(p i e:Int):PV:=.agg [.int .i64 p,.int .i64 i,.int .i64 e]
def prt(p:Int)(x:Int×Int):PV:=if x.2=0 then r3 0 0 0 else r3 p x.1 x.2
theorem MU(p i e:Int):asAgg 3 (r3 p i e)=some ():=rfl
theorem xn(p i e:Int):cell (r3 p i e) 0=.int .i64 p:=rfl
theorem wI(p i e:Int):cell (r3 p i e) 1=.int .i64 i:=rfl
theorem Al(p i e:Int):cell (r3 p i e) 2=.int .i64 e:=rfl
theorem Ce(p i e:Int):aU [.int .i64 p,.int .i64 i,.int .i64 e]=some (r3 p i e):=rfl
theorem wm(n m:Int):bW [.int .i64 n,.int .i64 m]=some (.bool (decide (n≥0)&&decide (n<m))):=by simp only[bW,oQ,asInt,if_true,U,dy]
variable{R:Type}
theorem hZ(f:Nat→Int)(n:Nat)(g:Int→Int→R)(fin:Option R):c9 ((List.range n).findSome? fun k=>if f k=0 then none else some (some (g k (f k)))) fin=if(bV f n).2=0 then fin else some (g (bV f n).1 (bV f n).2):=by
 unfold bV;have:(List.range n).findSome? (fun k=>if f k=0 then none else some (some (g k (f k))))=((List.range n).findSome? (fun k=>if f k=0 then none else some ((k:Int),f k))).map fun x=>some (g x.1 x.2):=by rw[List.map_findSome?];congr 1;funext k;by_cases h:f k=0<;>simp[h]
 rw[this];cases hf:(List.range n).findSome? (fun k=>if f k=0 then none else some ((k:Int),f k))with
 |none=>rfl
 |some x=>
  obtain⟨k,_,hk⟩:=List.exists_of_findSome?_eq_some hf;have hx:x.2≠0:=by
   by_cases h0:f k=0
   ·rw[if_pos h0]at hk;cases hk
   ·rw[if_neg h0]at hk;simp only[Option.some.injEq]at hk;subst hk;exact h0
  simp only[Option.map_some,c9];rw[if_neg hx]
theorem mb(f:Nat→Int)(n:Nat):(bV f n).2=0↔∀k,k<n→f k=0:=by
 unfold bV;cases hf:(List.range n).findSome? (fun k=>if f k=0 then none else some ((k:Int),f k))with
 |none=>
  simp only[true_iff];intro k hk;rw[List.findSome?_eq_none_iff]at hf;have:=hf k (by simpa using hk);by_cases h0:f k=0
  ·exact h0
  ·rw[if_neg h0]at this;cases this
 |some x=>
  obtain⟨k,hk,hx⟩:=List.exists_of_findSome?_eq_some hf;by_cases h0:f k=0
  ·rw[if_pos h0]at hx;cases hx
  ·rw[if_neg h0]at hx;simp only[Option.some.injEq]at hx;subst hx;exact⟨fun h=>absurd h h0,fun h=>absurd (h k (by simpa using hk)) h0⟩
theorem vK{S:Type}{body:S→(S→Option R)→Option R}(st:Nat→S)(n:Nat)(bad:Nat→Option (Option R)){fin:Option R}(h:∀k,k<n→(∀j,j<k→bad j=none)→∀rec,body (st k) rec=c9 (bad k) (rec (st (k+1))))(mU:(∀j,j<n→bad j=none)→∀rec,body (st n) rec=fin)(hn:n<rounds){s0:S}(h0:st 0=s0):cd.run body s0=c9 ((List.range n).findSome? bad) fin:=by
 by_cases Ag:∀j,j<n→bad j=none
 ·have:(List.range n).findSome? bad=none:=by rw[List.findSome?_eq_none_iff];intro k hk;exact Ag k (by simpa using hk)
  rw[this];refine bL st n (fun k hk rec=>?_) (mU Ag) hn h0;rw[h k hk (fun j hj=>Ag j (by omega)),Ag k hk];rfl
 ·have hex:∃m,m<n∧bad m≠none∧∀j,j<m→bad j=none:=by
   have key:∀m,(∃i,i<m∧i<n∧bad i≠none)→∃m,m<n∧bad m≠none∧∀j,j<m→bad j=none:=by
    intro m;induction m with
    |zero=>rintro⟨i,hi,_⟩;omega
    |succ m ih=>
     intro hi;by_cases hc:∃i,i<m∧i<n∧bad i≠none
     ·exact ih hc
     ·obtain⟨i,h1,h2,h3⟩:=hi;have him:i=m:=by
       by_cases h:i<m
       ·exact absurd ⟨i,h,h2,h3⟩ hc
       ·omega
      subst him;refine⟨i,h2,h3,fun j hj=>?_⟩;cases hb:bad j with
      |none=>rfl
      |some x=>exact absurd ⟨j,hj,by omega,by rw[hb];exact fun h=>nomatch h⟩ hc
   have hc:∃i,i<n∧bad i≠none:=by
    by_cases hc:∃i,i<n∧bad i≠none
    ·exact hc
    ·refine absurd (fun j hj=>?_) Ag;cases hb:bad j with
     |none=>rfl
     |some x=>exact absurd ⟨j,hj,by rw[hb];exact fun h=>nomatch h⟩ hc
   obtain⟨i,h1,h2⟩:=hc;exact key n ⟨i,h1,h1,h2⟩
  obtain⟨m,hm,hb,br⟩:=hex;cases hbm:bad m with
  |none=>exact absurd hbm hb
  |some x=>
   have hf:(List.range n).findSome? bad=some x:=by
    have YQ:n=m+(n-m):=by omega
    rw[YQ,List.range_add,List.findSome?_append];have h1:(List.range m).findSome? bad=none:=by rw[List.findSome?_eq_none_iff];intro k hk;exact br k (by simpa using hk)
    rw[h1,Option.none_or];have hd:n-m=(n-m-1)+1:=by omega
    rw[hd,List.range_succ_eq_map,List.map_cons,List.findSome?_cons,Nat.add_zero,hbm]
   rw[hf];refine bL st m (fun k hk rec=>?_) (fun rec=>?_) (by omega) h0
   ·rw[h k (by omega) (fun j hj=>br j (by omega)),br k hk];rfl
   ·rw[h m hm br,hbm];rfl
theorem my{A:Type}[DecidableEq A](a b:List A)(h:a.length=b.length)(no fin:Option R):c9 ((List.range a.length).findSome? fun k=>if a[k]?=b[k]? then none else some no) fin=if a=b then fin else no:=by
 by_cases qN:a=b
 ·rw[if_pos qN];have:(List.range a.length).findSome? (fun k=>if a[k]?=b[k]? then none else some no)=none:=by rw[List.findSome?_eq_none_iff];intro k _;rw[if_pos (by rw[qN])]
  rw[this];rfl
 ·rw[if_neg qN];cases hf:(List.range a.length).findSome? (fun k=>if a[k]?=b[k]? then none else some no)with
  |none=>
   refine absurd (List.ext_getElem? fun k=>?_) qN;rw[List.findSome?_eq_none_iff]at hf;by_cases hk:k<a.length
   ·have:=hf k (by simpa using hk);by_cases h0:a[k]?=b[k]?
    ·exact h0
    ·rw[if_neg h0]at this;cases this
   ·rw[List.getElem?_eq_none (by omega),List.getElem?_eq_none (by omega)]
  |some x=>
   obtain⟨k,hk,hx⟩:=List.exists_of_findSome?_eq_some hf;by_cases h0:a[k]?=b[k]?
   ·rw[if_pos h0]at hx;cases hx
   ·rw[if_neg h0]at hx;simp only[Option.some.injEq]at hx;subst hx;rfl
end Go.Ab.Tt
