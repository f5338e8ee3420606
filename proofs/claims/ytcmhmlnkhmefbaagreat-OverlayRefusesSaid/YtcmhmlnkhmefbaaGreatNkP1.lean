import Derived.Test.YtcmhmlnkhmefbaaGreatTtChk0
import Derived.Test.YtcmhmlnkhmefbaaGreatSh2
namespace Go.Ab.Tt
set_option maxRecDepth 100000
set_option linter.unusedVariables false
theorem tU(s:Bytes)(hs:s.length≤maxLen):du [.str s]=some (.bool (eM s)):=by
 have hm:=aW;simp only[du,tQ,bu,U];refine(B2 s hs kE (some (.bool false)) (some (.bool (decide ((s.length:Int)>0)&&decide ((s.length:Int)≤32)))) (fun k hk rec=>?_) (fun rec=>?_)).trans ?_
 ·have h1:(k:Int)<(s.length:Int):=by omega
  simp only[oS,decide_eq_true_eq,h1,if_true,GO,List.getElem?_eq_getElem hk,U,dG,an (show k<9223372036854775807 by omega),fb];generalize s[k]=b;unfold kE;generalize (decide (97≤(b.toNat:Int))&&decide ((b.toNat:Int)≤122))=x1;generalize (decide (65≤(b.toNat:Int))&&decide ((b.toNat:Int)≤90))=x2;generalize (decide (48≤(b.toNat:Int))&&decide ((b.toNat:Int)≤57))=x3;by_cases e4:(b.toNat:Int)=45<;>by_cases e5:(b.toNat:Int)=95<;>by_cases e6:(b.toNat:Int)=46<;>cases x1<;>cases x2<;>cases x3<;>simp[e4,e5,e6]
 ·simp only[oS,decide_eq_true_eq,Int.lt_irrefl,if_false,dG,U]
 ·unfold eM;cases s.all kE with
  |true=>simp only[if_true,Bool.and_true,Option.some.injEq,PV.bool.injEq];rw[Bool.eq_iff_iff];simp only[Bool.and_eq_true,decide_eq_true_eq];omega
  |false=>simp
theorem Ov{body:Bytes×Int×Unit→(Bytes×Int×Unit→Option PV)→Option PV}(s:Bytes)(hs:s.length≤maxLen)(h:∀k,(hk:k<s.length)→∀rec,body (s,(k:Int),()) rec=if kE s[k]then rec (s,((k+1:Nat):Int),())else some (.bool false))(mW:∀rec,body (s,(s.length:Int),()) rec=some (.bool true)){c:Bool}(hc:c= !(decide (1≤s.length)&&decide (s.length≤32))):(if c=true then some (.bool false)else cd.run body (s,0,()))=some (.bool (eM s)):=by rw[B2 s hs kE _ _ h mW,hc];unfold eM;cases s.all kE<;>cases(decide (1≤s.length)&&decide (s.length≤32))<;>rfl
theorem so(s:Bytes)(hs:s.length≤maxLen):ec [.str s]=some (.bool (eM s)):=by
 have hm:=aW;simp only[ec,qB,bu,U,bm];refine Ov s hs (fun k hk rec=>?_) (fun rec=>?_) ?_
 ·have h1:(k:Int)<(s.length:Int):=by omega
  simp only[ma,decide_eq_true_eq,h1,if_true,GO,List.getElem?_eq_getElem hk,U,dG,bm,an (show k<9223372036854775807 by omega),kF];generalize s[k]=b;unfold kE;simp only[ge_iff_le];generalize (decide (97≤(b.toNat:Int))&&decide ((b.toNat:Int)≤122))=x1;generalize (decide (65≤(b.toNat:Int))&&decide ((b.toNat:Int)≤90))=x2;generalize (decide (48≤(b.toNat:Int))&&decide ((b.toNat:Int)≤57))=x3;by_cases e4:(b.toNat:Int)=45<;>by_cases e5:(b.toNat:Int)=95<;>by_cases e6:(b.toNat:Int)=46<;>cases x1<;>cases x2<;>cases x3<;>simp[e4,e5,e6]
 ·simp only[ma,decide_eq_true_eq,Int.lt_irrefl,if_false]
 ·rw[Bool.eq_iff_iff];simp only[fb,Bool.or_eq_true,Bool.not_eq_true',Bool.and_eq_false_iff,decide_eq_true_eq,decide_eq_false_iff_not];omega
def EI(l:List Stop)(k:Nat):Int:=match l[k]? with
 |none=>0
 |some x=>if eM x.id=false then 12 else if x.id∈(l.map Stop.id).take k then 6 else if(decide (x.sS<0)||decide (x.sS≥16)||decide (x.change<0)||decide (x.change>3600))=true then 2 else 0
def gM(l:List Stop):Int×Int:=if l.length>64 then(0,5)else bU (EI l) l.length
theorem Ow(l:List Stop)(hl:l.length≤maxLen∧∀y∈l,y.Ok):gH [.rs 4 (l.map Stop.pv)]=some (res (gM l).1 (gM l).2):=by
 have hm:=aW;simp only[gH,wb,ae,if_true,U,List.length_map];unfold gM;by_cases uV:l.length>64
 ·rw[if_pos (by simp;omega),if_pos uV];rfl
 ·rw[if_neg (by simp;omega),if_neg uV,←mM];refine aX (fun k=>(l.map Stop.pv,(l.length:Int),(k:Int),seen PV.str ((l.map Stop.id).take k),())) l.length _ (fun k hk rec=>?_) (fun rec=>?_) ?_ rfl
  ·have h1:(k:Int)<(l.length:Int):=by omega
   have hid:=tU l[k].id (hl.2 _ (List.getElem_mem hk)).id;have qq:=mN uW l[k].id ((l.map Stop.id).take k);have rn:=kG uW l[k].id ((l.map Stop.id).take k);simp only[qF,decide_eq_true_eq,h1,if_true,az,List.getElem?_map,List.getElem?_eq_getElem hk,Option.map_some,U,Stop.pv,cell,PV.cells,List.getD_cons_zero,List.getD_cons_succ,bu,asInt,asBool,hid,qq,rn,bm,an (show k<9223372036854775807 by omega),oT Stop.id l k hk];unfold EI;rw[List.getElem?_eq_getElem hk];simp only;generalize (decide (l[k].sS<0)||decide (l[k].sS≥16)||decide (l[k].change<0)||decide (l[k].change>3600))=c;cases eM l[k].id with
   |false=>rfl
   |true=>
    by_cases bO:l[k].id∈(l.map Stop.id).take k
    ·simp only[bO,if_true,Bool.not_true,Bool.false_eq_true,Bool.true_eq_false,if_false];rfl
    ·simp only[bO,if_true,Bool.not_true,Bool.false_eq_true,Bool.true_eq_false,if_false];cases c<;>rfl
  ·simp only[qF,decide_eq_true_eq,Int.lt_irrefl,if_false];rfl
  ·have:=aS;omega
end Go.Ab.Tt
namespace Go.Ab.Tt
set_option maxRecDepth 100000
set_option linter.unusedVariables false
set_option linter.unusedSimpArgs false
theorem B3(n a b:Int):bC [.int .i64 n,.int .i64 a,.int .i64 b]=some (.bool (decide (n≥a)&&decide (n≤b))):=by simp only[bC,B1,asInt,if_true,U,dG]
theorem EJ(x:Stop):cell x.pv 0=.str x.id:=rfl
theorem Um(x:Stop):cell x.pv 1=.int .i64 x.sS:=rfl
theorem Un(x:Stop):cell x.pv 3=.int .i64 x.change:=rfl
theorem GP{R:Type}(ids:List Bytes)(i:Nat)(hi:i<ids.length)(no fin:Option R):c9 ((List.range i).findSome? fun k=>if decide (ids[k]?=some ids[i])=true then some no else none) fin=if ids[i]∈ids.take i then no else fin:=by
 rw[pR (fun k=>decide (ids[k]?=some ids[i])) (fun _=>no)];cases hf:(List.range i).find? fun k=>decide (ids[k]?=some ids[i])with
 |none=>
  have hn:ids[i]∉ids.take i:=fun bO=>by
   obtain⟨j,hj⟩:=List.mem_iff_getElem?.1 bO;have I1:j<i:=by have:=(List.getElem?_eq_some_iff.1 hj).1;simp at this;omega
   rw[List.getElem?_take_of_lt I1]at hj;rw[List.find?_eq_none]at hf;exact hf j (by simpa using I1) (by simpa using hj)
  rw[if_neg hn];rfl
 |some j=>rw[List.find?_range_eq_some]at hf;obtain⟨h1,h2,_⟩:=hf;have bO:ids[i]∈ids.take i:=List.mem_iff_getElem?.2 ⟨j,by rw[List.getElem?_take_of_lt (by simpa using h2)];simpa using h1⟩;rw[if_pos bO];rfl
theorem GQ(l:List Stop)(hl:l.length≤maxLen)(i:Nat)(hi:i<l.length)(ff:List PV×Int×Unit→Option PV):cd.run (lj ff) (l.map Stop.pv,(i:Int),0,())=if(l.map Stop.id)[i]'(by simpa using hi)∈(l.map Stop.id).take i then some (res i 6)else if(decide (l[i].sS<0)||decide (l[i].sS≥16)||decide (l[i].change<0)||decide (l[i].change>3600))=true then some (res i 2)else ff (l.map Stop.pv,IntKind.i64.wrap ((i:Int)+1),()):=by
 have hm:=aW;have QS:(l.map Stop.pv)[i]?=some l[i].pv:=by rw[List.getElem?_map,List.getElem?_eq_getElem hi];rfl
 have Dh:i<(l.map Stop.id).length:=by simpa using hi
 have Xr:(l.map Stop.id)[i]=l[i].id:=by simp
 rw[←GP (l.map Stop.id) i Dh];refine aX (fun k=>(l.map Stop.pv,(i:Int),(k:Int),())) i (fun k=>if decide ((l.map Stop.id)[k]?=some (l.map Stop.id)[i])=true then some (some (res i 6))else none) (fun k hk rec=>?_) (fun rec=>?_) ?_ rfl
 ·have h1:decide ((k:Int)<(i:Int))=true:=by simp;omega
  have jB:k<l.length:=by omega
  have Xs:(l.map Stop.pv)[k]?=some l[k].pv:=by rw[List.getElem?_map,List.getElem?_eq_getElem jB];rfl
  have hdk:decide ((l.map Stop.id)[k]?=some (l.map Stop.id)[i])=decide (l[k].id=l[i].id):=by rw[List.getElem?_map,List.getElem?_eq_getElem jB,Xr];simp
  unfold lj;dsimp only;rw[if_pos h1,az,Xs,U,EJ,az,QS,an (by omega),hdk];simp only[bu,U,EJ,fb];cases decide (l[k].id=l[i].id)<;>rfl
 ·unfold lj;dsimp only;rw[if_neg (by simp),az,QS];simp only[U,Um,Un,asInt,if_true,B3,asBool,bm];have:(!(decide (l[i].sS≥0)&&decide (l[i].sS≤15))|| !(decide (l[i].change≥0)&&decide (l[i].change≤3600)))=(decide (l[i].sS<0)||decide (l[i].sS≥16)||decide (l[i].change<0)||decide (l[i].change>3600)):=by rw[Bool.eq_iff_iff];simp only[Bool.or_eq_true,Bool.not_eq_true',Bool.and_eq_false_iff,decide_eq_true_eq,decide_eq_false_iff_not];omega
  rw[this];cases(decide (l[i].sS<0)||decide (l[i].sS≥16)||decide (l[i].change<0)||decide (l[i].change>3600))<;>rfl
 ·have:=aS;omega
theorem Ox(l:List Stop)(hl:l.length≤maxLen∧∀y∈l,y.Ok):jD [.rs 4 (l.map Stop.pv)]=some (res (gM l).1 (gM l).2):=by
 have hm:=aW;simp only[jD,tK,ae,if_true,U,List.length_map];unfold gM;by_cases uV:l.length>64
 ·rw[if_pos (by simp;omega),if_pos uV];rfl
 ·rw[if_neg (by simp;omega),if_neg uV,←mM];refine aX (fun k=>(l.map Stop.pv,(k:Int),())) l.length _ (fun k hk rec=>?_) (fun rec=>?_) ?_ rfl
  ·have h1:decide ((k:Int)<((l.map Stop.pv).length:Int))=true:=by simp;omega
   have Xs:(l.map Stop.pv)[k]?=some l[k].pv:=by rw[List.getElem?_map,List.getElem?_eq_getElem hk];rfl
   have hid:=so l[k].id (hl.2 _ (List.getElem_mem hk)).id;have Xt:(l.map Stop.id)[k]'(by simpa using hk)=l[k].id:=by simp
   unfold oU;dsimp only;rw[if_pos h1,az,Xs,U,EJ];simp only[bu,U,hid,asBool];rw[GQ l hl.1 k hk rec,Xt,an (by omega)];unfold EI;rw[List.getElem?_eq_getElem hk];simp only;generalize (decide (l[k].sS<0)||decide (l[k].sS≥16)||decide (l[k].change<0)||decide (l[k].change>3600))=c;cases eM l[k].id with
   |false=>rfl
   |true=>
    by_cases bO:l[k].id∈(l.map Stop.id).take k
    ·simp only[bO,if_true,Bool.not_true,Bool.false_eq_true,Bool.true_eq_false,if_false];rfl
    ·simp only[bO,if_true,Bool.not_true,Bool.false_eq_true,Bool.true_eq_false,if_false];cases c<;>rfl
  ·unfold oU;dsimp only;rw[if_neg (by simp)];rfl
  ·have:=aS;omega
end Go.Ab.Tt
namespace Go.Ab.Tt
set_option maxRecDepth 100000
set_option linter.unusedVariables false
set_option linter.unusedSimpArgs false
theorem B4(x:av):cell x.pv 0=.str x.id:=rfl
theorem RA(x:av):cell x.pv 1=.int .i64 x.mode:=rfl
def B5(l:List av)(k:Nat):Int:=match l[k]? with
 |none=>0
 |some x=>if eM x.id=false then 12 else if x.id∈(l.map av.id).take k then 6 else if(decide (x.mode≥0)&&decide (x.mode<8))=false then 2 else 0
def gm(l:List av):Int×Int:=if l.length>64 then(0,5)else bU (B5 l) l.length
theorem Kj(l:List av)(hl:l.length≤maxLen∧∀y∈l,y.Ok):fS [.rs 3 (l.map av.pv)]=some (res (gm l).1 (gm l).2):=by
 have hm:=aW;simp only[fS,tN,ae,if_true,U,List.length_map];unfold gm;by_cases uV:l.length>64
 ·rw[if_pos (by simp;omega),if_pos uV];rfl
 ·rw[if_neg (by simp;omega),if_neg uV,←mM];refine aX (fun k=>(l.map av.pv,(l.length:Int),(k:Int),seen PV.str ((l.map av.id).take k),())) l.length _ (fun k hk rec=>?_) (fun rec=>?_) ?_ rfl
  ·have h1:(k:Int)<(l.length:Int):=by omega
   have hid:=tU l[k].id (hl.2 _ (List.getElem_mem hk)).id;have qq:=mN uW l[k].id ((l.map av.id).take k);have rn:=kG uW l[k].id ((l.map av.id).take k);simp only[oV,decide_eq_true_eq,h1,if_true,az,List.getElem?_map,List.getElem?_eq_getElem hk,Option.map_some,U,av.pv,cell,PV.cells,List.getD_cons_zero,List.getD_cons_succ,bu,asInt,asBool,hid,qq,rn,bm,an (show k<9223372036854775807 by omega),oT av.id l k hk,gZ,tL,dG];unfold B5;rw[List.getElem?_eq_getElem hk];simp only;generalize (decide (l[k].mode≥0)&&decide (l[k].mode<8))=c;cases eM l[k].id with
   |false=>rfl
   |true=>
    by_cases bO:l[k].id∈(l.map av.id).take k
    ·simp only[bO,if_true,Bool.not_true,Bool.false_eq_true,Bool.true_eq_false,if_false];rfl
    ·simp only[bO,if_true,Bool.not_true,Bool.false_eq_true,Bool.true_eq_false,if_false];cases c<;>rfl
  ·simp only[oV,decide_eq_true_eq,Int.lt_irrefl,if_false];rfl
  ·have:=aS;omega
theorem EK(l:List av)(hl:l.length≤maxLen)(i:Nat)(hi:i<l.length)(ff:List PV×Int×Unit→Option PV):cd.run (jS ff) (l.map av.pv,(i:Int),0,())=if(l.map av.id)[i]'(by simpa using hi)∈(l.map av.id).take i then some (res i 6)else if(decide (l[i].mode≥0)&&decide (l[i].mode<8))=false then some (res i 2)else ff (l.map av.pv,IntKind.i64.wrap ((i:Int)+1),()):=by
 have hm:=aW;have QS:(l.map av.pv)[i]?=some l[i].pv:=by rw[List.getElem?_map,List.getElem?_eq_getElem hi];rfl
 have Dh:i<(l.map av.id).length:=by simpa using hi
 have Xr:(l.map av.id)[i]=l[i].id:=by simp
 rw[←GP (l.map av.id) i Dh];refine aX (fun k=>(l.map av.pv,(i:Int),(k:Int),())) i (fun k=>if decide ((l.map av.id)[k]?=some (l.map av.id)[i])=true then some (some (res i 6))else none) (fun k hk rec=>?_) (fun rec=>?_) ?_ rfl
 ·have h1:decide ((k:Int)<(i:Int))=true:=by simp;omega
  have jB:k<l.length:=by omega
  have Xs:(l.map av.pv)[k]?=some l[k].pv:=by rw[List.getElem?_map,List.getElem?_eq_getElem jB];rfl
  have hdk:decide ((l.map av.id)[k]?=some (l.map av.id)[i])=decide (l[k].id=l[i].id):=by rw[List.getElem?_map,List.getElem?_eq_getElem jB,Xr];simp
  unfold jS;dsimp only;rw[if_pos h1,az,Xs,U,B4,az,QS,an (by omega),hdk];simp only[bu,U,B4,fb];cases decide (l[k].id=l[i].id)<;>rfl
 ·unfold jS;dsimp only;rw[if_neg (by simp),az,QS];simp only[U,RA,asInt,if_true,B3,asBool];have:(decide (l[i].mode≥0)&&decide (l[i].mode≤7))=(decide (l[i].mode≥0)&&decide (l[i].mode<8)):=by rw[Bool.eq_iff_iff];simp only[Bool.and_eq_true,decide_eq_true_eq];omega
  rw[this];cases(decide (l[i].mode≥0)&&decide (l[i].mode<8))<;>rfl
 ·have:=aS;omega
theorem Kk(l:List av)(hl:l.length≤maxLen∧∀y∈l,y.Ok):iU [.rs 3 (l.map av.pv)]=some (res (gm l).1 (gm l).2):=by
 have hm:=aW;simp only[iU,si,ae,if_true,U,List.length_map];unfold gm;by_cases uV:l.length>64
 ·rw[if_pos (by simp;omega),if_pos uV];rfl
 ·rw[if_neg (by simp;omega),if_neg uV,←mM];refine aX (fun k=>(l.map av.pv,(k:Int),())) l.length _ (fun k hk rec=>?_) (fun rec=>?_) ?_ rfl
  ·have h1:decide ((k:Int)<((l.map av.pv).length:Int))=true:=by simp;omega
   have Xs:(l.map av.pv)[k]?=some l[k].pv:=by rw[List.getElem?_map,List.getElem?_eq_getElem hk];rfl
   have hid:=so l[k].id (hl.2 _ (List.getElem_mem hk)).id;have Xt:(l.map av.id)[k]'(by simpa using hk)=l[k].id:=by simp
   unfold nm;dsimp only;rw[if_pos h1,az,Xs,U,B4];simp only[bu,U,hid,asBool];rw[EK l hl.1 k hk rec,Xt,an (by omega)];unfold B5;rw[List.getElem?_eq_getElem hk];simp only;generalize (decide (l[k].mode≥0)&&decide (l[k].mode<8))=c;cases eM l[k].id with
   |false=>rfl
   |true=>
    by_cases bO:l[k].id∈(l.map av.id).take k
    ·simp only[bO,if_true,Bool.not_true,Bool.false_eq_true,Bool.true_eq_false,if_false];rfl
    ·simp only[bO,if_true,Bool.not_true,Bool.false_eq_true,Bool.true_eq_false,if_false];cases c<;>rfl
  ·unfold nm;dsimp only;rw[if_neg (by simp)];rfl
  ·have:=aS;omega
end Go.Ab.Tt
namespace Go.Ab.Tt
set_option maxRecDepth 100000
set_option linter.unusedVariables false
set_option linter.unusedSimpArgs false
def wi(n a b:Int):Bool:=decide (n≥a)&&decide (n≤b)
theorem zw(n a b:Int):br [.int .i64 n,.int .i64 a,.int .i64 b]=some (.bool (wi n a b)):=by simp only[br,oR,asInt,if_true,U,dG];rfl
theorem Xu(x:aR):cell x.pv 0=.str x.id:=rfl
theorem aam(x:aR):cell x.pv 1=.int .i64 x.zx:=rfl
theorem aan(x:aR):cell x.pv 2=.int .i64 x.zy:=rfl
theorem aao(x:aR):cell x.pv 3=.int .i64 x.zz:=rfl
theorem aap(x:aR):cell x.pv 4=.int .i64 x.bT:=rfl
theorem aaq(x:aR):cell x.pv 5=.int .i64 x.zA:=rfl
def uX(x:aR):Bool:= !wi x.zx 0 1000000|| !wi x.zy 1 8|| !wi x.zz 1 16|| !wi x.bT 0 86400|| !wi x.zA 1 255
def EL(l:List aR)(k:Nat):Int:=match l[k]? with
 |none=>0
 |some x=>if eM x.id=false then 12 else if x.id∈(l.map aR.id).take k then 6 else if uX x=true then 2 else 0
def uY(l:List aR)(aO within cap:Int):PV:=.agg [.rs 6 (l.map aR.pv),.int .i64 aO,.int .i64 within,.int .i64 cap]
def ei(l:List aR)(aO within cap:Int):Int×Int:=if(!wi aO 0 1000000|| !wi within 0 86400|| !wi cap 0 1000000)=true then(-1,2)else if l.length>16 then(0,5)else bU (EL l) l.length
theorem Km(l:List aR)(aO within cap:Int)(hl:l.length≤maxLen∧∀y∈l,y.Ok):db [uY l aO within cap]=some (res (ei l aO within cap).1 (ei l aO within cap).2):=by
 have hm:=aW;simp only[db,qw,uY,asAgg,cell,PV.cells,List.getD_cons_zero,List.getD_cons_succ,List.length_cons,List.length_nil,Nat.reduceAdd,ae,asInt,asBool,if_true,U,List.length_map,zw,bm];unfold ei;generalize (!wi aO 0 1000000|| !wi within 0 86400|| !wi cap 0 1000000)=c;cases c with
 |true=>rfl
 |false=>
  simp only[Bool.false_eq_true,if_false];by_cases uV:l.length>16
  ·rw[if_pos (by simp;omega),if_pos uV];rfl
  ·rw[if_neg (by simp;omega),if_neg uV,←mM];refine aX (fun k=>(l.map aR.pv,(l.length:Int),(k:Int),seen PV.str ((l.map aR.id).take k),())) l.length _ (fun k hk rec=>?_) (fun rec=>?_) ?_ rfl
   ·have h1:(k:Int)<(l.length:Int):=by omega
    have hid:=tU l[k].id (hl.2 _ (List.getElem_mem hk)).id;have qq:=mN uW l[k].id ((l.map aR.id).take k);have rn:=kG uW l[k].id ((l.map aR.id).take k);simp only[mb,decide_eq_true_eq,h1,if_true,az,List.getElem?_map,List.getElem?_eq_getElem hk,Option.map_some,U,Xu,aam,aan,aao,aap,aaq,bu,asInt,asBool,hid,qq,rn,zw,bm,an (show k<9223372036854775807 by omega),oT aR.id l k hk];unfold EL;rw[List.getElem?_eq_getElem hk];have hb:(!wi l[k].zx 0 1000000|| !wi l[k].zy 1 8|| !wi l[k].zz 1 16|| !wi l[k].bT 0 86400|| !wi l[k].zA 1 255)=uX l[k]:=rfl;simp only[hb];generalize uX l[k]=c;cases eM l[k].id with
    |false=>rfl
    |true=>
     by_cases bO:l[k].id∈(l.map aR.id).take k
     ·simp only[bO,if_true,Bool.not_true,Bool.false_eq_true,Bool.true_eq_false,if_false];rfl
     ·simp only[bO,if_true,Bool.not_true,Bool.false_eq_true,Bool.true_eq_false,if_false];cases c<;>rfl
   ·simp only[mb,decide_eq_true_eq,Int.lt_irrefl,if_false];rfl
   ·have:=aS;omega
theorem VK(n a b:Int):bC [.int .i64 n,.int .i64 a,.int .i64 b]=some (.bool (wi n a b)):=B3 n a b
theorem GR(l:List aR)(hl:l.length≤maxLen)(d w c:Int)(i:Nat)(hi:i<l.length)(ff:Int×List PV×Int×Int×Int×Unit→Option PV):cd.run (lk ff) ((i:Int),0,l.map aR.pv,d,w,c,.str l[i].id,.int .i64 l[i].zx,.int .i64 l[i].zy,.int .i64 l[i].zz,.int .i64 l[i].bT,.int .i64 l[i].zA,())=if l[i].id∈(l.map aR.id).take i then some (res i 6)else if uX l[i]=true then some (res i 2)else ff (IntKind.i64.wrap ((i:Int)+1),l.map aR.pv,d,w,c,()):=by
 have hm:=aW;refine(oW (fun k=>((i:Int),(k:Int),l.map aR.pv,d,w,c,PV.str l[i].id,PV.int .i64 l[i].zx,PV.int .i64 l[i].zy,PV.int .i64 l[i].zz,PV.int .i64 l[i].bT,PV.int .i64 l[i].zA,())) i (fun k=>decide ((l.map aR.id)[k]?=some l[i].id)) (no:=some (res i 6)) (fin:=if uX l[i]=true then some (res i 2)else ff (IntKind.i64.wrap ((i:Int)+1),l.map aR.pv,d,w,c,())) (fun k hk rec=>?_) (fun rec=>?_) ?_ rfl).trans ?_
 ·have h1:(k:Int)<(i:Int):=by omega
  have jB:k<l.length:=by omega
  simp only[lk,decide_eq_true_eq,h1,if_true,az,List.getElem?_map,List.getElem?_eq_getElem jB,Option.map_some,U,Xu,bu,an (show k<9223372036854775807 by omega),fb,Option.some.injEq];rfl
 ·simp only[lk,decide_eq_true_eq,Int.lt_irrefl,if_false,U,asInt,if_true,VK,asBool,bm];rfl
 ·have:=aS;omega
 ·rw[Au _ _ (by simp;omega)];simp only[decide_eq_true_eq]
theorem Oy(l:List aR)(aO within cap:Int)(hl:l.length≤maxLen∧∀y∈l,y.Ok):jE [uY l aO within cap]=some (res (ei l aO within cap).1 (ei l aO within cap).2):=by
 have hm:=aW;simp only[jE,tS,uY,asAgg,cell,PV.cells,List.getD_cons_zero,List.getD_cons_succ,List.length_cons,List.length_nil,Nat.reduceAdd,ae,asInt,asBool,if_true,U,List.length_map,VK,bm];unfold ei;generalize (!wi aO 0 1000000|| !wi within 0 86400|| !wi cap 0 1000000)=c;cases c with
 |true=>rfl
 |false=>
  simp only[Bool.false_eq_true,if_false];by_cases uV:l.length>16
  ·rw[if_pos (by simp;omega),if_pos uV];rfl
  ·rw[if_neg (by simp;omega),if_neg uV,←mM];refine aX (fun k=>((k:Int),l.map aR.pv,aO,within,cap,())) l.length _ (fun k hk rec=>?_) (fun rec=>?_) ?_ rfl
   ·have h1:(k:Int)<(l.length:Int):=by omega
    have hid:=so l[k].id (hl.2 _ (List.getElem_mem hk)).id;have pP:=GR l hl.1 aO within cap k hk rec;simp only[oX,decide_eq_true_eq,List.length_map,h1,if_true,az,List.getElem?_map,List.getElem?_eq_getElem hk,Option.map_some,U,Xu,aam,aan,aao,aap,aaq,bu,asBool,hid,pP,an (show k<9223372036854775807 by omega)];unfold EL;rw[List.getElem?_eq_getElem hk];simp only;generalize uX l[k]=c;cases eM l[k].id with
    |false=>rfl
    |true=>
     by_cases bO:l[k].id∈(l.map aR.id).take k
     ·simp only[bO,if_true,Bool.not_true,Bool.false_eq_true,Bool.true_eq_false,if_false];rfl
     ·simp only[bO,if_true,Bool.not_true,Bool.false_eq_true,Bool.true_eq_false,if_false];cases c<;>rfl
   ·simp only[oX,decide_eq_true_eq,List.length_map,Int.lt_irrefl,if_false];rfl
   ·have:=aS;omega
end Go.Ab.Tt
namespace Go.Ab.Tt
set_option maxRecDepth 100000
set_option linter.unusedVariables false
set_option linter.unusedSimpArgs false
theorem GS(x:aw):cell x.pv 0=.int .i64 x.stop:=rfl
theorem zB(x:aw):cell x.pv 1=.int .i64 x.arr:=rfl
theorem zC(x:aw):cell x.pv 2=.int .i64 x.dep:=rfl
def iw(l:List aw):Nat→Option aw
 |0=>none
 |k+1=>l[k]?
def ll(c:aw)(p:Option aw)(stops low high:Int):Int:=
 if(decide (c.stop<0)||decide (c.stop≥stops))=true then 9
 else if(match p with|some p=>decide (p.stop=c.stop)|none=>false)=true then 13
 else if(decide (c.arr<low)||decide (c.arr>c.dep)||decide (c.dep>high)||(match p with|some p=>decide (c.arr<p.dep)|none=>false))=true then 10 else 0
def my(l:List aw)(stops low high:Int)(k:Nat):Int:=match l[k]? with
 |none=>0
 |some c=>ll c (iw l k) stops low high
def bw(l:List aw)(stops low high:Int):Int×Int:=if(decide ((l.length:Int)<2)||decide ((l.length:Int)>32))=true then(0,5)else bU (my l stops low high) l.length
theorem uZ(j:Nat)(h:j<9223372036854775807):IntKind.i64.wrap (((j+1:Nat):Int)-1)=(j:Int):=by rw[fy (by omega) (by omega)];omega
theorem GU(l:List aw)(stops low high:Int)(k:Nat)(hk:k<l.length)(hl:l.length≤maxLen):j6 [.rs 5 (l.map aw.pv),.int .i64 k,.int .i64 stops,.int .i64 low,.int .i64 high]=some (.int .i64 (my l stops low high k)):=by
 have hm:=aW;simp only[j6,B0,ae,asInt,if_true,U,az,List.getElem?_map,List.getElem?_eq_getElem hk,Option.map_some,GS,zB,zC,bm];unfold my ll;rw[List.getElem?_eq_getElem hk];simp only;cases k with
 |zero=>
  have h0:decide (((0:Nat):Int)>0)=false:=by decide
  simp only[h0,cond_false,U,bm,Bool.or_false,iw];generalize (decide (l[0].stop<0)||decide (l[0].stop≥stops))=A;generalize (decide (l[0].arr<low)||decide (l[0].arr>l[0].dep)||decide (l[0].dep>high))=B;cases A<;>cases B<;>rfl
 |succ j=>
  have h0:decide (((j+1:Nat):Int)>0)=true:=by rw[decide_eq_true_eq];omega
  have hj:j<l.length:=by omega
  simp only[h0,cond_true,U,uZ j (by omega),az,List.getElem?_map,List.getElem?_eq_getElem hj,Option.map_some,GS,zC,asInt,if_true,iw,fb,bm];generalize (decide (l[j+1].stop<0)||decide (l[j+1].stop≥stops))=A;generalize (decide (l[j+1].arr<low)||decide (l[j+1].arr>l[j+1].dep)||decide (l[j+1].dep>high))=B;generalize decide (l[j].stop=l[j+1].stop)=C;generalize decide (l[j+1].arr<l[j].dep)=D;cases A<;>cases B<;>cases C<;>cases D<;>rfl
theorem nS(l:List aw)(stops low high:Int)(hl:l.length≤maxLen):dw [.rs 5 (l.map aw.pv),.int .i64 stops,.int .i64 low,.int .i64 high]=some (res (bw l stops low high).1 (bw l stops low high).2):=by
 have hm:=aW;simp only[dw,wa,ae,asInt,if_true,U,List.length_map,bm];unfold bw;split
 ·rfl
 ·rw[←mM];refine aX (fun k=>(l.map aw.pv,stops,low,high,(l.length:Int),(k:Int),())) l.length _ (fun k hk rec=>?_) (fun rec=>?_) ?_ rfl
  ·have h1:(k:Int)<(l.length:Int):=by omega
   simp only[qG,decide_eq_true_eq,h1,if_true,GU l stops low high k hk hl,U,asInt,an (show k<9223372036854775807 by omega),kF];by_cases he:my l stops low high k=0
   ·simp[he,GV,c9]
   ·simp[he,GV,c9,res]
  ·simp only[qG,decide_eq_true_eq,Int.lt_irrefl,if_false];rfl
  ·have:=aS;omega
theorem Oz(l:List aw)(stops low high:Int)(hl:l.length≤maxLen):jF [.rs 5 (l.map aw.pv),.int .i64 stops,.int .i64 low,.int .i64 high]=some (.int .i64 (bw l stops low high).2):=by
 have hm:=aW;simp only[jF,tO,ae,asInt,if_true,U,List.length_map,bm];unfold bw;split
 ·rfl
 ·rw[←Kn];refine aX (fun k=>(l.map aw.pv,stops,low,high,(k:Int),())) l.length _ (fun k hk rec=>?_) (fun rec=>?_) ?_ rfl
  ·have h1:(k:Int)<(l.length:Int):=by omega
   simp only[oY,decide_eq_true_eq,List.length_map,h1,if_true,az,List.getElem?_map,List.getElem?_eq_getElem hk,Option.map_some,U,GS,zB,zC,asInt,bm,an (show k<9223372036854775807 by omega)];unfold my ll;rw[List.getElem?_eq_getElem hk];simp only;cases k with
   |zero=>
    have h0:decide (((0:Nat):Int)>0)=false:=by decide
    simp only[h0,cond_false,U,bm,Bool.or_false,iw];generalize (decide (l[0].stop<0)||decide (l[0].stop≥stops))=A;generalize (decide (l[0].arr<low)||decide (l[0].arr>l[0].dep)||decide (l[0].dep>high))=B;cases A<;>cases B<;>rfl
   |succ j=>
    have h0:decide (((j+1:Nat):Int)>0)=true:=by rw[decide_eq_true_eq];omega
    have hj:j<l.length:=by omega
    have hc:decide (l[j+1].stop=l[j].stop)=decide (l[j].stop=l[j+1].stop):=by rw[Bool.eq_iff_iff];simp;exact eq_comm
    simp only[h0,cond_true,U,uZ j (by omega),az,List.getElem?_map,List.getElem?_eq_getElem hj,Option.map_some,GS,zC,asInt,if_true,iw,fb,bm,hc];generalize (decide (l[j+1].stop<0)||decide (l[j+1].stop≥stops))=A;generalize (decide (l[j+1].arr<low)||decide (l[j+1].arr>l[j+1].dep)||decide (l[j+1].dep>high))=B;generalize decide (l[j].stop=l[j+1].stop)=C;generalize decide (l[j+1].arr<l[j].dep)=D;cases A<;>cases B<;>cases C<;>cases D<;>rfl
  ·simp only[oY,decide_eq_true_eq,List.length_map,Int.lt_irrefl,if_false]
  ·have:=aS;omega
end Go.Ab.Tt
namespace Go.Ab.Tt
set_option maxRecDepth 100000
set_option linter.unusedVariables false
set_option linter.unusedSimpArgs false
structure bE where
 dv:Int
 day:Int
 inst:Int
 id:Bytes
 bj:Int
 free:Bool
 qH:Bool
 calls:List aw
 deriving DecidableEq
def bE.pv(x:bE):PV:=.agg [.int .i64 x.dv,.int .i64 x.day,.int .i64 x.inst,.str x.id,.int .i64 x.bj,.bool x.free,.bool x.qH,.rs 5 (x.calls.map aw.pv)]
structure bE.jq(M:Nat)(x:bE):Prop where
 dv:jT x.dv
 day:jT x.day
 inst:jT x.inst
 id:x.id.length≤M
 bj:jT x.bj
 calls:x.calls.length≤M∧∀y∈x.calls,y.jq M
abbrev bE.Ok(x:bE):Prop:=x.jq maxLen
theorem aep(r:bE):asAgg 8 r.pv=some ():=rfl
theorem aar(r:bE):PV.agg [cell r.pv 0,cell r.pv 1,cell r.pv 2,cell r.pv 3,cell r.pv 4,cell r.pv 5,cell r.pv 6,cell r.pv 7]=r.pv:=rfl
theorem Uo(x:bE):cell x.pv 0=.int .i64 x.dv:=rfl
theorem OA(x:bE):cell x.pv 1=.int .i64 x.day:=rfl
theorem OB(x:bE):cell x.pv 2=.int .i64 x.inst:=rfl
theorem OC(x:bE):cell x.pv 3=.str x.id:=rfl
theorem Up(x:bE):cell x.pv 4=.int .i64 x.bj:=rfl
theorem Xv(x:bE):cell x.pv 5=.bool x.free:=rfl
theorem Xw(x:bE):cell x.pv 6=.bool x.qH:=rfl
theorem EM(x:bE):cell x.pv 7=.rs 5 (x.calls.map aw.pv):=rfl
structure aH where
 a:Int
 ac:Int
 b:Int
 bc:Int
 stay:Bool
 deriving DecidableEq
def aH.pv(x:aH):PV:=.agg [.int .i64 x.a,.int .i64 x.ac,.int .i64 x.b,.int .i64 x.bc,.bool x.stay]
structure aH.jq(M:Nat)(x:aH):Prop where
 a:jT x.a
 ac:jT x.ac
 b:jT x.b
 bc:jT x.bc
abbrev aH.Ok(x:aH):Prop:=x.jq maxLen
theorem DD(x:aH):cell x.pv 0=.int .i64 x.a:=rfl
theorem MH(x:aH):cell x.pv 1=.int .i64 x.ac:=rfl
theorem link2(x:aH):cell x.pv 2=.int .i64 x.b:=rfl
theorem MI(x:aH):cell x.pv 3=.int .i64 x.bc:=rfl
theorem GW(x:aH):cell x.pv 4=.bool x.stay:=rfl
theorem GX(x:Path):cell x.pv 0=.int .i64 x.a:=rfl
theorem GY(x:Path):cell x.pv 1=.int .i64 x.b:=rfl
theorem MJ(x:Path):cell x.pv 2=.int .i64 x.bT:=rfl
theorem GZ(x:Path):cell x.pv 3=.bool x.free:=rfl
structure ah where
 stops:List Stop
 ab:List av
 runs:List bE
 ai:List aH
 paths:List Path
 ar:List aR
 aO:Int
 within:Int
 cap:Int
 deriving DecidableEq
def ah.pv(x:ah):PV:=.agg [.rs 4 (x.stops.map Stop.pv),.rs 3 (x.ab.map av.pv),.rs 8 (x.runs.map bE.pv),.rs 5 (x.ai.map aH.pv),.rs 4 (x.paths.map Path.pv),.rs 6 (x.ar.map aR.pv),.int .i64 x.aO,.int .i64 x.within,.int .i64 x.cap]
structure ah.jq(M:Nat)(x:ah):Prop where
 stops:x.stops.length≤M∧∀y∈x.stops,y.jq M
 ab:x.ab.length≤M∧∀y∈x.ab,y.jq M
 runs:x.runs.length≤M∧∀y∈x.runs,y.jq M
 ai:x.ai.length≤M∧∀y∈x.ai,y.jq M
 paths:x.paths.length≤M∧∀y∈x.paths,y.jq M
 ar:x.ar.length≤M∧∀y∈x.ar,y.jq M
 aO:jT x.aO
 within:jT x.within
 cap:jT x.cap
abbrev ah.Ok(x:ah):Prop:=x.jq maxLen
theorem qI(x:ah):asAgg 9 x.pv=some ():=rfl
theorem rq(x:ah):ae 4 (cell x.pv 0)=some (x.stops.map Stop.pv):=rfl
theorem rr(x:ah):ae 3 (cell x.pv 1)=some (x.ab.map av.pv):=rfl
theorem ru(x:ah):ae 8 (cell x.pv 2)=some (x.runs.map bE.pv):=rfl
theorem ry(x:ah):ae 5 (cell x.pv 3)=some (x.ai.map aH.pv):=rfl
theorem rz(x:ah):ae 4 (cell x.pv 4)=some (x.paths.map Path.pv):=rfl
theorem rA(x:ah):ae 6 (cell x.pv 5)=some (x.ar.map aR.pv):=rfl
theorem rB(x:ah):asInt .i64 (cell x.pv 6)=some x.aO:=rfl
theorem rC(x:ah):asInt .i64 (cell x.pv 7)=some x.within:=rfl
theorem rD(x:ah):asInt .i64 (cell x.pv 8)=some x.cap:=rfl
theorem Ad(x:ah):PV.agg [.rs 4 (x.stops.map Stop.pv),.rs 3 (x.ab.map av.pv),.rs 8 (x.runs.map bE.pv),.rs 5 (x.ai.map aH.pv),.rs 4 (x.paths.map Path.pv),.rs 6 (x.ar.map aR.pv),.int .i64 x.aO,.int .i64 x.within,.int .i64 x.cap]=x.pv:=rfl
def r3(p i e:Int):PV:=.agg [.int .i64 p,.int .i64 i,.int .i64 e]
def prt(p:Int)(x:Int×Int):PV:=if x.2=0 then r3 0 0 0 else r3 p x.1 x.2
theorem MK(p i e:Int):asAgg 3 (r3 p i e)=some ():=rfl
theorem yA(p i e:Int):cell (r3 p i e) 0=.int .i64 p:=rfl
theorem wC(p i e:Int):cell (r3 p i e) 1=.int .i64 i:=rfl
theorem Ae(p i e:Int):cell (r3 p i e) 2=.int .i64 e:=rfl
theorem B6(p i e:Int):aU [.int .i64 p,.int .i64 i,.int .i64 e]=some (r3 p i e):=rfl
theorem we(n m:Int):bV [.int .i64 n,.int .i64 m]=some (.bool (decide (n≥0)&&decide (n<m))):=by simp only[bV,oO,asInt,if_true,U,dG]
variable{R:Type}
theorem hU(f:Nat→Int)(n:Nat)(g:Int→Int→R)(fin:Option R):c9 ((List.range n).findSome? fun k=>if f k=0 then none else some (some (g k (f k)))) fin=if(bU f n).2=0 then fin else some (g (bU f n).1 (bU f n).2):=by
 unfold bU;have:(List.range n).findSome? (fun k=>if f k=0 then none else some (some (g k (f k))))=((List.range n).findSome? (fun k=>if f k=0 then none else some ((k:Int),f k))).map fun x=>some (g x.1 x.2):=by rw[List.map_findSome?];congr 1;funext k;by_cases h:f k=0<;>simp[h]
 rw[this];cases hf:(List.range n).findSome? (fun k=>if f k=0 then none else some ((k:Int),f k))with
 |none=>rfl
 |some x=>
  obtain⟨k,_,hk⟩:=List.exists_of_findSome?_eq_some hf;have hx:x.2≠0:=by
   by_cases h0:f k=0
   ·rw[if_pos h0]at hk;cases hk
   ·rw[if_neg h0]at hk;simp only[Option.some.injEq]at hk;subst hk;exact h0
  simp only[Option.map_some,c9];rw[if_neg hx]
theorem mc(f:Nat→Int)(n:Nat):(bU f n).2=0↔∀k,k<n→f k=0:=by
 unfold bU;cases hf:(List.range n).findSome? (fun k=>if f k=0 then none else some ((k:Int),f k))with
 |none=>
  simp only[true_iff];intro k hk;rw[List.findSome?_eq_none_iff]at hf;have:=hf k (by simpa using hk);by_cases h0:f k=0
  ·exact h0
  ·rw[if_neg h0]at this;cases this
 |some x=>
  obtain⟨k,hk,hx⟩:=List.exists_of_findSome?_eq_some hf;by_cases h0:f k=0
  ·rw[if_pos h0]at hx;cases hx
  ·rw[if_neg h0]at hx;simp only[Option.some.injEq]at hx;subst hx;exact⟨fun h=>absurd h h0,fun h=>absurd (h k (by simpa using hk)) h0⟩
theorem vF{S:Type}{body:S→(S→Option R)→Option R}(st:Nat→S)(n:Nat)(bad:Nat→Option (Option R)){fin:Option R}(h:∀k,k<n→(∀j,j<k→bad j=none)→∀rec,body (st k) rec=c9 (bad k) (rec (st (k+1))))(mW:(∀j,j<n→bad j=none)→∀rec,body (st n) rec=fin)(hn:n<rounds){s0:S}(h0:st 0=s0):cd.run body s0=c9 ((List.range n).findSome? bad) fin:=by
 by_cases zX:∀j,j<n→bad j=none
 ·have:(List.range n).findSome? bad=none:=by rw[List.findSome?_eq_none_iff];intro k hk;exact zX k (by simpa using hk)
  rw[this];refine bL st n (fun k hk rec=>?_) (mW zX) hn h0;rw[h k hk (fun j hj=>zX j (by omega)),zX k hk];rfl
 ·have hex:∃m,m<n∧bad m≠none∧∀j,j<m→bad j=none:=by
   have key:∀m,(∃i,i<m∧i<n∧bad i≠none)→∃m,m<n∧bad m≠none∧∀j,j<m→bad j=none:=by
    intro m;induction m with
    |zero=>rintro⟨i,hi,_⟩;omega
    |succ m ih=>
     intro hi;by_cases hc:∃i,i<m∧i<n∧bad i≠none
     ·exact ih hc
     ·obtain⟨i,h1,h2,h3⟩:=hi;have him:i=m:=by
       by_cases h:i<m
       ·exact absurd ⟨i,h,h2,h3⟩ hc
       ·omega
      subst him;refine⟨i,h2,h3,fun j hj=>?_⟩;cases hb:bad j with
      |none=>rfl
      |some x=>exact absurd ⟨j,hj,by omega,by rw[hb];exact fun h=>nomatch h⟩ hc
   have hc:∃i,i<n∧bad i≠none:=by
    by_cases hc:∃i,i<n∧bad i≠none
    ·exact hc
    ·refine absurd (fun j hj=>?_) zX;cases hb:bad j with
     |none=>rfl
     |some x=>exact absurd ⟨j,hj,by rw[hb];exact fun h=>nomatch h⟩ hc
   obtain⟨i,h1,h2⟩:=hc;exact key n ⟨i,h1,h1,h2⟩
  obtain⟨m,hm,hb,bq⟩:=hex;cases Z2:bad m with
  |none=>exact absurd Z2 hb
  |some x=>
   have hf:(List.range n).findSome? bad=some x:=by
    have YC:n=m+(n-m):=by omega
    rw[YC,List.range_add,List.findSome?_append];have h1:(List.range m).findSome? bad=none:=by rw[List.findSome?_eq_none_iff];intro k hk;exact bq k (by simpa using hk)
    rw[h1,Option.none_or];have hd:n-m=(n-m-1)+1:=by omega
    rw[hd,List.range_succ_eq_map,List.map_cons,List.findSome?_cons,Nat.add_zero,Z2]
   rw[hf];refine bL st m (fun k hk rec=>?_) (fun rec=>?_) (by omega) h0
   ·rw[h k (by omega) (fun j hj=>bq j (by omega)),bq k hk];rfl
   ·rw[h m hm bq,Z2];rfl
theorem mz{A:Type}[DecidableEq A](a b:List A)(h:a.length=b.length)(no fin:Option R):c9 ((List.range a.length).findSome? fun k=>if a[k]?=b[k]? then none else some no) fin=if a=b then fin else no:=by
 by_cases qN:a=b
 ·rw[if_pos qN];have:(List.range a.length).findSome? (fun k=>if a[k]?=b[k]? then none else some no)=none:=by rw[List.findSome?_eq_none_iff];intro k _;rw[if_pos (by rw[qN])]
  rw[this];rfl
 ·rw[if_neg qN];cases hf:(List.range a.length).findSome? (fun k=>if a[k]?=b[k]? then none else some no)with
  |none=>
   refine absurd (List.ext_getElem? fun k=>?_) qN;rw[List.findSome?_eq_none_iff]at hf;by_cases hk:k<a.length
   ·have:=hf k (by simpa using hk);by_cases h0:a[k]?=b[k]?
    ·exact h0
    ·rw[if_neg h0]at this;cases this
   ·rw[List.getElem?_eq_none (by omega),List.getElem?_eq_none (by omega)]
  |some x=>
   obtain⟨k,hk,hx⟩:=List.exists_of_findSome?_eq_some hf;by_cases h0:a[k]?=b[k]?
   ·rw[if_pos h0]at hx;cases hx
   ·rw[if_neg h0]at hx;simp only[Option.some.injEq]at hx;subst hx;rfl
end Go.Ab.Tt
