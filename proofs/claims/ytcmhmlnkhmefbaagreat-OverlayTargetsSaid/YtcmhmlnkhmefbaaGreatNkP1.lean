import Derived.Test.YtcmhmlnkhmefbaaGreatTtChk0
import Derived.Test.YtcmhmlnkhmefbaaGreatSh2
namespace Go.Ab.Tt
set_option maxRecDepth 100000
set_option linter.unusedVariables false
theorem tz(s:Bytes)(hs:s.length≤maxLen):du [.str s]=some (.bool (eM s)):=by
 have hm:=bg;simp only[du,tu,bx,U];refine(Bx s hs kq (some (.bool false)) (some (.bool (decide ((s.length:Int)>0)&&decide ((s.length:Int)≤32)))) (fun k hk rec=>?_) (fun rec=>?_)).trans ?_
 ·have h1:(k:Int)<(s.length:Int):=by omega
  simp only[oC,decide_eq_true_eq,h1,if_true,Gl,List.getElem?_eq_getElem hk,U,dP,ao (show k<9223372036854775807 by omega),fa];generalize s[k]=b;unfold kq;generalize (decide (97≤(b.toNat:Int))&&decide ((b.toNat:Int)≤122))=x1;generalize (decide (65≤(b.toNat:Int))&&decide ((b.toNat:Int)≤90))=x2;generalize (decide (48≤(b.toNat:Int))&&decide ((b.toNat:Int)≤57))=x3;by_cases e4:(b.toNat:Int)=45<;>by_cases e5:(b.toNat:Int)=95<;>by_cases e6:(b.toNat:Int)=46<;>cases x1<;>cases x2<;>cases x3<;>simp[e4,e5,e6]
 ·simp only[oC,decide_eq_true_eq,Int.lt_irrefl,if_false,dP,U]
 ·unfold eM;cases s.all kq with
  |true=>simp only[if_true,Bool.and_true,Option.some.injEq,PV.bool.injEq];rw[Bool.eq_iff_iff];simp only[Bool.and_eq_true,decide_eq_true_eq];omega
  |false=>simp
theorem NO{body:Bytes×Int×Unit→(Bytes×Int×Unit→Option PV)→Option PV}(s:Bytes)(hs:s.length≤maxLen)(h:∀k,(hk:k<s.length)→∀rec,body (s,(k:Int),()) rec=if kq s[k]then rec (s,((k+1:Nat):Int),())else some (.bool false))(mG:∀rec,body (s,(s.length:Int),()) rec=some (.bool true)){c:Bool}(hc:c= !(decide (1≤s.length)&&decide (s.length≤32))):(if c=true then some (.bool false)else cF.run body (s,0,()))=some (.bool (eM s)):=by rw[Bx s hs kq _ _ h mG,hc];unfold eM;cases s.all kq<;>cases(decide (1≤s.length)&&decide (s.length≤32))<;>rfl
theorem rG(s:Bytes)(hs:s.length≤maxLen):dZ [.str s]=some (.bool (eM s)):=by
 have hm:=bg;simp only[dZ,qd,bx,U,bu];refine NO s hs (fun k hk rec=>?_) (fun rec=>?_) ?_
 ·have h1:(k:Int)<(s.length:Int):=by omega
  simp only[lS,decide_eq_true_eq,h1,if_true,Gl,List.getElem?_eq_getElem hk,U,dP,bu,ao (show k<9223372036854775807 by omega),lF];generalize s[k]=b;unfold kq;simp only[ge_iff_le];generalize (decide (97≤(b.toNat:Int))&&decide ((b.toNat:Int)≤122))=x1;generalize (decide (65≤(b.toNat:Int))&&decide ((b.toNat:Int)≤90))=x2;generalize (decide (48≤(b.toNat:Int))&&decide ((b.toNat:Int)≤57))=x3;by_cases e4:(b.toNat:Int)=45<;>by_cases e5:(b.toNat:Int)=95<;>by_cases e6:(b.toNat:Int)=46<;>cases x1<;>cases x2<;>cases x3<;>simp[e4,e5,e6]
 ·simp only[lS,decide_eq_true_eq,Int.lt_irrefl,if_false]
 ·rw[Bool.eq_iff_iff];simp only[fa,Bool.or_eq_true,Bool.not_eq_true',Bool.and_eq_false_iff,decide_eq_true_eq,decide_eq_false_iff_not];omega
def Eh(l:List Stop)(k:Nat):Int:=match l[k]? with
 |none=>0
 |some x=>if eM x.id=false then 12 else if x.id∈(l.map Stop.id).take k then 6 else if(decide (x.sw<0)||decide (x.sw≥16)||decide (x.change<0)||decide (x.change>3600))=true then 2 else 0
def gC(l:List Stop):Int×Int:=if l.length>64 then(0,5)else bS (Eh l) l.length
theorem NP(l:List Stop)(hl:l.length≤maxLen∧∀y∈l,y.Ok):gx [.rs 4 (l.map Stop.pv)]=some (res (gC l).1 (gC l).2):=by
 have hm:=bg;simp only[gx,vF,ab,if_true,U,List.length_map];unfold gC;by_cases sA:l.length>64
 ·rw[if_pos (by simp;omega),if_pos sA];rfl
 ·rw[if_neg (by simp;omega),if_neg sA,←mw];refine bn (fun k=>(l.map Stop.pv,(l.length:Int),(k:Int),seen PV.str ((l.map Stop.id).take k),())) l.length _ (fun k hk rec=>?_) (fun rec=>?_) ?_ rfl
  ·have h1:(k:Int)<(l.length:Int):=by omega
   have hid:=tz l[k].id (hl.2 _ (List.getElem_mem hk)).id;have pR:=my ur l[k].id ((l.map Stop.id).take k);have qL:=kr ur l[k].id ((l.map Stop.id).take k);simp only[qg,decide_eq_true_eq,h1,if_true,aK,List.getElem?_map,List.getElem?_eq_getElem hk,Option.map_some,U,Stop.pv,cell,PV.cells,List.getD_cons_zero,List.getD_cons_succ,bx,asInt,asBool,hid,pR,qL,bu,ao (show k<9223372036854775807 by omega),oD Stop.id l k hk];unfold Eh;rw[List.getElem?_eq_getElem hk];simp only;generalize (decide (l[k].sw<0)||decide (l[k].sw≥16)||decide (l[k].change<0)||decide (l[k].change>3600))=c;cases eM l[k].id with
   |false=>rfl
   |true=>
    by_cases bN:l[k].id∈(l.map Stop.id).take k
    ·simp only[bN,if_true,Bool.not_true,Bool.false_eq_true,Bool.true_eq_false,if_false];rfl
    ·simp only[bN,if_true,Bool.not_true,Bool.false_eq_true,Bool.true_eq_false,if_false];cases c<;>rfl
  ·simp only[qg,decide_eq_true_eq,Int.lt_irrefl,if_false];rfl
  ·have:=aU;omega
end Go.Ab.Tt
namespace Go.Ab.Tt
set_option maxRecDepth 100000
set_option linter.unusedVariables false
set_option linter.unusedSimpArgs false
theorem Bz(n a b:Int):bC [.int .i64 n,.int .i64 a,.int .i64 b]=some (.bool (decide (n≥a)&&decide (n≤b))):=by simp only[bC,Bw,asInt,if_true,U,dP]
theorem Ei(x:Stop):cell x.pv 0=.str x.id:=rfl
theorem Tv(x:Stop):cell x.pv 1=.int .i64 x.sw:=rfl
theorem Tw(x:Stop):cell x.pv 3=.int .i64 x.change:=rfl
theorem Gm{R:Type}(ids:List Bytes)(i:Nat)(hi:i<ids.length)(no fin:Option R):eQ ((List.range i).findSome? fun k=>if decide (ids[k]?=some ids[i])=true then some no else none) fin=if ids[i]∈ids.take i then no else fin:=by
 rw[pz (fun k=>decide (ids[k]?=some ids[i])) (fun _=>no)];cases hf:(List.range i).find? fun k=>decide (ids[k]?=some ids[i])with
 |none=>
  have hn:ids[i]∉ids.take i:=fun bN=>by
   obtain⟨j,hj⟩:=List.mem_iff_getElem?.1 bN;have Iv:j<i:=by have:=(List.getElem?_eq_some_iff.1 hj).1;simp at this;omega
   rw[List.getElem?_take_of_lt Iv]at hj;rw[List.find?_eq_none]at hf;exact hf j (by simpa using Iv) (by simpa using hj)
  rw[if_neg hn];rfl
 |some j=>rw[List.find?_range_eq_some]at hf;obtain⟨h1,h2,_⟩:=hf;have bN:ids[i]∈ids.take i:=List.mem_iff_getElem?.2 ⟨j,by rw[List.getElem?_take_of_lt (by simpa using h2)];simpa using h1⟩;rw[if_pos bN];rfl
theorem Gn(l:List Stop)(hl:l.length≤maxLen)(i:Nat)(hi:i<l.length)(fb:List PV×Int×Unit→Option PV):cF.run (kV fb) (l.map Stop.pv,(i:Int),0,())=if(l.map Stop.id)[i]'(by simpa using hi)∈(l.map Stop.id).take i then some (res i 6)else if(decide (l[i].sw<0)||decide (l[i].sw≥16)||decide (l[i].change<0)||decide (l[i].change>3600))=true then some (res i 2)else fb (l.map Stop.pv,IntKind.i64.wrap ((i:Int)+1),()):=by
 have hm:=bg;have Qb:(l.map Stop.pv)[i]?=some l[i].pv:=by rw[List.getElem?_map,List.getElem?_eq_getElem hi];rfl
 have CO:i<(l.map Stop.id).length:=by simpa using hi
 have Wu:(l.map Stop.id)[i]=l[i].id:=by simp
 rw[←Gm (l.map Stop.id) i CO];refine bn (fun k=>(l.map Stop.pv,(i:Int),(k:Int),())) i (fun k=>if decide ((l.map Stop.id)[k]?=some (l.map Stop.id)[i])=true then some (some (res i 6))else none) (fun k hk rec=>?_) (fun rec=>?_) ?_ rfl
 ·have h1:decide ((k:Int)<(i:Int))=true:=by simp;omega
  have mM:k<l.length:=by omega
  have Wv:(l.map Stop.pv)[k]?=some l[k].pv:=by rw[List.getElem?_map,List.getElem?_eq_getElem mM];rfl
  have hdk:decide ((l.map Stop.id)[k]?=some (l.map Stop.id)[i])=decide (l[k].id=l[i].id):=by rw[List.getElem?_map,List.getElem?_eq_getElem mM,Wu];simp
  unfold kV;dsimp only;rw[if_pos h1,aK,Wv,U,Ei,aK,Qb,ao (by omega),hdk];simp only[bx,U,Ei,fa];cases decide (l[k].id=l[i].id)<;>rfl
 ·unfold kV;dsimp only;rw[if_neg (by simp),aK,Qb];simp only[U,Tv,Tw,asInt,if_true,Bz,asBool,bu];have:(!(decide (l[i].sw≥0)&&decide (l[i].sw≤15))|| !(decide (l[i].change≥0)&&decide (l[i].change≤3600)))=(decide (l[i].sw<0)||decide (l[i].sw≥16)||decide (l[i].change<0)||decide (l[i].change>3600)):=by rw[Bool.eq_iff_iff];simp only[Bool.or_eq_true,Bool.not_eq_true',Bool.and_eq_false_iff,decide_eq_true_eq,decide_eq_false_iff_not];omega
  rw[this];cases(decide (l[i].sw<0)||decide (l[i].sw≥16)||decide (l[i].change<0)||decide (l[i].change>3600))<;>rfl
 ·have:=aU;omega
theorem NQ(l:List Stop)(hl:l.length≤maxLen∧∀y∈l,y.Ok):jr [.rs 4 (l.map Stop.pv)]=some (res (gC l).1 (gC l).2):=by
 have hm:=bg;simp only[jr,tl,ab,if_true,U,List.length_map];unfold gC;by_cases sA:l.length>64
 ·rw[if_pos (by simp;omega),if_pos sA];rfl
 ·rw[if_neg (by simp;omega),if_neg sA,←mw];refine bn (fun k=>(l.map Stop.pv,(k:Int),())) l.length _ (fun k hk rec=>?_) (fun rec=>?_) ?_ rfl
  ·have h1:decide ((k:Int)<((l.map Stop.pv).length:Int))=true:=by simp;omega
   have Wv:(l.map Stop.pv)[k]?=some l[k].pv:=by rw[List.getElem?_map,List.getElem?_eq_getElem hk];rfl
   have hid:=rG l[k].id (hl.2 _ (List.getElem_mem hk)).id;have Ww:(l.map Stop.id)[k]'(by simpa using hk)=l[k].id:=by simp
   unfold oE;dsimp only;rw[if_pos h1,aK,Wv,U,Ei];simp only[bx,U,hid,asBool];rw[Gn l hl.1 k hk rec,Ww,ao (by omega)];unfold Eh;rw[List.getElem?_eq_getElem hk];simp only;generalize (decide (l[k].sw<0)||decide (l[k].sw≥16)||decide (l[k].change<0)||decide (l[k].change>3600))=c;cases eM l[k].id with
   |false=>rfl
   |true=>
    by_cases bN:l[k].id∈(l.map Stop.id).take k
    ·simp only[bN,if_true,Bool.not_true,Bool.false_eq_true,Bool.true_eq_false,if_false];rfl
    ·simp only[bN,if_true,Bool.not_true,Bool.false_eq_true,Bool.true_eq_false,if_false];cases c<;>rfl
  ·unfold oE;dsimp only;rw[if_neg (by simp)];rfl
  ·have:=aU;omega
end Go.Ab.Tt
namespace Go.Ab.Tt
set_option maxRecDepth 100000
set_option linter.unusedVariables false
set_option linter.unusedSimpArgs false
theorem BA(x:aF):cell x.pv 0=.str x.id:=rfl
theorem QQ(x:aF):cell x.pv 1=.int .i64 x.mode:=rfl
def BB(l:List aF)(k:Nat):Int:=match l[k]? with
 |none=>0
 |some x=>if eM x.id=false then 12 else if x.id∈(l.map aF.id).take k then 6 else if(decide (x.mode≥0)&&decide (x.mode<8))=false then 2 else 0
def fm(l:List aF):Int×Int:=if l.length>64 then(0,5)else bS (BB l) l.length
theorem JN(l:List aF)(hl:l.length≤maxLen∧∀y∈l,y.Ok):fO [.rs 3 (l.map aF.pv)]=some (res (fm l).1 (fm l).2):=by
 have hm:=bg;simp only[fO,tq,ab,if_true,U,List.length_map];unfold fm;by_cases sA:l.length>64
 ·rw[if_pos (by simp;omega),if_pos sA];rfl
 ·rw[if_neg (by simp;omega),if_neg sA,←mw];refine bn (fun k=>(l.map aF.pv,(l.length:Int),(k:Int),seen PV.str ((l.map aF.id).take k),())) l.length _ (fun k hk rec=>?_) (fun rec=>?_) ?_ rfl
  ·have h1:(k:Int)<(l.length:Int):=by omega
   have hid:=tz l[k].id (hl.2 _ (List.getElem_mem hk)).id;have pR:=my ur l[k].id ((l.map aF.id).take k);have qL:=kr ur l[k].id ((l.map aF.id).take k);simp only[oF,decide_eq_true_eq,h1,if_true,aK,List.getElem?_map,List.getElem?_eq_getElem hk,Option.map_some,U,aF.pv,cell,PV.cells,List.getD_cons_zero,List.getD_cons_succ,bx,asInt,asBool,hid,pR,qL,bu,ao (show k<9223372036854775807 by omega),oD aF.id l k hk,gN,tn,dP];unfold BB;rw[List.getElem?_eq_getElem hk];simp only;generalize (decide (l[k].mode≥0)&&decide (l[k].mode<8))=c;cases eM l[k].id with
   |false=>rfl
   |true=>
    by_cases bN:l[k].id∈(l.map aF.id).take k
    ·simp only[bN,if_true,Bool.not_true,Bool.false_eq_true,Bool.true_eq_false,if_false];rfl
    ·simp only[bN,if_true,Bool.not_true,Bool.false_eq_true,Bool.true_eq_false,if_false];cases c<;>rfl
  ·simp only[oF,decide_eq_true_eq,Int.lt_irrefl,if_false];rfl
  ·have:=aU;omega
theorem Ej(l:List aF)(hl:l.length≤maxLen)(i:Nat)(hi:i<l.length)(fb:List PV×Int×Unit→Option PV):cF.run (jI fb) (l.map aF.pv,(i:Int),0,())=if(l.map aF.id)[i]'(by simpa using hi)∈(l.map aF.id).take i then some (res i 6)else if(decide (l[i].mode≥0)&&decide (l[i].mode<8))=false then some (res i 2)else fb (l.map aF.pv,IntKind.i64.wrap ((i:Int)+1),()):=by
 have hm:=bg;have Qb:(l.map aF.pv)[i]?=some l[i].pv:=by rw[List.getElem?_map,List.getElem?_eq_getElem hi];rfl
 have CO:i<(l.map aF.id).length:=by simpa using hi
 have Wu:(l.map aF.id)[i]=l[i].id:=by simp
 rw[←Gm (l.map aF.id) i CO];refine bn (fun k=>(l.map aF.pv,(i:Int),(k:Int),())) i (fun k=>if decide ((l.map aF.id)[k]?=some (l.map aF.id)[i])=true then some (some (res i 6))else none) (fun k hk rec=>?_) (fun rec=>?_) ?_ rfl
 ·have h1:decide ((k:Int)<(i:Int))=true:=by simp;omega
  have mM:k<l.length:=by omega
  have Wv:(l.map aF.pv)[k]?=some l[k].pv:=by rw[List.getElem?_map,List.getElem?_eq_getElem mM];rfl
  have hdk:decide ((l.map aF.id)[k]?=some (l.map aF.id)[i])=decide (l[k].id=l[i].id):=by rw[List.getElem?_map,List.getElem?_eq_getElem mM,Wu];simp
  unfold jI;dsimp only;rw[if_pos h1,aK,Wv,U,BA,aK,Qb,ao (by omega),hdk];simp only[bx,U,BA,fa];cases decide (l[k].id=l[i].id)<;>rfl
 ·unfold jI;dsimp only;rw[if_neg (by simp),aK,Qb];simp only[U,QQ,asInt,if_true,Bz,asBool];have:(decide (l[i].mode≥0)&&decide (l[i].mode≤7))=(decide (l[i].mode≥0)&&decide (l[i].mode<8)):=by rw[Bool.eq_iff_iff];simp only[Bool.and_eq_true,decide_eq_true_eq];omega
  rw[this];cases(decide (l[i].mode≥0)&&decide (l[i].mode<8))<;>rfl
 ·have:=aU;omega
theorem JO(l:List aF)(hl:l.length≤maxLen∧∀y∈l,y.Ok):iH [.rs 3 (l.map aF.pv)]=some (res (fm l).1 (fm l).2):=by
 have hm:=bg;simp only[iH,rB,ab,if_true,U,List.length_map];unfold fm;by_cases sA:l.length>64
 ·rw[if_pos (by simp;omega),if_pos sA];rfl
 ·rw[if_neg (by simp;omega),if_neg sA,←mw];refine bn (fun k=>(l.map aF.pv,(k:Int),())) l.length _ (fun k hk rec=>?_) (fun rec=>?_) ?_ rfl
  ·have h1:decide ((k:Int)<((l.map aF.pv).length:Int))=true:=by simp;omega
   have Wv:(l.map aF.pv)[k]?=some l[k].pv:=by rw[List.getElem?_map,List.getElem?_eq_getElem hk];rfl
   have hid:=rG l[k].id (hl.2 _ (List.getElem_mem hk)).id;have Ww:(l.map aF.id)[k]'(by simpa using hk)=l[k].id:=by simp
   unfold mT;dsimp only;rw[if_pos h1,aK,Wv,U,BA];simp only[bx,U,hid,asBool];rw[Ej l hl.1 k hk rec,Ww,ao (by omega)];unfold BB;rw[List.getElem?_eq_getElem hk];simp only;generalize (decide (l[k].mode≥0)&&decide (l[k].mode<8))=c;cases eM l[k].id with
   |false=>rfl
   |true=>
    by_cases bN:l[k].id∈(l.map aF.id).take k
    ·simp only[bN,if_true,Bool.not_true,Bool.false_eq_true,Bool.true_eq_false,if_false];rfl
    ·simp only[bN,if_true,Bool.not_true,Bool.false_eq_true,Bool.true_eq_false,if_false];cases c<;>rfl
  ·unfold mT;dsimp only;rw[if_neg (by simp)];rfl
  ·have:=aU;omega
end Go.Ab.Tt
namespace Go.Ab.Tt
set_option maxRecDepth 100000
set_option linter.unusedVariables false
set_option linter.unusedSimpArgs false
def wi(n a b:Int):Bool:=decide (n≥a)&&decide (n≤b)
theorem y0(n a b:Int):bq [.int .i64 n,.int .i64 a,.int .i64 b]=some (.bool (wi n a b)):=by simp only[bq,oB,asInt,if_true,U,dP];rfl
theorem Wx(x:aZ):cell x.pv 0=.str x.id:=rfl
theorem ZI(x:aZ):cell x.pv 1=.int .i64 x.y4:=rfl
theorem ZJ(x:aZ):cell x.pv 2=.int .i64 x.y5:=rfl
theorem ZK(x:aZ):cell x.pv 3=.int .i64 x.y6:=rfl
theorem ZL(x:aZ):cell x.pv 4=.int .i64 x.bP:=rfl
theorem ZM(x:aZ):cell x.pv 5=.int .i64 x.y7:=rfl
def uu(x:aZ):Bool:= !wi x.y4 0 1000000|| !wi x.y5 1 8|| !wi x.y6 1 16|| !wi x.bP 0 86400|| !wi x.y7 1 255
def Ek(l:List aZ)(k:Nat):Int:=match l[k]? with
 |none=>0
 |some x=>if eM x.id=false then 12 else if x.id∈(l.map aZ.id).take k then 6 else if uu x=true then 2 else 0
def uv(l:List aZ)(bd within cap:Int):PV:=.agg [.rs 6 (l.map aZ.pv),.int .i64 bd,.int .i64 within,.int .i64 cap]
def dF(l:List aZ)(bd within cap:Int):Int×Int:=if(!wi bd 0 1000000|| !wi within 0 86400|| !wi cap 0 1000000)=true then(-1,2)else if l.length>16 then(0,5)else bS (Ek l) l.length
theorem JP(l:List aZ)(bd within cap:Int)(hl:l.length≤maxLen∧∀y∈l,y.Ok):db [uv l bd within cap]=some (res (dF l bd within cap).1 (dF l bd within cap).2):=by
 have hm:=bg;simp only[db,pV,uv,asAgg,cell,PV.cells,List.getD_cons_zero,List.getD_cons_succ,List.length_cons,List.length_nil,Nat.reduceAdd,ab,asInt,asBool,if_true,U,List.length_map,y0,bu];unfold dF;generalize (!wi bd 0 1000000|| !wi within 0 86400|| !wi cap 0 1000000)=c;cases c with
 |true=>rfl
 |false=>
  simp only[Bool.false_eq_true,if_false];by_cases sA:l.length>16
  ·rw[if_pos (by simp;omega),if_pos sA];rfl
  ·rw[if_neg (by simp;omega),if_neg sA,←mw];refine bn (fun k=>(l.map aZ.pv,(l.length:Int),(k:Int),seen PV.str ((l.map aZ.id).take k),())) l.length _ (fun k hk rec=>?_) (fun rec=>?_) ?_ rfl
   ·have h1:(k:Int)<(l.length:Int):=by omega
    have hid:=tz l[k].id (hl.2 _ (List.getElem_mem hk)).id;have pR:=my ur l[k].id ((l.map aZ.id).take k);have qL:=kr ur l[k].id ((l.map aZ.id).take k);simp only[lT,decide_eq_true_eq,h1,if_true,aK,List.getElem?_map,List.getElem?_eq_getElem hk,Option.map_some,U,Wx,ZI,ZJ,ZK,ZL,ZM,bx,asInt,asBool,hid,pR,qL,y0,bu,ao (show k<9223372036854775807 by omega),oD aZ.id l k hk];unfold Ek;rw[List.getElem?_eq_getElem hk];have hb:(!wi l[k].y4 0 1000000|| !wi l[k].y5 1 8|| !wi l[k].y6 1 16|| !wi l[k].bP 0 86400|| !wi l[k].y7 1 255)=uu l[k]:=rfl;simp only[hb];generalize uu l[k]=c;cases eM l[k].id with
    |false=>rfl
    |true=>
     by_cases bN:l[k].id∈(l.map aZ.id).take k
     ·simp only[bN,if_true,Bool.not_true,Bool.false_eq_true,Bool.true_eq_false,if_false];rfl
     ·simp only[bN,if_true,Bool.not_true,Bool.false_eq_true,Bool.true_eq_false,if_false];cases c<;>rfl
   ·simp only[lT,decide_eq_true_eq,Int.lt_irrefl,if_false];rfl
   ·have:=aU;omega
theorem UO(n a b:Int):bC [.int .i64 n,.int .i64 a,.int .i64 b]=some (.bool (wi n a b)):=Bz n a b
theorem Gp(l:List aZ)(hl:l.length≤maxLen)(d w c:Int)(i:Nat)(hi:i<l.length)(fb:Int×List PV×Int×Int×Int×Unit→Option PV):cF.run (kW fb) ((i:Int),0,l.map aZ.pv,d,w,c,.str l[i].id,.int .i64 l[i].y4,.int .i64 l[i].y5,.int .i64 l[i].y6,.int .i64 l[i].bP,.int .i64 l[i].y7,())=if l[i].id∈(l.map aZ.id).take i then some (res i 6)else if uu l[i]=true then some (res i 2)else fb (IntKind.i64.wrap ((i:Int)+1),l.map aZ.pv,d,w,c,()):=by
 have hm:=bg;refine(oG (fun k=>((i:Int),(k:Int),l.map aZ.pv,d,w,c,PV.str l[i].id,PV.int .i64 l[i].y4,PV.int .i64 l[i].y5,PV.int .i64 l[i].y6,PV.int .i64 l[i].bP,PV.int .i64 l[i].y7,())) i (fun k=>decide ((l.map aZ.id)[k]?=some l[i].id)) (no:=some (res i 6)) (fin:=if uu l[i]=true then some (res i 2)else fb (IntKind.i64.wrap ((i:Int)+1),l.map aZ.pv,d,w,c,())) (fun k hk rec=>?_) (fun rec=>?_) ?_ rfl).trans ?_
 ·have h1:(k:Int)<(i:Int):=by omega
  have mM:k<l.length:=by omega
  simp only[kW,decide_eq_true_eq,h1,if_true,aK,List.getElem?_map,List.getElem?_eq_getElem mM,Option.map_some,U,Wx,bx,ao (show k<9223372036854775807 by omega),fa,Option.some.injEq];rfl
 ·simp only[kW,decide_eq_true_eq,Int.lt_irrefl,if_false,U,asInt,if_true,UO,asBool,bu];rfl
 ·have:=aU;omega
 ·rw[zQ _ _ (by simp;omega)];simp only[decide_eq_true_eq]
theorem NR(l:List aZ)(bd within cap:Int)(hl:l.length≤maxLen∧∀y∈l,y.Ok):js [uv l bd within cap]=some (res (dF l bd within cap).1 (dF l bd within cap).2):=by
 have hm:=bg;simp only[js,tw,uv,asAgg,cell,PV.cells,List.getD_cons_zero,List.getD_cons_succ,List.length_cons,List.length_nil,Nat.reduceAdd,ab,asInt,asBool,if_true,U,List.length_map,UO,bu];unfold dF;generalize (!wi bd 0 1000000|| !wi within 0 86400|| !wi cap 0 1000000)=c;cases c with
 |true=>rfl
 |false=>
  simp only[Bool.false_eq_true,if_false];by_cases sA:l.length>16
  ·rw[if_pos (by simp;omega),if_pos sA];rfl
  ·rw[if_neg (by simp;omega),if_neg sA,←mw];refine bn (fun k=>((k:Int),l.map aZ.pv,bd,within,cap,())) l.length _ (fun k hk rec=>?_) (fun rec=>?_) ?_ rfl
   ·have h1:(k:Int)<(l.length:Int):=by omega
    have hid:=rG l[k].id (hl.2 _ (List.getElem_mem hk)).id;have px:=Gp l hl.1 bd within cap k hk rec;simp only[oH,decide_eq_true_eq,List.length_map,h1,if_true,aK,List.getElem?_map,List.getElem?_eq_getElem hk,Option.map_some,U,Wx,ZI,ZJ,ZK,ZL,ZM,bx,asBool,hid,px,ao (show k<9223372036854775807 by omega)];unfold Ek;rw[List.getElem?_eq_getElem hk];simp only;generalize uu l[k]=c;cases eM l[k].id with
    |false=>rfl
    |true=>
     by_cases bN:l[k].id∈(l.map aZ.id).take k
     ·simp only[bN,if_true,Bool.not_true,Bool.false_eq_true,Bool.true_eq_false,if_false];rfl
     ·simp only[bN,if_true,Bool.not_true,Bool.false_eq_true,Bool.true_eq_false,if_false];cases c<;>rfl
   ·simp only[oH,decide_eq_true_eq,List.length_map,Int.lt_irrefl,if_false];rfl
   ·have:=aU;omega
end Go.Ab.Tt
namespace Go.Ab.Tt
set_option maxRecDepth 100000
set_option linter.unusedVariables false
set_option linter.unusedSimpArgs false
theorem Gq(x:av):cell x.pv 0=.int .i64 x.stop:=rfl
theorem y8(x:av):cell x.pv 1=.int .i64 x.arr:=rfl
theorem y9(x:av):cell x.pv 2=.int .i64 x.dep:=rfl
def hU(l:List av):Nat→Option av
 |0=>none
 |k+1=>l[k]?
def kX(c:av)(p:Option av)(stops low high:Int):Int:=
 if(decide (c.stop<0)||decide (c.stop≥stops))=true then 9
 else if(match p with|some p=>decide (p.stop=c.stop)|none=>false)=true then 13
 else if(decide (c.arr<low)||decide (c.arr>c.dep)||decide (c.dep>high)||(match p with|some p=>decide (c.arr<p.dep)|none=>false))=true then 10 else 0
def mb(l:List av)(stops low high:Int)(k:Nat):Int:=match l[k]? with
 |none=>0
 |some c=>kX c (hU l k) stops low high
def bw(l:List av)(stops low high:Int):Int×Int:=if(decide ((l.length:Int)<2)||decide ((l.length:Int)>32))=true then(0,5)else bS (mb l stops low high) l.length
theorem uw(j:Nat)(h:j<9223372036854775807):IntKind.i64.wrap (((j+1:Nat):Int)-1)=(j:Int):=by rw[fv (by omega) (by omega)];omega
theorem Gs(l:List av)(stops low high:Int)(k:Nat)(hk:k<l.length)(hl:l.length≤maxLen):jT [.rs 5 (l.map av.pv),.int .i64 k,.int .i64 stops,.int .i64 low,.int .i64 high]=some (.int .i64 (mb l stops low high k)):=by
 have hm:=bg;simp only[jT,Bv,ab,asInt,if_true,U,aK,List.getElem?_map,List.getElem?_eq_getElem hk,Option.map_some,Gq,y8,y9,bu];unfold mb kX;rw[List.getElem?_eq_getElem hk];simp only;cases k with
 |zero=>
  have h0:decide (((0:Nat):Int)>0)=false:=by decide
  simp only[h0,cond_false,U,bu,Bool.or_false,hU];generalize (decide (l[0].stop<0)||decide (l[0].stop≥stops))=A;generalize (decide (l[0].arr<low)||decide (l[0].arr>l[0].dep)||decide (l[0].dep>high))=B;cases A<;>cases B<;>rfl
 |succ j=>
  have h0:decide (((j+1:Nat):Int)>0)=true:=by rw[decide_eq_true_eq];omega
  have hj:j<l.length:=by omega
  simp only[h0,cond_true,U,uw j (by omega),aK,List.getElem?_map,List.getElem?_eq_getElem hj,Option.map_some,Gq,y9,asInt,if_true,hU,fa,bu];generalize (decide (l[j+1].stop<0)||decide (l[j+1].stop≥stops))=A;generalize (decide (l[j+1].arr<low)||decide (l[j+1].arr>l[j+1].dep)||decide (l[j+1].dep>high))=B;generalize decide (l[j].stop=l[j+1].stop)=C;generalize decide (l[j+1].arr<l[j].dep)=D;cases A<;>cases B<;>cases C<;>cases D<;>rfl
theorem nC(l:List av)(stops low high:Int)(hl:l.length≤maxLen):dw [.rs 5 (l.map av.pv),.int .i64 stops,.int .i64 low,.int .i64 high]=some (res (bw l stops low high).1 (bw l stops low high).2):=by
 have hm:=bg;simp only[dw,vE,ab,asInt,if_true,U,List.length_map,bu];unfold bw;split
 ·rfl
 ·rw[←mw];refine bn (fun k=>(l.map av.pv,stops,low,high,(l.length:Int),(k:Int),())) l.length _ (fun k hk rec=>?_) (fun rec=>?_) ?_ rfl
  ·have h1:(k:Int)<(l.length:Int):=by omega
   simp only[qi,decide_eq_true_eq,h1,if_true,Gs l stops low high k hk hl,U,asInt,ao (show k<9223372036854775807 by omega),lF];by_cases he:mb l stops low high k=0
   ·simp[he,Gt,eQ]
   ·simp[he,Gt,eQ,res]
  ·simp only[qi,decide_eq_true_eq,Int.lt_irrefl,if_false];rfl
  ·have:=aU;omega
theorem NS(l:List av)(stops low high:Int)(hl:l.length≤maxLen):jt [.rs 5 (l.map av.pv),.int .i64 stops,.int .i64 low,.int .i64 high]=some (.int .i64 (bw l stops low high).2):=by
 have hm:=bg;simp only[jt,tr,ab,asInt,if_true,U,List.length_map,bu];unfold bw;split
 ·rfl
 ·rw[←JQ];refine bn (fun k=>(l.map av.pv,stops,low,high,(k:Int),())) l.length _ (fun k hk rec=>?_) (fun rec=>?_) ?_ rfl
  ·have h1:(k:Int)<(l.length:Int):=by omega
   simp only[oI,decide_eq_true_eq,List.length_map,h1,if_true,aK,List.getElem?_map,List.getElem?_eq_getElem hk,Option.map_some,U,Gq,y8,y9,asInt,bu,ao (show k<9223372036854775807 by omega)];unfold mb kX;rw[List.getElem?_eq_getElem hk];simp only;cases k with
   |zero=>
    have h0:decide (((0:Nat):Int)>0)=false:=by decide
    simp only[h0,cond_false,U,bu,Bool.or_false,hU];generalize (decide (l[0].stop<0)||decide (l[0].stop≥stops))=A;generalize (decide (l[0].arr<low)||decide (l[0].arr>l[0].dep)||decide (l[0].dep>high))=B;cases A<;>cases B<;>rfl
   |succ j=>
    have h0:decide (((j+1:Nat):Int)>0)=true:=by rw[decide_eq_true_eq];omega
    have hj:j<l.length:=by omega
    have hc:decide (l[j+1].stop=l[j].stop)=decide (l[j].stop=l[j+1].stop):=by rw[Bool.eq_iff_iff];simp;exact eq_comm
    simp only[h0,cond_true,U,uw j (by omega),aK,List.getElem?_map,List.getElem?_eq_getElem hj,Option.map_some,Gq,y9,asInt,if_true,hU,fa,bu,hc];generalize (decide (l[j+1].stop<0)||decide (l[j+1].stop≥stops))=A;generalize (decide (l[j+1].arr<low)||decide (l[j+1].arr>l[j+1].dep)||decide (l[j+1].dep>high))=B;generalize decide (l[j].stop=l[j+1].stop)=C;generalize decide (l[j+1].arr<l[j].dep)=D;cases A<;>cases B<;>cases C<;>cases D<;>rfl
  ·simp only[oI,decide_eq_true_eq,List.length_map,Int.lt_irrefl,if_false]
  ·have:=aU;omega
end Go.Ab.Tt
namespace Go.Ab.Tt
set_option maxRecDepth 100000
set_option linter.unusedVariables false
set_option linter.unusedSimpArgs false
structure cn where
 dv:Int
 day:Int
 inst:Int
 id:Bytes
 bh:Int
 free:Bool
 rH:Bool
 calls:List av
 deriving DecidableEq
def cn.pv(x:cn):PV:=.agg [.int .i64 x.dv,.int .i64 x.day,.int .i64 x.inst,.str x.id,.int .i64 x.bh,.bool x.free,.bool x.rH,.rs 5 (x.calls.map av.pv)]
structure cn.jb(M:Nat)(x:cn):Prop where
 dv:jJ x.dv
 day:jJ x.day
 inst:jJ x.inst
 id:x.id.length≤M
 bh:jJ x.bh
 calls:x.calls.length≤M∧∀y∈x.calls,y.jb M
abbrev cn.Ok(x:cn):Prop:=x.jb maxLen
theorem adL(r:cn):asAgg 8 r.pv=some ():=rfl
theorem ZN(r:cn):PV.agg [cell r.pv 0,cell r.pv 1,cell r.pv 2,cell r.pv 3,cell r.pv 4,cell r.pv 5,cell r.pv 6,cell r.pv 7]=r.pv:=rfl
theorem Wy(x:cn):cell x.pv 0=.int .i64 x.dv:=rfl
theorem NT(x:cn):cell x.pv 1=.int .i64 x.day:=rfl
theorem NU(x:cn):cell x.pv 2=.int .i64 x.inst:=rfl
theorem NV(x:cn):cell x.pv 3=.str x.id:=rfl
theorem Wz(x:cn):cell x.pv 4=.int .i64 x.bh:=rfl
theorem ZO(x:cn):cell x.pv 5=.bool x.free:=rfl
theorem ZP(x:cn):cell x.pv 6=.bool x.rH:=rfl
theorem Gu(x:cn):cell x.pv 7=.rs 5 (x.calls.map av.pv):=rfl
structure aN where
 a:Int
 ac:Int
 b:Int
 bc:Int
 stay:Bool
 deriving DecidableEq
def aN.pv(x:aN):PV:=.agg [.int .i64 x.a,.int .i64 x.ac,.int .i64 x.b,.int .i64 x.bc,.bool x.stay]
structure aN.jb(M:Nat)(x:aN):Prop where
 a:jJ x.a
 ac:jJ x.ac
 b:jJ x.b
 bc:jJ x.bc
abbrev aN.Ok(x:aN):Prop:=x.jb maxLen
theorem C8(x:aN):cell x.pv 0=.int .i64 x.a:=rfl
theorem L6(x:aN):cell x.pv 1=.int .i64 x.ac:=rfl
theorem link2(x:aN):cell x.pv 2=.int .i64 x.b:=rfl
theorem L7(x:aN):cell x.pv 3=.int .i64 x.bc:=rfl
theorem Gv(x:aN):cell x.pv 4=.bool x.stay:=rfl
theorem Gw(x:Path):cell x.pv 0=.int .i64 x.a:=rfl
theorem Gx(x:Path):cell x.pv 1=.int .i64 x.b:=rfl
theorem L8(x:Path):cell x.pv 2=.int .i64 x.bP:=rfl
theorem Gy(x:Path):cell x.pv 3=.bool x.free:=rfl
structure aj where
 stops:List Stop
 ai:List aF
 runs:List cn
 aq:List aN
 paths:List Path
 aM:List aZ
 bd:Int
 within:Int
 cap:Int
 deriving DecidableEq
def aj.pv(x:aj):PV:=.agg [.rs 4 (x.stops.map Stop.pv),.rs 3 (x.ai.map aF.pv),.rs 8 (x.runs.map cn.pv),.rs 5 (x.aq.map aN.pv),.rs 4 (x.paths.map Path.pv),.rs 6 (x.aM.map aZ.pv),.int .i64 x.bd,.int .i64 x.within,.int .i64 x.cap]
structure aj.jb(M:Nat)(x:aj):Prop where
 stops:x.stops.length≤M∧∀y∈x.stops,y.jb M
 ai:x.ai.length≤M∧∀y∈x.ai,y.jb M
 runs:x.runs.length≤M∧∀y∈x.runs,y.jb M
 aq:x.aq.length≤M∧∀y∈x.aq,y.jb M
 paths:x.paths.length≤M∧∀y∈x.paths,y.jb M
 aM:x.aM.length≤M∧∀y∈x.aM,y.jb M
 bd:jJ x.bd
 within:jJ x.within
 cap:jJ x.cap
abbrev aj.Ok(x:aj):Prop:=x.jb maxLen
theorem qM(x:aj):asAgg 9 x.pv=some ():=rfl
theorem rI(x:aj):ab 4 (cell x.pv 0)=some (x.stops.map Stop.pv):=rfl
theorem rJ(x:aj):ab 3 (cell x.pv 1)=some (x.ai.map aF.pv):=rfl
theorem rK(x:aj):ab 8 (cell x.pv 2)=some (x.runs.map cn.pv):=rfl
theorem rL(x:aj):ab 5 (cell x.pv 3)=some (x.aq.map aN.pv):=rfl
theorem rM(x:aj):ab 4 (cell x.pv 4)=some (x.paths.map Path.pv):=rfl
theorem rN(x:aj):ab 6 (cell x.pv 5)=some (x.aM.map aZ.pv):=rfl
theorem rO(x:aj):asInt .i64 (cell x.pv 6)=some x.bd:=rfl
theorem rP(x:aj):asInt .i64 (cell x.pv 7)=some x.within:=rfl
theorem rQ(x:aj):asInt .i64 (cell x.pv 8)=some x.cap:=rfl
theorem xO(x:aj):PV.agg [.rs 4 (x.stops.map Stop.pv),.rs 3 (x.ai.map aF.pv),.rs 8 (x.runs.map cn.pv),.rs 5 (x.aq.map aN.pv),.rs 4 (x.paths.map Path.pv),.rs 6 (x.aM.map aZ.pv),.int .i64 x.bd,.int .i64 x.within,.int .i64 x.cap]=x.pv:=rfl
def r3(p i e:Int):PV:=.agg [.int .i64 p,.int .i64 i,.int .i64 e]
def prt(p:Int)(x:Int×Int):PV:=if x.2=0 then r3 0 0 0 else r3 p x.1 x.2
theorem L9(p i e:Int):asAgg 3 (r3 p i e)=some ():=rfl
theorem xP(p i e:Int):cell (r3 p i e) 0=.int .i64 p:=rfl
theorem xg(p i e:Int):cell (r3 p i e) 1=.int .i64 i:=rfl
theorem BC(p i e:Int):cell (r3 p i e) 2=.int .i64 e:=rfl
theorem BD(p i e:Int):aP [.int .i64 p,.int .i64 i,.int .i64 e]=some (r3 p i e):=rfl
theorem vG(n m:Int):bT [.int .i64 n,.int .i64 m]=some (.bool (decide (n≥0)&&decide (n<m))):=by simp only[bT,ow,asInt,if_true,U,dP]
variable{R:Type}
theorem gP(f:Nat→Int)(n:Nat)(g:Int→Int→R)(fin:Option R):eQ ((List.range n).findSome? fun k=>if f k=0 then none else some (some (g k (f k)))) fin=if(bS f n).2=0 then fin else some (g (bS f n).1 (bS f n).2):=by
 unfold bS;have:(List.range n).findSome? (fun k=>if f k=0 then none else some (some (g k (f k))))=((List.range n).findSome? (fun k=>if f k=0 then none else some ((k:Int),f k))).map fun x=>some (g x.1 x.2):=by rw[List.map_findSome?];congr 1;funext k;by_cases h:f k=0<;>simp[h]
 rw[this];cases hf:(List.range n).findSome? (fun k=>if f k=0 then none else some ((k:Int),f k))with
 |none=>rfl
 |some x=>
  obtain⟨k,_,hk⟩:=List.exists_of_findSome?_eq_some hf;have hx:x.2≠0:=by
   by_cases h0:f k=0
   ·rw[if_pos h0]at hk;cases hk
   ·rw[if_neg h0]at hk;simp only[Option.some.injEq]at hk;subst hk;exact h0
  simp only[Option.map_some,eQ];rw[if_neg hx]
theorem lU(f:Nat→Int)(n:Nat):(bS f n).2=0↔∀k,k<n→f k=0:=by
 unfold bS;cases hf:(List.range n).findSome? (fun k=>if f k=0 then none else some ((k:Int),f k))with
 |none=>
  simp only[true_iff];intro k hk;rw[List.findSome?_eq_none_iff]at hf;have:=hf k (by simpa using hk);by_cases h0:f k=0
  ·exact h0
  ·rw[if_neg h0]at this;cases this
 |some x=>
  obtain⟨k,hk,hx⟩:=List.exists_of_findSome?_eq_some hf;by_cases h0:f k=0
  ·rw[if_pos h0]at hx;cases hx
  ·rw[if_neg h0]at hx;simp only[Option.some.injEq]at hx;subst hx;exact⟨fun h=>absurd h h0,fun h=>absurd (h k (by simpa using hk)) h0⟩
theorem vb{S:Type}{body:S→(S→Option R)→Option R}(st:Nat→S)(n:Nat)(bad:Nat→Option (Option R)){fin:Option R}(h:∀k,k<n→(∀j,j<k→bad j=none)→∀rec,body (st k) rec=eQ (bad k) (rec (st (k+1))))(mG:(∀j,j<n→bad j=none)→∀rec,body (st n) rec=fin)(hn:n<rounds){s0:S}(h0:st 0=s0):cF.run body s0=eQ ((List.range n).findSome? bad) fin:=by
 by_cases zu:∀j,j<n→bad j=none
 ·have:(List.range n).findSome? bad=none:=by rw[List.findSome?_eq_none_iff];intro k hk;exact zu k (by simpa using hk)
  rw[this];refine bJ st n (fun k hk rec=>?_) (mG zu) hn h0;rw[h k hk (fun j hj=>zu j (by omega)),zu k hk];rfl
 ·have hex:∃m,m<n∧bad m≠none∧∀j,j<m→bad j=none:=by
   have key:∀m,(∃i,i<m∧i<n∧bad i≠none)→∃m,m<n∧bad m≠none∧∀j,j<m→bad j=none:=by
    intro m;induction m with
    |zero=>rintro⟨i,hi,_⟩;omega
    |succ m ih=>
     intro hi;by_cases hc:∃i,i<m∧i<n∧bad i≠none
     ·exact ih hc
     ·obtain⟨i,h1,h2,h3⟩:=hi;have him:i=m:=by
       by_cases h:i<m
       ·exact absurd ⟨i,h,h2,h3⟩ hc
       ·omega
      subst him;refine⟨i,h2,h3,fun j hj=>?_⟩;cases hb:bad j with
      |none=>rfl
      |some x=>exact absurd ⟨j,hj,by omega,by rw[hb];exact fun h=>nomatch h⟩ hc
   have hc:∃i,i<n∧bad i≠none:=by
    by_cases hc:∃i,i<n∧bad i≠none
    ·exact hc
    ·refine absurd (fun j hj=>?_) zu;cases hb:bad j with
     |none=>rfl
     |some x=>exact absurd ⟨j,hj,by rw[hb];exact fun h=>nomatch h⟩ hc
   obtain⟨i,h1,h2⟩:=hc;exact key n ⟨i,h1,h1,h2⟩
  obtain⟨m,hm,hb,bp⟩:=hex;cases Zc:bad m with
  |none=>exact absurd Zc hb
  |some x=>
   have hf:(List.range n).findSome? bad=some x:=by
    have XH:n=m+(n-m):=by omega
    rw[XH,List.range_add,List.findSome?_append];have h1:(List.range m).findSome? bad=none:=by rw[List.findSome?_eq_none_iff];intro k hk;exact bp k (by simpa using hk)
    rw[h1,Option.none_or];have hd:n-m=(n-m-1)+1:=by omega
    rw[hd,List.range_succ_eq_map,List.map_cons,List.findSome?_cons,Nat.add_zero,Zc]
   rw[hf];refine bJ st m (fun k hk rec=>?_) (fun rec=>?_) (by omega) h0
   ·rw[h k (by omega) (fun j hj=>bp j (by omega)),bp k hk];rfl
   ·rw[h m hm bp,Zc];rfl
theorem El{A:Type}[DecidableEq A](a b:List A)(h:a.length=b.length)(no fin:Option R):eQ ((List.range a.length).findSome? fun k=>if a[k]?=b[k]? then none else some no) fin=if a=b then fin else no:=by
 by_cases qo:a=b
 ·rw[if_pos qo];have:(List.range a.length).findSome? (fun k=>if a[k]?=b[k]? then none else some no)=none:=by rw[List.findSome?_eq_none_iff];intro k _;rw[if_pos (by rw[qo])]
  rw[this];rfl
 ·rw[if_neg qo];cases hf:(List.range a.length).findSome? (fun k=>if a[k]?=b[k]? then none else some no)with
  |none=>
   refine absurd (List.ext_getElem? fun k=>?_) qo;rw[List.findSome?_eq_none_iff]at hf;by_cases hk:k<a.length
   ·have:=hf k (by simpa using hk);by_cases h0:a[k]?=b[k]?
    ·exact h0
    ·rw[if_neg h0]at this;cases this
   ·rw[List.getElem?_eq_none (by omega),List.getElem?_eq_none (by omega)]
  |some x=>
   obtain⟨k,hk,hx⟩:=List.exists_of_findSome?_eq_some hf;by_cases h0:a[k]?=b[k]?
   ·rw[if_pos h0]at hx;cases hx
   ·rw[if_neg h0]at hx;simp only[Option.some.injEq]at hx;subst hx;rfl
end Go.Ab.Tt
