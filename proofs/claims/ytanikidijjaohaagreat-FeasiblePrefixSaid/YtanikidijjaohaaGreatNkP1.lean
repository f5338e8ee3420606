import Derived.Test.YtanikidijjaohaaGreatTtChk0
import Derived.Test.YtanikidijjaohaaGreatSh2
namespace Go.Ab.Tt
set_option maxRecDepth 100000
set_option linter.unusedVariables false
theorem zQ(s:Bytes)(hs:s.length≤maxLen):fy [.str s]=some (.bool (kj s)):=by
 have hm:=aY;simp only[fy,we,cR,U];refine(EO s hs lX (some (.bool false)) (some (.bool (decide ((s.length:Int)>0)&&decide ((s.length:Int)≤32)))) (fun k hk rec=>?_) (fun rec=>?_)).trans ?_
 ·have h1:(k:Int)<(s.length:Int):=by omega
  simp only[ri,decide_eq_true_eq,h1,if_true,Kt,List.getElem?_eq_getElem hk,U,aZ,ai (show k<9223372036854775807 by omega),ga];generalize s[k]=b;unfold lX;generalize (decide (97≤(b.toNat:Int))&&decide ((b.toNat:Int)≤122))=x1;generalize (decide (65≤(b.toNat:Int))&&decide ((b.toNat:Int)≤90))=x2;generalize (decide (48≤(b.toNat:Int))&&decide ((b.toNat:Int)≤57))=x3;by_cases e4:(b.toNat:Int)=45<;>by_cases e5:(b.toNat:Int)=95<;>by_cases e6:(b.toNat:Int)=46<;>cases x1<;>cases x2<;>cases x3<;>simp[e4,e5,e6]
 ·simp only[ri,decide_eq_true_eq,Int.lt_irrefl,if_false,aZ,U]
 ·unfold kj;cases s.all lX with
  |true=>simp only[if_true,Bool.and_true,Option.some.injEq,PV.bool.injEq];rw[Bool.eq_iff_iff];simp only[Bool.and_eq_true,decide_eq_true_eq];omega
  |false=>simp
theorem SE{body:Bytes×Int×Unit→(Bytes×Int×Unit→Option PV)→Option PV}(s:Bytes)(hs:s.length≤maxLen)(h:∀k,(hk:k<s.length)→∀rec,body (s,(k:Int),()) rec=if lX s[k]then rec (s,((k+1:Nat):Int),())else some (.bool false))(nv:∀rec,body (s,(s.length:Int),()) rec=some (.bool true)){c:Bool}(hc:c= !(decide (1≤s.length)&&decide (s.length≤32))):(if c=true then some (.bool false)else bC.run body (s,0,()))=some (.bool (kj s)):=by rw[EO s hs lX _ _ h nv,hc];unfold kj;cases s.all lX<;>cases(decide (1≤s.length)&&decide (s.length≤32))<;>rfl
theorem uK(s:Bytes)(hs:s.length≤maxLen):ee [.str s]=some (.bool (kj s)):=by
 have hm:=aY;simp only[ee,sE,cR,U,aW];refine SE s hs (fun k hk rec=>?_) (fun rec=>?_) ?_
 ·have h1:(k:Int)<(s.length:Int):=by omega
  simp only[nR,decide_eq_true_eq,h1,if_true,Kt,List.getElem?_eq_getElem hk,U,aZ,aW,ai (show k<9223372036854775807 by omega),pD];generalize s[k]=b;unfold lX;simp only[ge_iff_le];generalize (decide (97≤(b.toNat:Int))&&decide ((b.toNat:Int)≤122))=x1;generalize (decide (65≤(b.toNat:Int))&&decide ((b.toNat:Int)≤90))=x2;generalize (decide (48≤(b.toNat:Int))&&decide ((b.toNat:Int)≤57))=x3;by_cases e4:(b.toNat:Int)=45<;>by_cases e5:(b.toNat:Int)=95<;>by_cases e6:(b.toNat:Int)=46<;>cases x1<;>cases x2<;>cases x3<;>simp[e4,e5,e6]
 ·simp only[nR,decide_eq_true_eq,Int.lt_irrefl,if_false]
 ·rw[Bool.eq_iff_iff];simp only[ga,Bool.or_eq_true,Bool.not_eq_true',Bool.and_eq_false_iff,decide_eq_true_eq,decide_eq_false_iff_not];omega
def CL(l:List Stop)(k:Nat):Int:=match l[k]? with
 |none=>0
 |some x=>if kj x.id=false then 12 else if x.id∈(l.map Stop.id).take k then 6 else if(decide (x.pe<0)||decide (x.pe≥16)||decide (x.change<0)||decide (x.change>3600))=true then 2 else 0
def gW(l:List Stop):Int×Int:=if l.length>64 then(0,5)else bN (CL l) l.length
theorem SF(l:List Stop)(hl:l.length≤maxLen∧∀y∈l,y.Ok):mL [.rs 4 (l.map Stop.pv)]=some (res (gW l).1 (gW l).2):=by
 have hm:=aY;simp only[mL,yF,aa,if_true,U,List.length_map];unfold gW;by_cases xl:l.length>64
 ·rw[if_pos (by simp;omega),if_pos xl];rfl
 ·rw[if_neg (by simp;omega),if_neg xl,←oI];refine bL (fun k=>(l.map Stop.pv,(l.length:Int),(k:Int),seen PV.str ((l.map Stop.id).take k),())) l.length _ (fun k hk rec=>?_) (fun rec=>?_) ?_ rfl
  ·have h1:(k:Int)<(l.length:Int):=by omega
   have hid:=zQ l[k].id (hl.2 _ (List.getElem_mem hk)).id;have su:=oJ w9 l[k].id ((l.map Stop.id).take k);have tF:=lY w9 l[k].id ((l.map Stop.id).take k);simp only[sJ,decide_eq_true_eq,h1,if_true,aQ,List.getElem?_map,List.getElem?_eq_getElem hk,Option.map_some,U,Stop.pv,cell,PV.cells,List.getD_cons_zero,List.getD_cons_succ,cR,asInt,asBool,hid,su,tF,aW,ai (show k<9223372036854775807 by omega),rj Stop.id l k hk];unfold CL;rw[List.getElem?_eq_getElem hk];simp only;generalize (decide (l[k].pe<0)||decide (l[k].pe≥16)||decide (l[k].change<0)||decide (l[k].change>3600))=c;cases kj l[k].id with
   |false=>rfl
   |true=>
    by_cases bJ:l[k].id∈(l.map Stop.id).take k
    ·simp only[bJ,if_true,Bool.not_true,Bool.false_eq_true,Bool.true_eq_false,if_false];rfl
    ·simp only[bJ,if_true,Bool.not_true,Bool.false_eq_true,Bool.true_eq_false,if_false];cases c<;>rfl
  ·simp only[sJ,decide_eq_true_eq,Int.lt_irrefl,if_false];rfl
  ·have:=bf;omega
end Go.Ab.Tt
namespace Go.Ab.Tt
set_option maxRecDepth 100000
set_option linter.unusedVariables false
set_option linter.unusedSimpArgs false
theorem EP(n a b:Int):bB [.int .i64 n,.int .i64 a,.int .i64 b]=some (.bool (decide (n≥a)&&decide (n≤b))):=by simp only[bB,Er,asInt,if_true,U,aZ]
theorem Ig(x:Stop):cell x.pv 0=.str x.id:=rfl
theorem Ye(x:Stop):cell x.pv 1=.int .i64 x.pe:=rfl
theorem Yf(x:Stop):cell x.pv 3=.int .i64 x.change:=rfl
theorem Ku{R:Type}(ids:List Bytes)(i:Nat)(hi:i<ids.length)(no fin:Option R):gb ((List.range i).findSome? fun k=>if decide (ids[k]?=some ids[i])=true then some no else none) fin=if ids[i]∈ids.take i then no else fin:=by
 rw[B6 (fun k=>decide (ids[k]?=some ids[i])) (fun _=>no)];cases hf:(List.range i).find? fun k=>decide (ids[k]?=some ids[i])with
 |none=>
  have hn:ids[i]∉ids.take i:=fun bJ=>by
   obtain⟨j,hj⟩:=List.mem_iff_getElem?.1 bJ;have Mr:j<i:=by have:=(List.getElem?_eq_some_iff.1 hj).1;simp at this;omega
   rw[List.getElem?_take_of_lt Mr]at hj;rw[List.find?_eq_none]at hf;exact hf j (by simpa using Mr) (by simpa using hj)
  rw[if_neg hn];rfl
 |some j=>rw[List.find?_range_eq_some]at hf;obtain⟨h1,h2,_⟩:=hf;have bJ:ids[i]∈ids.take i:=List.mem_iff_getElem?.2 ⟨j,by rw[List.getElem?_take_of_lt (by simpa using h2)];simpa using h1⟩;rw[if_pos bJ];rfl
theorem Kv(l:List Stop)(hl:l.length≤maxLen)(i:Nat)(hi:i<l.length)(fD:List PV×Int×Unit→Option PV):bC.run (mM fD) (l.map Stop.pv,(i:Int),0,())=if(l.map Stop.id)[i]'(by simpa using hi)∈(l.map Stop.id).take i then some (res i 6)else if(decide (l[i].pe<0)||decide (l[i].pe≥16)||decide (l[i].change<0)||decide (l[i].change>3600))=true then some (res i 2)else fD (l.map Stop.pv,IntKind.i64.wrap ((i:Int)+1),()):=by
 have hm:=aY;have Ux:(l.map Stop.pv)[i]?=some l[i].pv:=by rw[List.getElem?_map,List.getElem?_eq_getElem hi];rfl
 have Ga:i<(l.map Stop.id).length:=by simpa using hi
 have aaQ:(l.map Stop.id)[i]=l[i].id:=by simp
 rw[←Ku (l.map Stop.id) i Ga];refine bL (fun k=>(l.map Stop.pv,(i:Int),(k:Int),())) i (fun k=>if decide ((l.map Stop.id)[k]?=some (l.map Stop.id)[i])=true then some (some (res i 6))else none) (fun k hk rec=>?_) (fun rec=>?_) ?_ rfl
 ·have h1:decide ((k:Int)<(i:Int))=true:=by simp;omega
  have qz:k<l.length:=by omega
  have hgk:(l.map Stop.pv)[k]?=some l[k].pv:=by rw[List.getElem?_map,List.getElem?_eq_getElem qz];rfl
  have hdk:decide ((l.map Stop.id)[k]?=some (l.map Stop.id)[i])=decide (l[k].id=l[i].id):=by rw[List.getElem?_map,List.getElem?_eq_getElem qz,aaQ];simp
  unfold mM;dsimp only;rw[if_pos h1,aQ,hgk,U,Ig,aQ,Ux,ai (by omega),hdk];simp only[cR,U,Ig,ga];cases decide (l[k].id=l[i].id)<;>rfl
 ·unfold mM;dsimp only;rw[if_neg (by simp),aQ,Ux];simp only[U,Ye,Yf,asInt,if_true,EP,asBool,aW];have:(!(decide (l[i].pe≥0)&&decide (l[i].pe≤15))|| !(decide (l[i].change≥0)&&decide (l[i].change≤3600)))=(decide (l[i].pe<0)||decide (l[i].pe≥16)||decide (l[i].change<0)||decide (l[i].change>3600)):=by rw[Bool.eq_iff_iff];simp only[Bool.or_eq_true,Bool.not_eq_true',Bool.and_eq_false_iff,decide_eq_true_eq,decide_eq_false_iff_not];omega
  rw[this];cases(decide (l[i].pe<0)||decide (l[i].pe≥16)||decide (l[i].change<0)||decide (l[i].change>3600))<;>rfl
 ·have:=bf;omega
theorem SG(l:List Stop)(hl:l.length≤maxLen∧∀y∈l,y.Ok):k9 [.rs 4 (l.map Stop.pv)]=some (res (gW l).1 (gW l).2):=by
 have hm:=aY;simp only[k9,v8,aa,if_true,U,List.length_map];unfold gW;by_cases xl:l.length>64
 ·rw[if_pos (by simp;omega),if_pos xl];rfl
 ·rw[if_neg (by simp;omega),if_neg xl,←oI];refine bL (fun k=>(l.map Stop.pv,(k:Int),())) l.length _ (fun k hk rec=>?_) (fun rec=>?_) ?_ rfl
  ·have h1:decide ((k:Int)<((l.map Stop.pv).length:Int))=true:=by simp;omega
   have hgk:(l.map Stop.pv)[k]?=some l[k].pv:=by rw[List.getElem?_map,List.getElem?_eq_getElem hk];rfl
   have hid:=uK l[k].id (hl.2 _ (List.getElem_mem hk)).id;have aaR:(l.map Stop.id)[k]'(by simpa using hk)=l[k].id:=by simp
   unfold rn;dsimp only;rw[if_pos h1,aQ,hgk,U,Ig];simp only[cR,U,hid,asBool];rw[Kv l hl.1 k hk rec,aaR,ai (by omega)];unfold CL;rw[List.getElem?_eq_getElem hk];simp only;generalize (decide (l[k].pe<0)||decide (l[k].pe≥16)||decide (l[k].change<0)||decide (l[k].change>3600))=c;cases kj l[k].id with
   |false=>rfl
   |true=>
    by_cases bJ:l[k].id∈(l.map Stop.id).take k
    ·simp only[bJ,if_true,Bool.not_true,Bool.false_eq_true,Bool.true_eq_false,if_false];rfl
    ·simp only[bJ,if_true,Bool.not_true,Bool.false_eq_true,Bool.true_eq_false,if_false];cases c<;>rfl
  ·unfold rn;dsimp only;rw[if_neg (by simp)];rfl
  ·have:=bf;omega
end Go.Ab.Tt
namespace Go.Ab.Tt
set_option maxRecDepth 100000
set_option linter.unusedVariables false
set_option linter.unusedSimpArgs false
theorem ER(x:aG):cell x.pv 0=.str x.id:=rfl
theorem VN(x:aG):cell x.pv 1=.int .i64 x.mode:=rfl
def zH(l:List aG)(k:Nat):Int:=match l[k]? with
 |none=>0
 |some x=>if kj x.id=false then 12 else if x.id∈(l.map aG.id).take k then 6 else if(decide (x.mode≥0)&&decide (x.mode<8))=false then 2 else 0
def gw(l:List aG):Int×Int:=if l.length>64 then(0,5)else bN (zH l) l.length
theorem OM(l:List aG)(hl:l.length≤maxLen∧∀y∈l,y.Ok):la [.rs 3 (l.map aG.pv)]=some (res (gw l).1 (gw l).2):=by
 have hm:=aY;simp only[la,vV,aa,if_true,U,List.length_map];unfold gw;by_cases xl:l.length>64
 ·rw[if_pos (by simp;omega),if_pos xl];rfl
 ·rw[if_neg (by simp;omega),if_neg xl,←oI];refine bL (fun k=>(l.map aG.pv,(l.length:Int),(k:Int),seen PV.str ((l.map aG.id).take k),())) l.length _ (fun k hk rec=>?_) (fun rec=>?_) ?_ rfl
  ·have h1:(k:Int)<(l.length:Int):=by omega
   have hid:=zQ l[k].id (hl.2 _ (List.getElem_mem hk)).id;have su:=oJ w9 l[k].id ((l.map aG.id).take k);have tF:=lY w9 l[k].id ((l.map aG.id).take k);simp only[rq,decide_eq_true_eq,h1,if_true,aQ,List.getElem?_map,List.getElem?_eq_getElem hk,Option.map_some,U,aG.pv,cell,PV.cells,List.getD_cons_zero,List.getD_cons_succ,cR,asInt,asBool,hid,su,tF,aW,ai (show k<9223372036854775807 by omega),rj aG.id l k hk,og,vT,aZ];unfold zH;rw[List.getElem?_eq_getElem hk];simp only;generalize (decide (l[k].mode≥0)&&decide (l[k].mode<8))=c;cases kj l[k].id with
   |false=>rfl
   |true=>
    by_cases bJ:l[k].id∈(l.map aG.id).take k
    ·simp only[bJ,if_true,Bool.not_true,Bool.false_eq_true,Bool.true_eq_false,if_false];rfl
    ·simp only[bJ,if_true,Bool.not_true,Bool.false_eq_true,Bool.true_eq_false,if_false];cases c<;>rfl
  ·simp only[rq,decide_eq_true_eq,Int.lt_irrefl,if_false];rfl
  ·have:=bf;omega
theorem Ih(l:List aG)(hl:l.length≤maxLen)(i:Nat)(hi:i<l.length)(fD:List PV×Int×Unit→Option PV):bC.run (lz fD) (l.map aG.pv,(i:Int),0,())=if(l.map aG.id)[i]'(by simpa using hi)∈(l.map aG.id).take i then some (res i 6)else if(decide (l[i].mode≥0)&&decide (l[i].mode<8))=false then some (res i 2)else fD (l.map aG.pv,IntKind.i64.wrap ((i:Int)+1),()):=by
 have hm:=aY;have Ux:(l.map aG.pv)[i]?=some l[i].pv:=by rw[List.getElem?_map,List.getElem?_eq_getElem hi];rfl
 have Ga:i<(l.map aG.id).length:=by simpa using hi
 have aaQ:(l.map aG.id)[i]=l[i].id:=by simp
 rw[←Ku (l.map aG.id) i Ga];refine bL (fun k=>(l.map aG.pv,(i:Int),(k:Int),())) i (fun k=>if decide ((l.map aG.id)[k]?=some (l.map aG.id)[i])=true then some (some (res i 6))else none) (fun k hk rec=>?_) (fun rec=>?_) ?_ rfl
 ·have h1:decide ((k:Int)<(i:Int))=true:=by simp;omega
  have qz:k<l.length:=by omega
  have hgk:(l.map aG.pv)[k]?=some l[k].pv:=by rw[List.getElem?_map,List.getElem?_eq_getElem qz];rfl
  have hdk:decide ((l.map aG.id)[k]?=some (l.map aG.id)[i])=decide (l[k].id=l[i].id):=by rw[List.getElem?_map,List.getElem?_eq_getElem qz,aaQ];simp
  unfold lz;dsimp only;rw[if_pos h1,aQ,hgk,U,ER,aQ,Ux,ai (by omega),hdk];simp only[cR,U,ER,ga];cases decide (l[k].id=l[i].id)<;>rfl
 ·unfold lz;dsimp only;rw[if_neg (by simp),aQ,Ux];simp only[U,VN,asInt,if_true,EP,asBool];have:(decide (l[i].mode≥0)&&decide (l[i].mode≤7))=(decide (l[i].mode≥0)&&decide (l[i].mode<8)):=by rw[Bool.eq_iff_iff];simp only[Bool.and_eq_true,decide_eq_true_eq];omega
  rw[this];cases(decide (l[i].mode≥0)&&decide (l[i].mode<8))<;>rfl
 ·have:=bf;omega
theorem ON(l:List aG)(hl:l.length≤maxLen∧∀y∈l,y.Ok):kn [.rs 3 (l.map aG.pv)]=some (res (gw l).1 (gw l).2):=by
 have hm:=aY;simp only[kn,ux,aa,if_true,U,List.length_map];unfold gw;by_cases xl:l.length>64
 ·rw[if_pos (by simp;omega),if_pos xl];rfl
 ·rw[if_neg (by simp;omega),if_neg xl,←oI];refine bL (fun k=>(l.map aG.pv,(k:Int),())) l.length _ (fun k hk rec=>?_) (fun rec=>?_) ?_ rfl
  ·have h1:decide ((k:Int)<((l.map aG.pv).length:Int))=true:=by simp;omega
   have hgk:(l.map aG.pv)[k]?=some l[k].pv:=by rw[List.getElem?_map,List.getElem?_eq_getElem hk];rfl
   have hid:=uK l[k].id (hl.2 _ (List.getElem_mem hk)).id;have aaR:(l.map aG.id)[k]'(by simpa using hk)=l[k].id:=by simp
   unfold pt;dsimp only;rw[if_pos h1,aQ,hgk,U,ER];simp only[cR,U,hid,asBool];rw[Ih l hl.1 k hk rec,aaR,ai (by omega)];unfold zH;rw[List.getElem?_eq_getElem hk];simp only;generalize (decide (l[k].mode≥0)&&decide (l[k].mode<8))=c;cases kj l[k].id with
   |false=>rfl
   |true=>
    by_cases bJ:l[k].id∈(l.map aG.id).take k
    ·simp only[bJ,if_true,Bool.not_true,Bool.false_eq_true,Bool.true_eq_false,if_false];rfl
    ·simp only[bJ,if_true,Bool.not_true,Bool.false_eq_true,Bool.true_eq_false,if_false];cases c<;>rfl
  ·unfold pt;dsimp only;rw[if_neg (by simp)];rfl
  ·have:=bf;omega
end Go.Ab.Tt
namespace Go.Ab.Tt
set_option maxRecDepth 100000
set_option linter.unusedVariables false
set_option linter.unusedSimpArgs false
def wi(n a b:Int):Bool:=decide (n≥a)&&decide (n≤b)
theorem B7(n a b:Int):bO [.int .i64 n,.int .i64 a,.int .i64 b]=some (.bool (wi n a b)):=by simp only[bO,qO,asInt,if_true,U,aZ];rfl
theorem aaS(x:aH):cell x.pv 0=.str x.id:=rfl
theorem ack(x:aH):cell x.pv 1=.int .i64 x.rZ:=rfl
theorem acm(x:aH):cell x.pv 2=.int .i64 x.cE:=rfl
theorem acn(x:aH):cell x.pv 3=.int .i64 x.gI:=rfl
theorem aco(x:aH):cell x.pv 4=.int .i64 x.fa:=rfl
theorem acp(x:aH):cell x.pv 5=.int .i64 x.bn:=rfl
def uJ(x:aH):Bool:= !wi x.rZ 0 1000000|| !wi x.cE 1 8|| !wi x.gI 1 16|| !wi x.fa 0 86400|| !wi x.bn 1 255
def CN(l:List aH)(k:Nat):Int:=match l[k]? with
 |none=>0
 |some x=>if kj x.id=false then 12 else if x.id∈(l.map aH.id).take k then 6 else if uJ x=true then 2 else 0
def df(l:List aH)(bu within cap:Int):PV:=.agg [.rs 6 (l.map aH.pv),.int .i64 bu,.int .i64 within,.int .i64 cap]
def dd(l:List aH)(bu within cap:Int):Int×Int:=if(!wi bu 0 1000000|| !wi within 0 86400|| !wi cap 0 1000000)=true then(-1,2)else if l.length>16 then(0,5)else bN (CN l) l.length
theorem yP(l:List aH)(bu within cap:Int)(hl:l.length≤maxLen∧∀y∈l,y.Ok):dt [df l bu within cap]=some (res (dd l bu within cap).1 (dd l bu within cap).2):=by
 have hm:=aY;simp only[dt,sF,df,asAgg,cell,PV.cells,List.getD_cons_zero,List.getD_cons_succ,List.length_cons,List.length_nil,Nat.reduceAdd,aa,asInt,asBool,if_true,U,List.length_map,B7,aW];unfold dd;generalize (!wi bu 0 1000000|| !wi within 0 86400|| !wi cap 0 1000000)=c;cases c with
 |true=>rfl
 |false=>
  simp only[Bool.false_eq_true,if_false];by_cases xl:l.length>16
  ·rw[if_pos (by simp;omega),if_pos xl];rfl
  ·rw[if_neg (by simp;omega),if_neg xl,←oI];refine bL (fun k=>(l.map aH.pv,(l.length:Int),(k:Int),seen PV.str ((l.map aH.id).take k),())) l.length _ (fun k hk rec=>?_) (fun rec=>?_) ?_ rfl
   ·have h1:(k:Int)<(l.length:Int):=by omega
    have hid:=zQ l[k].id (hl.2 _ (List.getElem_mem hk)).id;have su:=oJ w9 l[k].id ((l.map aH.id).take k);have tF:=lY w9 l[k].id ((l.map aH.id).take k);simp only[nS,decide_eq_true_eq,h1,if_true,aQ,List.getElem?_map,List.getElem?_eq_getElem hk,Option.map_some,U,aaS,ack,acm,acn,aco,acp,cR,asInt,asBool,hid,su,tF,B7,aW,ai (show k<9223372036854775807 by omega),rj aH.id l k hk];unfold CN;rw[List.getElem?_eq_getElem hk];have hb:(!wi l[k].rZ 0 1000000|| !wi l[k].cE 1 8|| !wi l[k].gI 1 16|| !wi l[k].fa 0 86400|| !wi l[k].bn 1 255)=uJ l[k]:=rfl;simp only[hb];generalize uJ l[k]=c;cases kj l[k].id with
    |false=>rfl
    |true=>
     by_cases bJ:l[k].id∈(l.map aH.id).take k
     ·simp only[bJ,if_true,Bool.not_true,Bool.false_eq_true,Bool.true_eq_false,if_false];rfl
     ·simp only[bJ,if_true,Bool.not_true,Bool.false_eq_true,Bool.true_eq_false,if_false];cases c<;>rfl
   ·simp only[nS,decide_eq_true_eq,Int.lt_irrefl,if_false];rfl
   ·have:=bf;omega
theorem ZF(n a b:Int):bB [.int .i64 n,.int .i64 a,.int .i64 b]=some (.bool (wi n a b)):=EP n a b
theorem Kw(l:List aH)(hl:l.length≤maxLen)(d w c:Int)(i:Nat)(hi:i<l.length)(fD:Int×List PV×Int×Int×Int×Unit→Option PV):bC.run (mN fD) ((i:Int),0,l.map aH.pv,d,w,c,.str l[i].id,.int .i64 l[i].rZ,.int .i64 l[i].cE,.int .i64 l[i].gI,.int .i64 l[i].fa,.int .i64 l[i].bn,())=if l[i].id∈(l.map aH.id).take i then some (res i 6)else if uJ l[i]=true then some (res i 2)else fD (IntKind.i64.wrap ((i:Int)+1),l.map aH.pv,d,w,c,()):=by
 have hm:=aY;refine(tG (fun k=>((i:Int),(k:Int),l.map aH.pv,d,w,c,PV.str l[i].id,PV.int .i64 l[i].rZ,PV.int .i64 l[i].cE,PV.int .i64 l[i].gI,PV.int .i64 l[i].fa,PV.int .i64 l[i].bn,())) i (fun k=>decide ((l.map aH.id)[k]?=some l[i].id)) (no:=some (res i 6)) (fin:=if uJ l[i]=true then some (res i 2)else fD (IntKind.i64.wrap ((i:Int)+1),l.map aH.pv,d,w,c,())) (fun k hk rec=>?_) (fun rec=>?_) ?_ rfl).trans ?_
 ·have h1:(k:Int)<(i:Int):=by omega
  have qz:k<l.length:=by omega
  simp only[mN,decide_eq_true_eq,h1,if_true,aQ,List.getElem?_map,List.getElem?_eq_getElem qz,Option.map_some,U,aaS,cR,ai (show k<9223372036854775807 by omega),ga,Option.some.injEq];rfl
 ·simp only[mN,decide_eq_true_eq,Int.lt_irrefl,if_false,U,asInt,if_true,ZF,asBool,aW];rfl
 ·have:=bf;omega
 ·rw[CO _ _ (by simp;omega)];simp only[decide_eq_true_eq]
theorem SH(l:List aH)(bu within cap:Int)(hl:l.length≤maxLen∧∀y∈l,y.Ok):lb [df l bu within cap]=some (res (dd l bu within cap).1 (dd l bu within cap).2):=by
 have hm:=aY;simp only[lb,vU,df,asAgg,cell,PV.cells,List.getD_cons_zero,List.getD_cons_succ,List.length_cons,List.length_nil,Nat.reduceAdd,aa,asInt,asBool,if_true,U,List.length_map,ZF,aW];unfold dd;generalize (!wi bu 0 1000000|| !wi within 0 86400|| !wi cap 0 1000000)=c;cases c with
 |true=>rfl
 |false=>
  simp only[Bool.false_eq_true,if_false];by_cases xl:l.length>16
  ·rw[if_pos (by simp;omega),if_pos xl];rfl
  ·rw[if_neg (by simp;omega),if_neg xl,←oI];refine bL (fun k=>((k:Int),l.map aH.pv,bu,within,cap,())) l.length _ (fun k hk rec=>?_) (fun rec=>?_) ?_ rfl
   ·have h1:(k:Int)<(l.length:Int):=by omega
    have hid:=uK l[k].id (hl.2 _ (List.getElem_mem hk)).id;have ow:=Kw l hl.1 bu within cap k hk rec;simp only[rr,decide_eq_true_eq,List.length_map,h1,if_true,aQ,List.getElem?_map,List.getElem?_eq_getElem hk,Option.map_some,U,aaS,ack,acm,acn,aco,acp,cR,asBool,hid,ow,ai (show k<9223372036854775807 by omega)];unfold CN;rw[List.getElem?_eq_getElem hk];simp only;generalize uJ l[k]=c;cases kj l[k].id with
    |false=>rfl
    |true=>
     by_cases bJ:l[k].id∈(l.map aH.id).take k
     ·simp only[bJ,if_true,Bool.not_true,Bool.false_eq_true,Bool.true_eq_false,if_false];rfl
     ·simp only[bJ,if_true,Bool.not_true,Bool.false_eq_true,Bool.true_eq_false,if_false];cases c<;>rfl
   ·simp only[rr,decide_eq_true_eq,List.length_map,Int.lt_irrefl,if_false];rfl
   ·have:=bf;omega
end Go.Ab.Tt
namespace Go.Ab.Tt
set_option maxRecDepth 100000
set_option linter.unusedVariables false
set_option linter.unusedSimpArgs false
theorem QU(x:cO):cell x.pv 0=.int .i64 x.stop:=rfl
theorem ZG(x:cO):cell x.pv 1=.int .i64 x.arr:=rfl
theorem QV(x:cO):cell x.pv 2=.int .i64 x.dep:=rfl
def Kx(l:List cO):Nat→Option cO
 |0=>none
 |k+1=>l[k]?
def Qx(c:cO)(p:Option cO)(stops low high:Int):Int:=
 if(decide (c.stop<0)||decide (c.stop≥stops))=true then 9
 else if(match p with|some p=>decide (p.stop=c.stop)|none=>false)=true then 13
 else if(decide (c.arr<low)||decide (c.arr>c.dep)||decide (c.dep>high)||(match p with|some p=>decide (c.arr<p.dep)|none=>false))=true then 10 else 0
def uE(l:List cO)(stops low high:Int)(k:Nat):Int:=match l[k]? with
 |none=>0
 |some c=>Qx c (Kx l k) stops low high
def ja(l:List cO)(stops low high:Int):Int×Int:=if(decide ((l.length:Int)<2)||decide ((l.length:Int)>32))=true then(0,5)else bN (uE l stops low high) l.length
theorem lW(j:Nat)(h:j<9223372036854775807):IntKind.i64.wrap (((j+1:Nat):Int)-1)=(j:Int):=by rw[bF (by omega) (by omega)];omega
theorem Ky(l:List cO)(stops low high:Int)(k:Nat)(hk:k<l.length)(hl:l.length≤maxLen):ru [.rs 5 (l.map cO.pv),.int .i64 k,.int .i64 stops,.int .i64 low,.int .i64 high]=some (.int .i64 (uE l stops low high k)):=by
 have hm:=aY;simp only[ru,Ep,aa,asInt,if_true,U,aQ,List.getElem?_map,List.getElem?_eq_getElem hk,Option.map_some,QU,ZG,QV,aW];unfold uE Qx;rw[List.getElem?_eq_getElem hk];simp only;cases k with
 |zero=>
  have h0:decide (((0:Nat):Int)>0)=false:=by decide
  simp only[h0,cond_false,U,aW,Bool.or_false,Kx];generalize (decide (l[0].stop<0)||decide (l[0].stop≥stops))=A;generalize (decide (l[0].arr<low)||decide (l[0].arr>l[0].dep)||decide (l[0].dep>high))=B;cases A<;>cases B<;>rfl
 |succ j=>
  have h0:decide (((j+1:Nat):Int)>0)=true:=by rw[decide_eq_true_eq];omega
  have hj:j<l.length:=by omega
  simp only[h0,cond_true,U,lW j (by omega),aQ,List.getElem?_map,List.getElem?_eq_getElem hj,Option.map_some,QU,QV,asInt,if_true,Kx,ga,aW];generalize (decide (l[j+1].stop<0)||decide (l[j+1].stop≥stops))=A;generalize (decide (l[j+1].arr<low)||decide (l[j+1].arr>l[j+1].dep)||decide (l[j+1].dep>high))=B;generalize decide (l[j].stop=l[j+1].stop)=C;generalize decide (l[j+1].arr<l[j].dep)=D;cases A<;>cases B<;>cases C<;>cases D<;>rfl
theorem SI(l:List cO)(stops low high:Int)(hl:l.length≤maxLen):mO [.rs 5 (l.map cO.pv),.int .i64 stops,.int .i64 low,.int .i64 high]=some (res (ja l stops low high).1 (ja l stops low high).2):=by
 have hm:=aY;simp only[mO,yE,aa,asInt,if_true,U,List.length_map,aW];unfold ja;split
 ·rfl
 ·rw[←oI];refine bL (fun k=>(l.map cO.pv,stops,low,high,(l.length:Int),(k:Int),())) l.length _ (fun k hk rec=>?_) (fun rec=>?_) ?_ rfl
  ·have h1:(k:Int)<(l.length:Int):=by omega
   simp only[sK,decide_eq_true_eq,h1,if_true,Ky l stops low high k hk hl,U,asInt,ai (show k<9223372036854775807 by omega),pD];by_cases he:uE l stops low high k=0
   ·simp[he,Kz,gb]
   ·simp[he,Kz,gb,res]
  ·simp only[sK,decide_eq_true_eq,Int.lt_irrefl,if_false];rfl
  ·have:=bf;omega
theorem SJ(l:List cO)(stops low high:Int)(hl:l.length≤maxLen):lf [.rs 5 (l.map cO.pv),.int .i64 stops,.int .i64 low,.int .i64 high]=some (.int .i64 (ja l stops low high).2):=by
 have hm:=aY;simp only[lf,wh,aa,asInt,if_true,U,List.length_map,aW];unfold ja;split
 ·rfl
 ·rw[←OO];refine bL (fun k=>(l.map cO.pv,stops,low,high,(k:Int),())) l.length _ (fun k hk rec=>?_) (fun rec=>?_) ?_ rfl
  ·have h1:(k:Int)<(l.length:Int):=by omega
   simp only[ry,decide_eq_true_eq,List.length_map,h1,if_true,aQ,List.getElem?_map,List.getElem?_eq_getElem hk,Option.map_some,U,QU,ZG,QV,asInt,aW,ai (show k<9223372036854775807 by omega)];unfold uE Qx;rw[List.getElem?_eq_getElem hk];simp only;cases k with
   |zero=>
    have h0:decide (((0:Nat):Int)>0)=false:=by decide
    simp only[h0,cond_false,U,aW,Bool.or_false,Kx];generalize (decide (l[0].stop<0)||decide (l[0].stop≥stops))=A;generalize (decide (l[0].arr<low)||decide (l[0].arr>l[0].dep)||decide (l[0].dep>high))=B;cases A<;>cases B<;>rfl
   |succ j=>
    have h0:decide (((j+1:Nat):Int)>0)=true:=by rw[decide_eq_true_eq];omega
    have hj:j<l.length:=by omega
    have hc:decide (l[j+1].stop=l[j].stop)=decide (l[j].stop=l[j+1].stop):=by rw[Bool.eq_iff_iff];simp;exact eq_comm
    simp only[h0,cond_true,U,lW j (by omega),aQ,List.getElem?_map,List.getElem?_eq_getElem hj,Option.map_some,QU,QV,asInt,if_true,Kx,ga,aW,hc];generalize (decide (l[j+1].stop<0)||decide (l[j+1].stop≥stops))=A;generalize (decide (l[j+1].arr<low)||decide (l[j+1].arr>l[j+1].dep)||decide (l[j+1].dep>high))=B;generalize decide (l[j].stop=l[j+1].stop)=C;generalize decide (l[j+1].arr<l[j].dep)=D;cases A<;>cases B<;>cases C<;>cases D<;>rfl
  ·simp only[ry,decide_eq_true_eq,List.length_map,Int.lt_irrefl,if_false]
  ·have:=bf;omega
end Go.Ab.Tt
namespace Go.Ab.Tt
set_option maxRecDepth 100000
set_option linter.unusedVariables false
set_option linter.unusedSimpArgs false
structure dS where
 Bc:Int
 day:Int
 inst:Int
 id:Bytes
 eC:Int
 free:Bool
 Vh:Bool
 calls:List cO
 deriving DecidableEq
def dS.pv(x:dS):PV:=.agg [.int .i64 x.Bc,.int .i64 x.day,.int .i64 x.inst,.str x.id,.int .i64 x.eC,.bool x.free,.bool x.Vh,.rs 5 (x.calls.map cO.pv)]
structure dS.jQ(M:Nat)(x:dS):Prop where
 Bc:ma x.Bc
 day:ma x.day
 inst:ma x.inst
 id:x.id.length≤M
 eC:ma x.eC
 calls:x.calls.length≤M∧∀y∈x.calls,y.jQ M
abbrev dS.Ok(x:dS):Prop:=x.jQ maxLen
theorem uF(x:dS):cell x.pv 0=.int .i64 x.Bc:=rfl
theorem aaT(x:dS):cell x.pv 1=.int .i64 x.day:=rfl
theorem aaU(x:dS):cell x.pv 2=.int .i64 x.inst:=rfl
theorem aaV(x:dS):cell x.pv 3=.str x.id:=rfl
theorem J3(x:dS):cell x.pv 4=.int .i64 x.eC:=rfl
theorem aaG(x:dS):cell x.pv 5=.bool x.free:=rfl
theorem aaH(x:dS):cell x.pv 6=.bool x.Vh:=rfl
theorem zJ(x:dS):cell x.pv 7=.rs 5 (x.calls.map cO.pv):=rfl
structure bg where
 a:Int
 ac:Int
 b:Int
 bc:Int
 stay:Bool
 deriving DecidableEq
def bg.pv(x:bg):PV:=.agg [.int .i64 x.a,.int .i64 x.ac,.int .i64 x.b,.int .i64 x.bc,.bool x.stay]
structure bg.jQ(M:Nat)(x:bg):Prop where
 a:ma x.a
 ac:ma x.ac
 b:ma x.b
 bc:ma x.bc
abbrev bg.Ok(x:bg):Prop:=x.jQ maxLen
theorem Ez(x:bg):cell x.pv 0=.int .i64 x.a:=rfl
theorem J4(x:bg):cell x.pv 1=.int .i64 x.ac:=rfl
theorem link2(x:bg):cell x.pv 2=.int .i64 x.b:=rfl
theorem J5(x:bg):cell x.pv 3=.int .i64 x.bc:=rfl
theorem GP(x:bg):cell x.pv 4=.bool x.stay:=rfl
theorem Ev(x:Path):cell x.pv 0=.int .i64 x.a:=rfl
theorem Ew(x:Path):cell x.pv 1=.int .i64 x.b:=rfl
theorem GM(x:Path):cell x.pv 2=.int .i64 x.fa:=rfl
theorem Ey(x:Path):cell x.pv 3=.bool x.free:=rfl
structure ag where
 stops:List Stop
 au:List aG
 runs:List dS
 aJ:List bg
 paths:List Path
 aR:List aH
 bu:Int
 within:Int
 cap:Int
 deriving DecidableEq
def ag.pv(x:ag):PV:=.agg [.rs 4 (x.stops.map Stop.pv),.rs 3 (x.au.map aG.pv),.rs 8 (x.runs.map dS.pv),.rs 5 (x.aJ.map bg.pv),.rs 4 (x.paths.map Path.pv),.rs 6 (x.aR.map aH.pv),.int .i64 x.bu,.int .i64 x.within,.int .i64 x.cap]
structure ag.jQ(M:Nat)(x:ag):Prop where
 stops:x.stops.length≤M∧∀y∈x.stops,y.jQ M
 au:x.au.length≤M∧∀y∈x.au,y.jQ M
 runs:x.runs.length≤M∧∀y∈x.runs,y.jQ M
 aJ:x.aJ.length≤M∧∀y∈x.aJ,y.jQ M
 paths:x.paths.length≤M∧∀y∈x.paths,y.jQ M
 aR:x.aR.length≤M∧∀y∈x.aR,y.jQ M
 bu:ma x.bu
 within:ma x.within
 cap:ma x.cap
abbrev ag.Ok(x:ag):Prop:=x.jQ maxLen
theorem gL(x:ag):asAgg 9 x.pv=some ():=rfl
theorem gM(x:ag):aa 4 (cell x.pv 0)=some (x.stops.map Stop.pv):=rfl
theorem gN(x:ag):aa 3 (cell x.pv 1)=some (x.au.map aG.pv):=rfl
theorem gO(x:ag):aa 8 (cell x.pv 2)=some (x.runs.map dS.pv):=rfl
theorem gP(x:ag):aa 5 (cell x.pv 3)=some (x.aJ.map bg.pv):=rfl
theorem gQ(x:ag):aa 4 (cell x.pv 4)=some (x.paths.map Path.pv):=rfl
theorem gR(x:ag):aa 6 (cell x.pv 5)=some (x.aR.map aH.pv):=rfl
theorem gS(x:ag):asInt .i64 (cell x.pv 6)=some x.bu:=rfl
theorem gT(x:ag):asInt .i64 (cell x.pv 7)=some x.within:=rfl
theorem gU(x:ag):asInt .i64 (cell x.pv 8)=some x.cap:=rfl
theorem l8(x:ag):PV.agg [.rs 4 (x.stops.map Stop.pv),.rs 3 (x.au.map aG.pv),.rs 8 (x.runs.map dS.pv),.rs 5 (x.aJ.map bg.pv),.rs 4 (x.paths.map Path.pv),.rs 6 (x.aR.map aH.pv),.int .i64 x.bu,.int .i64 x.within,.int .i64 x.cap]=x.pv:=rfl
def r3(p i e:Int):PV:=.agg [.int .i64 p,.int .i64 i,.int .i64 e]
def prt(p:Int)(x:Int×Int):PV:=if x.2=0 then r3 0 0 0 else r3 p x.1 x.2
theorem QW(p i e:Int):asAgg 3 (r3 p i e)=some ():=rfl
theorem sL(p i e:Int):cell (r3 p i e) 0=.int .i64 p:=rfl
theorem rI(p i e:Int):cell (r3 p i e) 1=.int .i64 i:=rfl
theorem zR(p i e:Int):cell (r3 p i e) 2=.int .i64 e:=rfl
theorem ES(p i e:Int):aX [.int .i64 p,.int .i64 i,.int .i64 e]=some (r3 p i e):=rfl
theorem yR(n m:Int):cH [.int .i64 n,.int .i64 m]=some (.bool (decide (n≥0)&&decide (n<m))):=by simp only[cH,qM,asInt,if_true,U,aZ]
variable{R:Type}
theorem js(f:Nat→Int)(n:Nat)(g:Int→Int→R)(fin:Option R):gb ((List.range n).findSome? fun k=>if f k=0 then none else some (some (g k (f k)))) fin=if(bN f n).2=0 then fin else some (g (bN f n).1 (bN f n).2):=by
 unfold bN;have:(List.range n).findSome? (fun k=>if f k=0 then none else some (some (g k (f k))))=((List.range n).findSome? (fun k=>if f k=0 then none else some ((k:Int),f k))).map fun x=>some (g x.1 x.2):=by rw[List.map_findSome?];congr 1;funext k;by_cases h:f k=0<;>simp[h]
 rw[this];cases hf:(List.range n).findSome? (fun k=>if f k=0 then none else some ((k:Int),f k))with
 |none=>rfl
 |some x=>
  obtain⟨k,_,hk⟩:=List.exists_of_findSome?_eq_some hf;have hx:x.2≠0:=by
   by_cases h0:f k=0
   ·rw[if_pos h0]at hk;cases hk
   ·rw[if_neg h0]at hk;simp only[Option.some.injEq]at hk;subst hk;exact h0
  simp only[Option.map_some,gb];rw[if_neg hx]
theorem nJ(f:Nat→Int)(n:Nat):(bN f n).2=0↔∀k,k<n→f k=0:=by
 unfold bN;cases hf:(List.range n).findSome? (fun k=>if f k=0 then none else some ((k:Int),f k))with
 |none=>
  simp only[true_iff];intro k hk;rw[List.findSome?_eq_none_iff]at hf;have:=hf k (by simpa using hk);by_cases h0:f k=0
  ·exact h0
  ·rw[if_neg h0]at this;cases this
 |some x=>
  obtain⟨k,hk,hx⟩:=List.exists_of_findSome?_eq_some hf;by_cases h0:f k=0
  ·rw[if_pos h0]at hx;cases hx
  ·rw[if_neg h0]at hx;simp only[Option.some.injEq]at hx;subst hx;exact⟨fun h=>absurd h h0,fun h=>absurd (h k (by simpa using hk)) h0⟩
theorem xS{S:Type}{body:S→(S→Option R)→Option R}(st:Nat→S)(n:Nat)(bad:Nat→Option (Option R)){fin:Option R}(h:∀k,k<n→(∀j,j<k→bad j=none)→∀rec,body (st k) rec=gb (bad k) (rec (st (k+1))))(nv:(∀j,j<n→bad j=none)→∀rec,body (st n) rec=fin)(hn:n<rounds){s0:S}(h0:st 0=s0):bC.run body s0=gb ((List.range n).findSome? bad) fin:=by
 by_cases Cn:∀j,j<n→bad j=none
 ·have:(List.range n).findSome? bad=none:=by rw[List.findSome?_eq_none_iff];intro k hk;exact Cn k (by simpa using hk)
  rw[this];refine bT st n (fun k hk rec=>?_) (nv Cn) hn h0;rw[h k hk (fun j hj=>Cn j (by omega)),Cn k hk];rfl
 ·have hex:∃m,m<n∧bad m≠none∧∀j,j<m→bad j=none:=by
   have key:∀m,(∃i,i<m∧i<n∧bad i≠none)→∃m,m<n∧bad m≠none∧∀j,j<m→bad j=none:=by
    intro m;induction m with
    |zero=>rintro⟨i,hi,_⟩;omega
    |succ m ih=>
     intro hi;by_cases hc:∃i,i<m∧i<n∧bad i≠none
     ·exact ih hc
     ·obtain⟨i,h1,h2,h3⟩:=hi;have him:i=m:=by
       by_cases h:i<m
       ·exact absurd ⟨i,h,h2,h3⟩ hc
       ·omega
      subst him;refine⟨i,h2,h3,fun j hj=>?_⟩;cases hb:bad j with
      |none=>rfl
      |some x=>exact absurd ⟨j,hj,by omega,by rw[hb];exact fun h=>nomatch h⟩ hc
   have hc:∃i,i<n∧bad i≠none:=by
    by_cases hc:∃i,i<n∧bad i≠none
    ·exact hc
    ·refine absurd (fun j hj=>?_) Cn;cases hb:bad j with
     |none=>rfl
     |some x=>exact absurd ⟨j,hj,by rw[hb];exact fun h=>nomatch h⟩ hc
   obtain⟨i,h1,h2⟩:=hc;exact key n ⟨i,h1,h1,h2⟩
  obtain⟨m,hm,hb,bm⟩:=hex;cases hbm:bad m with
  |none=>exact absurd hbm hb
  |some x=>
   have hf:(List.range n).findSome? bad=some x:=by
    have hnm:n=m+(n-m):=by omega
    rw[hnm,List.range_add,List.findSome?_append];have h1:(List.range m).findSome? bad=none:=by rw[List.findSome?_eq_none_iff];intro k hk;exact bm k (by simpa using hk)
    rw[h1,Option.none_or];have hd:n-m=(n-m-1)+1:=by omega
    rw[hd,List.range_succ_eq_map,List.map_cons,List.findSome?_cons,Nat.add_zero,hbm]
   rw[hf];refine bT st m (fun k hk rec=>?_) (fun rec=>?_) (by omega) h0
   ·rw[h k (by omega) (fun j hj=>bm j (by omega)),bm k hk];rfl
   ·rw[h m hm bm,hbm];rfl
theorem QX{A:Type}[DecidableEq A](a b:List A)(h:a.length=b.length)(no fin:Option R):gb ((List.range a.length).findSome? fun k=>if a[k]?=b[k]? then none else some no) fin=if a=b then fin else no:=by
 by_cases sQ:a=b
 ·rw[if_pos sQ];have:(List.range a.length).findSome? (fun k=>if a[k]?=b[k]? then none else some no)=none:=by rw[List.findSome?_eq_none_iff];intro k _;rw[if_pos (by rw[sQ])]
  rw[this];rfl
 ·rw[if_neg sQ];cases hf:(List.range a.length).findSome? (fun k=>if a[k]?=b[k]? then none else some no)with
  |none=>
   refine absurd (List.ext_getElem? fun k=>?_) sQ;rw[List.findSome?_eq_none_iff]at hf;by_cases hk:k<a.length
   ·have:=hf k (by simpa using hk);by_cases h0:a[k]?=b[k]?
    ·exact h0
    ·rw[if_neg h0]at this;cases this
   ·rw[List.getElem?_eq_none (by omega),List.getElem?_eq_none (by omega)]
  |some x=>
   obtain⟨k,hk,hx⟩:=List.exists_of_findSome?_eq_some hf;by_cases h0:a[k]?=b[k]?
   ·rw[if_pos h0]at hx;cases hx
   ·rw[if_neg h0]at hx;simp only[Option.some.injEq]at hx;subst hx;rfl
end Go.Ab.Tt
