import Derived.Test.YtcmhmlnkhmefbaaTtChk0
import Derived.Test.YtcmhmlnkhmefbaaSh2
namespace Go.Ab.Tt
set_option maxRecDepth 100000
set_option linter.unusedVariables false
theorem ru(s:Bytes)(hs:s.length≤maxLen):dd [.str s]=some (.bool (gg s)):=by
 have hm:=c8;simp only[dd,rq,dh,U];refine(Ha s hs sj (some (.bool false)) (some (.bool (decide ((s.length:Int)>0)&&decide ((s.length:Int)≤32)))) (fun k hk rec=>?_) (fun rec=>?_)).trans ?_
 ·have h1:(k:Int)<(s.length:Int):=by omega
  simp only[mX,decide_eq_true_eq,h1,if_true,NY,List.getElem?_eq_getElem hk,U,iu,aI (show k<9223372036854775807 by omega),j6];generalize s[k]=b;unfold sj;generalize (decide (97≤(b.toNat:Int))&&decide ((b.toNat:Int)≤122))=x1;generalize (decide (65≤(b.toNat:Int))&&decide ((b.toNat:Int)≤90))=x2;generalize (decide (48≤(b.toNat:Int))&&decide ((b.toNat:Int)≤57))=x3;by_cases e4:(b.toNat:Int)=45<;>by_cases e5:(b.toNat:Int)=95<;>by_cases e6:(b.toNat:Int)=46<;>cases x1<;>cases x2<;>cases x3<;>simp[e4,e5,e6]
 ·simp only[mX,decide_eq_true_eq,Int.lt_irrefl,if_false,iu,U]
 ·unfold gg;cases s.all sj with
  |true=>simp only[if_true,Bool.and_true,Option.some.injEq,PV.bool.injEq];rw[Bool.eq_iff_iff];simp only[Bool.and_eq_true,decide_eq_true_eq];omega
  |false=>simp
def Jt(l:List Stop)(k:Nat):Int:=match l[k]? with
 |none=>0
 |some x=>if gg x.id=false then 12 else if x.id∈(l.map Stop.id).take k then 6 else if(decide (x.Hb<0)||decide (x.Hb≥16)||decide (x.change<0)||decide (x.change>3600))=true then 2 else 0
def j7(l:List Stop):Int×Int:=if l.length>64 then(0,5)else dI (Jt l) l.length
theorem K5(l:List Stop)(hl:l.length≤maxLen∧∀y∈l,y.Ok):fZ [.rs 4 (l.map Stop.pv)]=some (res (j7 l).1 (j7 l).2):=by
 have hm:=c8;simp only[fZ,tA,ae,if_true,U,List.length_map];unfold j7;by_cases As:l.length>64
 ·rw[if_pos (by simp;omega),if_pos As];rfl
 ·rw[if_neg (by simp;omega),if_neg As,←ry];refine cG (fun k=>(l.map Stop.pv,(l.length:Int),(k:Int),seen PV.str ((l.map Stop.id).take k),())) l.length _ (fun k hk rec=>?_) (fun rec=>?_) ?_ rfl
  ·have h1:(k:Int)<(l.length:Int):=by omega
   have hid:=ru l[k].id (hl.2 _ (List.getElem_mem hk)).id;have oc:=lv sk l[k].id ((l.map Stop.id).take k);have o9:=jD sk l[k].id ((l.map Stop.id).take k);simp only[oB,decide_eq_true_eq,h1,if_true,aV,List.getElem?_map,List.getElem?_eq_getElem hk,Option.map_some,U,Stop.pv,cell,PV.cells,List.getD_cons_zero,List.getD_cons_succ,dh,asInt,asBool,hid,oc,o9,cC,aI (show k<9223372036854775807 by omega),mY Stop.id l k hk];unfold Jt;rw[List.getElem?_eq_getElem hk];simp only;generalize (decide (l[k].Hb<0)||decide (l[k].Hb≥16)||decide (l[k].change<0)||decide (l[k].change>3600))=c;cases gg l[k].id with
   |false=>rfl
   |true=>
    by_cases cQ:l[k].id∈(l.map Stop.id).take k
    ·simp only[cQ,if_true,Bool.not_true,Bool.false_eq_true,Bool.true_eq_false,if_false];rfl
    ·simp only[cQ,if_true,Bool.not_true,Bool.false_eq_true,Bool.true_eq_false,if_false];cases c<;>rfl
  ·simp only[oB,decide_eq_true_eq,Int.lt_irrefl,if_false];rfl
  ·have:=c9;omega
end Go.Ab.Tt
namespace Go.Ab.Tt
set_option maxRecDepth 100000
set_option linter.unusedVariables false
set_option linter.unusedSimpArgs false
end Go.Ab.Tt
namespace Go.Ab.Tt
set_option maxRecDepth 100000
set_option linter.unusedVariables false
set_option linter.unusedSimpArgs false
def El(l:List aW)(k:Nat):Int:=match l[k]? with
 |none=>0
 |some x=>if gg x.id=false then 12 else if x.id∈(l.map aW.id).take k then 6 else if(decide (x.mode≥0)&&decide (x.mode<8))=false then 2 else 0
def j8(l:List aW):Int×Int:=if l.length>64 then(0,5)else dI (El l) l.length
theorem Hc(l:List aW)(hl:l.length≤maxLen∧∀y∈l,y.Ok):fp [.rs 3 (l.map aW.pv)]=some (res (j8 l).1 (j8 l).2):=by
 have hm:=c8;simp only[fp,rn,ae,if_true,U,List.length_map];unfold j8;by_cases As:l.length>64
 ·rw[if_pos (by simp;omega),if_pos As];rfl
 ·rw[if_neg (by simp;omega),if_neg As,←ry];refine cG (fun k=>(l.map aW.pv,(l.length:Int),(k:Int),seen PV.str ((l.map aW.id).take k),())) l.length _ (fun k hk rec=>?_) (fun rec=>?_) ?_ rfl
  ·have h1:(k:Int)<(l.length:Int):=by omega
   have hid:=ru l[k].id (hl.2 _ (List.getElem_mem hk)).id;have oc:=lv sk l[k].id ((l.map aW.id).take k);have o9:=jD sk l[k].id ((l.map aW.id).take k);simp only[mZ,decide_eq_true_eq,h1,if_true,aV,List.getElem?_map,List.getElem?_eq_getElem hk,Option.map_some,U,aW.pv,cell,PV.cells,List.getD_cons_zero,List.getD_cons_succ,dh,asInt,asBool,hid,oc,o9,cC,aI (show k<9223372036854775807 by omega),mY aW.id l k hk,gu,ri,iu];unfold El;rw[List.getElem?_eq_getElem hk];simp only;generalize (decide (l[k].mode≥0)&&decide (l[k].mode<8))=c;cases gg l[k].id with
   |false=>rfl
   |true=>
    by_cases cQ:l[k].id∈(l.map aW.id).take k
    ·simp only[cQ,if_true,Bool.not_true,Bool.false_eq_true,Bool.true_eq_false,if_false];rfl
    ·simp only[cQ,if_true,Bool.not_true,Bool.false_eq_true,Bool.true_eq_false,if_false];cases c<;>rfl
  ·simp only[mZ,decide_eq_true_eq,Int.lt_irrefl,if_false];rfl
  ·have:=c9;omega
end Go.Ab.Tt
namespace Go.Ab.Tt
set_option maxRecDepth 100000
set_option linter.unusedVariables false
set_option linter.unusedSimpArgs false
def wi(n a b:Int):Bool:=decide (n≥a)&&decide (n≤b)
theorem w8(n a b:Int):bf [.int .i64 n,.int .i64 a,.int .i64 b]=some (.bool (wi n a b)):=by simp only[bf,mV,asInt,if_true,U,iu];rfl
theorem aaS(x:bX):cell x.pv 0=.str x.id:=rfl
theorem aaT(x:bX):cell x.pv 1=.int .i64 x.Bv:=rfl
theorem aaU(x:bX):cell x.pv 2=.int .i64 x.Bw:=rfl
theorem aaV(x:bX):cell x.pv 3=.int .i64 x.Bx:=rfl
theorem aaW(x:bX):cell x.pv 4=.int .i64 x.bP:=rfl
theorem aaX(x:bX):cell x.pv 5=.int .i64 x.Bz:=rfl
def CK(x:bX):Bool:= !wi x.Bv 0 1000000|| !wi x.Bw 1 8|| !wi x.Bx 1 16|| !wi x.bP 0 86400|| !wi x.Bz 1 255
def Ju(l:List bX)(k:Nat):Int:=match l[k]? with
 |none=>0
 |some x=>if gg x.id=false then 12 else if x.id∈(l.map bX.id).take k then 6 else if CK x=true then 2 else 0
def CL(l:List bX)(cM within cap:Int):PV:=.agg [.rs 6 (l.map bX.pv),.int .i64 cM,.int .i64 within,.int .i64 cap]
def nI(l:List bX)(cM within cap:Int):Int×Int:=if(!wi cM 0 1000000|| !wi within 0 86400|| !wi cap 0 1000000)=true then(-1,2)else if l.length>16 then(0,5)else dI (Ju l) l.length
theorem Hd(l:List bX)(cM within cap:Int)(hl:l.length≤maxLen∧∀y∈l,y.Ok):cK [CL l cM within cap]=some (res (nI l cM within cap).1 (nI l cM within cap).2):=by
 have hm:=c8;simp only[cK,oi,CL,asAgg,cell,PV.cells,List.getD_cons_zero,List.getD_cons_succ,List.length_cons,List.length_nil,Nat.reduceAdd,ae,asInt,asBool,if_true,U,List.length_map,w8,cC];unfold nI;generalize (!wi cM 0 1000000|| !wi within 0 86400|| !wi cap 0 1000000)=c;cases c with
 |true=>rfl
 |false=>
  simp only[Bool.false_eq_true,if_false];by_cases As:l.length>16
  ·rw[if_pos (by simp;omega),if_pos As];rfl
  ·rw[if_neg (by simp;omega),if_neg As,←ry];refine cG (fun k=>(l.map bX.pv,(l.length:Int),(k:Int),seen PV.str ((l.map bX.id).take k),())) l.length _ (fun k hk rec=>?_) (fun rec=>?_) ?_ rfl
   ·have h1:(k:Int)<(l.length:Int):=by omega
    have hid:=ru l[k].id (hl.2 _ (List.getElem_mem hk)).id;have oc:=lv sk l[k].id ((l.map bX.id).take k);have o9:=jD sk l[k].id ((l.map bX.id).take k);simp only[kN,decide_eq_true_eq,h1,if_true,aV,List.getElem?_map,List.getElem?_eq_getElem hk,Option.map_some,U,aaS,aaT,aaU,aaV,aaW,aaX,dh,asInt,asBool,hid,oc,o9,w8,cC,aI (show k<9223372036854775807 by omega),mY bX.id l k hk];unfold Ju;rw[List.getElem?_eq_getElem hk];have hb:(!wi l[k].Bv 0 1000000|| !wi l[k].Bw 1 8|| !wi l[k].Bx 1 16|| !wi l[k].bP 0 86400|| !wi l[k].Bz 1 255)=CK l[k]:=rfl;simp only[hb];generalize CK l[k]=c;cases gg l[k].id with
    |false=>rfl
    |true=>
     by_cases cQ:l[k].id∈(l.map bX.id).take k
     ·simp only[cQ,if_true,Bool.not_true,Bool.false_eq_true,Bool.true_eq_false,if_false];rfl
     ·simp only[cQ,if_true,Bool.not_true,Bool.false_eq_true,Bool.true_eq_false,if_false];cases c<;>rfl
   ·simp only[kN,decide_eq_true_eq,Int.lt_irrefl,if_false];rfl
   ·have:=c9;omega
end Go.Ab.Tt
namespace Go.Ab.Tt
set_option maxRecDepth 100000
set_option linter.unusedVariables false
set_option linter.unusedSimpArgs false
theorem NZ(x:an):cell x.pv 0=.int .i64 x.stop:=rfl
theorem zA(x:an):cell x.pv 1=.int .i64 x.arr:=rfl
theorem BA(x:an):cell x.pv 2=.int .i64 x.dep:=rfl
def iE(l:List an):Nat→Option an
 |0=>none
 |k+1=>l[k]?
def kB(c:an)(p:Option an)(stops low high:Int):Int:=
 if(decide (c.stop<0)||decide (c.stop≥stops))=true then 9
 else if(match p with|some p=>decide (p.stop=c.stop)|none=>false)=true then 13
 else if(decide (c.arr<low)||decide (c.arr>c.dep)||decide (c.dep>high)||(match p with|some p=>decide (c.arr<p.dep)|none=>false))=true then 10 else 0
def lY(l:List an)(stops low high:Int)(k:Nat):Int:=match l[k]? with
 |none=>0
 |some c=>kB c (iE l k) stops low high
def bx(l:List an)(stops low high:Int):Int×Int:=if(decide ((l.length:Int)<2)||decide ((l.length:Int)>32))=true then(0,5)else dI (lY l stops low high) l.length
theorem vM(j:Nat)(h:j<9223372036854775807):IntKind.i64.wrap (((j+1:Nat):Int)-1)=(j:Int):=by rw[ic (by omega) (by omega)];omega
theorem Em(l:List an)(stops low high:Int)(k:Nat)(hk:k<l.length)(hl:l.length≤maxLen):ji [.rs 5 (l.map an.pv),.int .i64 k,.int .i64 stops,.int .i64 low,.int .i64 high]=some (.int .i64 (lY l stops low high k)):=by
 have hm:=c8;simp only[ji,zz,ae,asInt,if_true,U,aV,List.getElem?_map,List.getElem?_eq_getElem hk,Option.map_some,NZ,zA,BA,cC];unfold lY kB;rw[List.getElem?_eq_getElem hk];simp only;cases k with
 |zero=>
  have h0:decide (((0:Nat):Int)>0)=false:=by decide
  simp only[h0,cond_false,U,cC,Bool.or_false,iE];generalize (decide (l[0].stop<0)||decide (l[0].stop≥stops))=A;generalize (decide (l[0].arr<low)||decide (l[0].arr>l[0].dep)||decide (l[0].dep>high))=B;cases A<;>cases B<;>rfl
 |succ j=>
  have h0:decide (((j+1:Nat):Int)>0)=true:=by rw[decide_eq_true_eq];omega
  have hj:j<l.length:=by omega
  simp only[h0,cond_true,U,vM j (by omega),aV,List.getElem?_map,List.getElem?_eq_getElem hj,Option.map_some,NZ,BA,asInt,if_true,iE,j6,cC];generalize (decide (l[j+1].stop<0)||decide (l[j+1].stop≥stops))=A;generalize (decide (l[j+1].arr<low)||decide (l[j+1].arr>l[j+1].dep)||decide (l[j+1].dep>high))=B;generalize decide (l[j].stop=l[j+1].stop)=C;generalize decide (l[j+1].arr<l[j].dep)=D;cases A<;>cases B<;>cases C<;>cases D<;>rfl
theorem me(l:List an)(stops low high:Int)(hl:l.length≤maxLen):df [.rs 5 (l.map an.pv),.int .i64 stops,.int .i64 low,.int .i64 high]=some (res (bx l stops low high).1 (bx l stops low high).2):=by
 have hm:=c8;simp only[df,tz,ae,asInt,if_true,U,List.length_map,cC];unfold bx;split
 ·rfl
 ·rw[←ry];refine cG (fun k=>(l.map an.pv,stops,low,high,(l.length:Int),(k:Int),())) l.length _ (fun k hk rec=>?_) (fun rec=>?_) ?_ rfl
  ·have h1:(k:Int)<(l.length:Int):=by omega
   simp only[oC,decide_eq_true_eq,h1,if_true,Em l stops low high k hk hl,U,asInt,aI (show k<9223372036854775807 by omega),sV];by_cases he:lY l stops low high k=0
   ·simp[he,En,eP]
   ·simp[he,En,eP,res]
  ·simp only[oC,decide_eq_true_eq,Int.lt_irrefl,if_false];rfl
  ·have:=c9;omega
end Go.Ab.Tt
namespace Go.Ab.Tt
set_option maxRecDepth 100000
set_option linter.unusedVariables false
set_option linter.unusedSimpArgs false
structure cz where
 dA:Int
 day:Int
 inst:Int
 id:Bytes
 bd:Int
 free:Bool
 pJ:Bool
 calls:List an
 deriving DecidableEq
def cz.pv(x:cz):PV:=.agg [.int .i64 x.dA,.int .i64 x.day,.int .i64 x.inst,.str x.id,.int .i64 x.bd,.bool x.free,.bool x.pJ,.rs 5 (x.calls.map an.pv)]
structure cz.iQ(M:Nat)(x:cz):Prop where
 dA:ja x.dA
 day:ja x.day
 inst:ja x.inst
 id:x.id.length≤M
 bd:ja x.bd
 calls:x.calls.length≤M∧∀y∈x.calls,y.iQ M
abbrev cz.Ok(x:cz):Prop:=x.iQ maxLen
theorem aaY(r:cz):asAgg 8 r.pv=some ():=rfl
theorem WK(r:cz):PV.agg [cell r.pv 0,cell r.pv 1,cell r.pv 2,cell r.pv 3,cell r.pv 4,cell r.pv 5,cell r.pv 6,cell r.pv 7]=r.pv:=rfl
theorem TN(x:cz):cell x.pv 0=.int .i64 x.dA:=rfl
theorem QC(x:cz):cell x.pv 1=.int .i64 x.day:=rfl
theorem QD(x:cz):cell x.pv 2=.int .i64 x.inst:=rfl
theorem QE(x:cz):cell x.pv 3=.str x.id:=rfl
theorem TO(x:cz):cell x.pv 4=.int .i64 x.bd:=rfl
theorem WL(x:cz):cell x.pv 5=.bool x.free:=rfl
theorem WM(x:cz):cell x.pv 6=.bool x.pJ:=rfl
theorem He(x:cz):cell x.pv 7=.rs 5 (x.calls.map an.pv):=rfl
structure aM where
 a:Int
 ac:Int
 b:Int
 bc:Int
 stay:Bool
 deriving DecidableEq
def aM.pv(x:aM):PV:=.agg [.int .i64 x.a,.int .i64 x.ac,.int .i64 x.b,.int .i64 x.bc,.bool x.stay]
structure aM.iQ(M:Nat)(x:aM):Prop where
 a:ja x.a
 ac:ja x.ac
 b:ja x.b
 bc:ja x.bc
abbrev aM.Ok(x:aM):Prop:=x.iQ maxLen
theorem RY(x:aM):cell x.pv 0=.int .i64 x.a:=rfl
theorem RZ(x:aM):cell x.pv 1=.int .i64 x.ac:=rfl
theorem link2(x:aM):cell x.pv 2=.int .i64 x.b:=rfl
theorem R0(x:aM):cell x.pv 3=.int .i64 x.bc:=rfl
theorem R1(x:aM):cell x.pv 4=.bool x.stay:=rfl
theorem N0(x:Path):cell x.pv 0=.int .i64 x.a:=rfl
theorem N1(x:Path):cell x.pv 1=.int .i64 x.b:=rfl
theorem N2(x:Path):cell x.pv 2=.int .i64 x.bP:=rfl
theorem N3(x:Path):cell x.pv 3=.bool x.free:=rfl
structure aj where
 stops:List Stop
 ao:List aW
 runs:List cz
 aJ:List aM
 paths:List Path
 aU:List bX
 cM:Int
 within:Int
 cap:Int
 deriving DecidableEq
def aj.pv(x:aj):PV:=.agg [.rs 4 (x.stops.map Stop.pv),.rs 3 (x.ao.map aW.pv),.rs 8 (x.runs.map cz.pv),.rs 5 (x.aJ.map aM.pv),.rs 4 (x.paths.map Path.pv),.rs 6 (x.aU.map bX.pv),.int .i64 x.cM,.int .i64 x.within,.int .i64 x.cap]
structure aj.iQ(M:Nat)(x:aj):Prop where
 stops:x.stops.length≤M∧∀y∈x.stops,y.iQ M
 ao:x.ao.length≤M∧∀y∈x.ao,y.iQ M
 runs:x.runs.length≤M∧∀y∈x.runs,y.iQ M
 aJ:x.aJ.length≤M∧∀y∈x.aJ,y.iQ M
 paths:x.paths.length≤M∧∀y∈x.paths,y.iQ M
 aU:x.aU.length≤M∧∀y∈x.aU,y.iQ M
 cM:ja x.cM
 within:ja x.within
 cap:ja x.cap
abbrev aj.Ok(x:aj):Prop:=x.iQ maxLen
theorem uF(x:aj):asAgg 9 x.pv=some ():=rfl
theorem vN(x:aj):ae 4 (cell x.pv 0)=some (x.stops.map Stop.pv):=rfl
theorem vO(x:aj):ae 3 (cell x.pv 1)=some (x.ao.map aW.pv):=rfl
theorem vP(x:aj):ae 8 (cell x.pv 2)=some (x.runs.map cz.pv):=rfl
theorem vQ(x:aj):ae 5 (cell x.pv 3)=some (x.aJ.map aM.pv):=rfl
theorem vR(x:aj):ae 4 (cell x.pv 4)=some (x.paths.map Path.pv):=rfl
theorem vS(x:aj):ae 6 (cell x.pv 5)=some (x.aU.map bX.pv):=rfl
theorem vT(x:aj):asInt .i64 (cell x.pv 6)=some x.cM:=rfl
theorem vU(x:aj):asInt .i64 (cell x.pv 7)=some x.within:=rfl
theorem vV(x:aj):asInt .i64 (cell x.pv 8)=some x.cap:=rfl
theorem K6(x:aj):PV.agg [.rs 4 (x.stops.map Stop.pv),.rs 3 (x.ao.map aW.pv),.rs 8 (x.runs.map cz.pv),.rs 5 (x.aJ.map aM.pv),.rs 4 (x.paths.map Path.pv),.rs 6 (x.aU.map bX.pv),.int .i64 x.cM,.int .i64 x.within,.int .i64 x.cap]=x.pv:=rfl
def r3(p i e:Int):PV:=.agg [.int .i64 p,.int .i64 i,.int .i64 e]
def prt(p:Int)(x:Int×Int):PV:=if x.2=0 then r3 0 0 0 else r3 p x.1 x.2
theorem Jv(p i e:Int):asAgg 3 (r3 p i e)=some ():=rfl
theorem zB(p i e:Int):cell (r3 p i e) 0=.int .i64 p:=rfl
theorem va(p i e:Int):cell (r3 p i e) 1=.int .i64 i:=rfl
theorem CM(p i e:Int):cell (r3 p i e) 2=.int .i64 e:=rfl
theorem zC(p i e:Int):aK [.int .i64 p,.int .i64 i,.int .i64 e]=some (r3 p i e):=rfl
theorem tB(n m:Int):bE [.int .i64 n,.int .i64 m]=some (.bool (decide (n≥0)&&decide (n<m))):=by simp only[bE,mT,asInt,if_true,U,iu]
variable{R:Type}
theorem pa(f:Nat→Int)(n:Nat)(g:Int→Int→R)(fin:Option R):eP ((List.range n).findSome? fun k=>if f k=0 then none else some (some (g k (f k)))) fin=if(dI f n).2=0 then fin else some (g (dI f n).1 (dI f n).2):=by
 unfold dI;have:(List.range n).findSome? (fun k=>if f k=0 then none else some (some (g k (f k))))=((List.range n).findSome? (fun k=>if f k=0 then none else some ((k:Int),f k))).map fun x=>some (g x.1 x.2):=by rw[List.map_findSome?];congr 1;funext k;by_cases h:f k=0<;>simp[h]
 rw[this];cases hf:(List.range n).findSome? (fun k=>if f k=0 then none else some ((k:Int),f k))with
 |none=>rfl
 |some x=>
  obtain⟨k,_,hk⟩:=List.exists_of_findSome?_eq_some hf;have hx:x.2≠0:=by
   by_cases h0:f k=0
   ·rw[if_pos h0]at hk;cases hk
   ·rw[if_neg h0]at hk;simp only[Option.some.injEq]at hk;subst hk;exact h0
  simp only[Option.map_some,eP];rw[if_neg hx]
theorem kO(f:Nat→Int)(n:Nat):(dI f n).2=0↔∀k,k<n→f k=0:=by
 unfold dI;cases hf:(List.range n).findSome? (fun k=>if f k=0 then none else some ((k:Int),f k))with
 |none=>
  simp only[true_iff];intro k hk;rw[List.findSome?_eq_none_iff]at hf;have:=hf k (by simpa using hk);by_cases h0:f k=0
  ·exact h0
  ·rw[if_neg h0]at this;cases this
 |some x=>
  obtain⟨k,hk,hx⟩:=List.exists_of_findSome?_eq_some hf;by_cases h0:f k=0
  ·rw[if_pos h0]at hx;cases hx
  ·rw[if_neg h0]at hx;simp only[Option.some.injEq]at hx;subst hx;exact⟨fun h=>absurd h h0,fun h=>absurd (h k (by simpa using hk)) h0⟩
theorem AB{S:Type}{body:S→(S→Option R)→Option R}(st:Nat→S)(n:Nat)(bad:Nat→Option (Option R)){fin:Option R}(h:∀k,k<n→(∀j,j<k→bad j=none)→∀rec,body (st k) rec=eP (bad k) (rec (st (k+1))))(mz:(∀j,j<n→bad j=none)→∀rec,body (st n) rec=fin)(hn:n<rounds){s0:S}(h0:st 0=s0):dM.run body s0=eP ((List.range n).findSome? bad) fin:=by
 by_cases xz:∀j,j<n→bad j=none
 ·have:(List.range n).findSome? bad=none:=by rw[List.findSome?_eq_none_iff];intro k hk;exact xz k (by simpa using hk)
  rw[this];refine cU st n (fun k hk rec=>?_) (mz xz) hn h0;rw[h k hk (fun j hj=>xz j (by omega)),xz k hk];rfl
 ·have hex:∃m,m<n∧bad m≠none∧∀j,j<m→bad j=none:=by
   have key:∀m,(∃i,i<m∧i<n∧bad i≠none)→∃m,m<n∧bad m≠none∧∀j,j<m→bad j=none:=by
    intro m;induction m with
    |zero=>rintro⟨i,hi,_⟩;omega
    |succ m ih=>
     intro hi;by_cases hc:∃i,i<m∧i<n∧bad i≠none
     ·exact ih hc
     ·obtain⟨i,h1,h2,h3⟩:=hi;have him:i=m:=by
       by_cases h:i<m
       ·exact absurd ⟨i,h,h2,h3⟩ hc
       ·omega
      subst him;refine⟨i,h2,h3,fun j hj=>?_⟩;cases hb:bad j with
      |none=>rfl
      |some x=>exact absurd ⟨j,hj,by omega,by rw[hb];exact fun h=>nomatch h⟩ hc
   have hc:∃i,i<n∧bad i≠none:=by
    by_cases hc:∃i,i<n∧bad i≠none
    ·exact hc
    ·refine absurd (fun j hj=>?_) xz;cases hb:bad j with
     |none=>rfl
     |some x=>exact absurd ⟨j,hj,by rw[hb];exact fun h=>nomatch h⟩ hc
   obtain⟨i,h1,h2⟩:=hc;exact key n ⟨i,h1,h1,h2⟩
  obtain⟨m,hm,hb,ba⟩:=hex;cases Wc:bad m with
  |none=>exact absurd Wc hb
  |some x=>
   have hf:(List.range n).findSome? bad=some x:=by
    have UE:n=m+(n-m):=by omega
    rw[UE,List.range_add,List.findSome?_append];have h1:(List.range m).findSome? bad=none:=by rw[List.findSome?_eq_none_iff];intro k hk;exact ba k (by simpa using hk)
    rw[h1,Option.none_or];have hd:n-m=(n-m-1)+1:=by omega
    rw[hd,List.range_succ_eq_map,List.map_cons,List.findSome?_cons,Nat.add_zero,Wc]
   rw[hf];refine cU st m (fun k hk rec=>?_) (fun rec=>?_) (by omega) h0
   ·rw[h k (by omega) (fun j hj=>ba j (by omega)),ba k hk];rfl
   ·rw[h m hm ba,Wc];rfl
theorem xN{A:Type}[DecidableEq A](a b:List A)(h:a.length=b.length)(no fin:Option R):eP ((List.range a.length).findSome? fun k=>if a[k]?=b[k]? then none else some no) fin=if a=b then fin else no:=by
 by_cases oH:a=b
 ·rw[if_pos oH];have:(List.range a.length).findSome? (fun k=>if a[k]?=b[k]? then none else some no)=none:=by rw[List.findSome?_eq_none_iff];intro k _;rw[if_pos (by rw[oH])]
  rw[this];rfl
 ·rw[if_neg oH];cases hf:(List.range a.length).findSome? (fun k=>if a[k]?=b[k]? then none else some no)with
  |none=>
   refine absurd (List.ext_getElem? fun k=>?_) oH;rw[List.findSome?_eq_none_iff]at hf;by_cases hk:k<a.length
   ·have:=hf k (by simpa using hk);by_cases h0:a[k]?=b[k]?
    ·exact h0
    ·rw[if_neg h0]at this;cases this
   ·rw[List.getElem?_eq_none (by omega),List.getElem?_eq_none (by omega)]
  |some x=>
   obtain⟨k,hk,hx⟩:=List.exists_of_findSome?_eq_some hf;by_cases h0:a[k]?=b[k]?
   ·rw[if_pos h0]at hx;cases hx
   ·rw[if_neg h0]at hx;simp only[Option.some.injEq]at hx;subst hx;rfl
end Go.Ab.Tt
