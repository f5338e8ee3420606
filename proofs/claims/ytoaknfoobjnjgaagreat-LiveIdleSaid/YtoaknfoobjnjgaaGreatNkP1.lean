import Derived.Test.YtoaknfoobjnjgaaGreatTtChk0
import Derived.Test.YtoaknfoobjnjgaaGreatSh4
set_option linter.all false
namespace Go.Ab.Tt
set_option maxRecDepth 100000
theorem tL(s:Bytes)(hs:s.length≤maxLen):dW [.str s]=some (.bool (dV s)):=by
 have hm:=aL;simp only[dW,zp,bt,U];refine(Ia s hs qn (some (.bool false)) (some (.bool (decide ((s.length:Int)>0)&&decide ((s.length:Int)≤32)))) (fun k hk rec=>?_) (fun rec=>?_)).trans ?_
 ·have h1:(k:Int)<(s.length:Int):=by omega
  simp only[tM,te,h1,IS,OS,ta hk,U,bL,ah (show k<9223372036854775807 by omega),dY];grind [qn,decide]
 ·simp[tM,te,anN,PS,bL,U]
 ·unfold dV;cases s.all qn with
  |true=>simp only[IS,apd,tb,PV.bool.injEq];grind
  |false=>simp
theorem VR{body:Bytes×Int×Unit→(Bytes×Int×Unit→Option PV)→Option PV}(s:Bytes)(hs:s.length≤maxLen)(h:∀k,(hk:k<s.length)→∀rec,body (s,(k:Int),()) rec=if qn s[k]then rec (s,((k+1:Nat):Int),())else some (.bool false))(lZ:∀rec,body (s,(s.length:Int),()) rec=some (.bool true)){c:Bool}(hc:c= !(decide (1≤s.length)&&decide (s.length≤32))):(if c=true then some (.bool false)else bd.run body (s,0,()))=some (.bool (dV s)):=by rw[Ia s hs qn _ _ h lZ,hc];unfold dV;grind
theorem xJ(s:Bytes)(hs:s.length≤maxLen):fF [.str s]=some (.bool (dV s)):=by
 have hm:=aL;simp only[fF,vF,bt,U,aT];refine VR s hs (fun k hk rec=>?_) (fun rec=>?_) ?_
 ·have h1:(k:Int)<(s.length:Int):=by omega
  simp only[qo,te,h1,IS,OS,ta hk,U,bL,aT,ah (show k<9223372036854775807 by omega),gd];grind [qn,ge_iff_le,decide]
 ·simp[qo,te,anN,PS]
 grind
def Mk(l:List Stop)(k:Nat):Int:=match l[k]? with
 |none=>0
 |some x=>if dV x.id=false then 12 else if x.id∈(l.map Stop.id).take k then 6 else if(decide (x.AV<0)||decide (x.AV≥16)||decide (x.change<0)||decide (x.change>3600))=true then 2 else 0
def fP(l:List Stop):Int×Int:=if l.length>64 then(0,5)else bM (Mk l) l.length
theorem KB(l:List Stop)(hl:l.length≤maxLen∧∀y∈l,y.Ok):oW [.rs 4 (l.map Stop.pv)]=some (res (fP l).1 (fP l).2):=by
 have hm:=aL;simp only[oW,B7,ak,IS,U,By];unfold fP;by_cases pU:l.length>64
 ·rw[BY (by simp;omega),BY pU];rfl
 ·rw[IT (by simp;omega),IT pU,←gT];refine aO (fun k=>(l.map Stop.pv,(l.length:Int),(k:Int),seen PV.str ((l.map Stop.id).take k),())) l.length _ (fun k hk rec=>?_) (fun rec=>?_) ?_ rfl
  ·have h1:(k:Int)<(l.length:Int):=by omega
   have hid:=tL l[k].id (hl.2 _ (agZ hk)).id;have mW:=fK qJ l[k].id ((l.map Stop.id).take k);have kx:=eQ qJ l[k].id ((l.map Stop.id).take k);simp only[vG,te,h1,IS,af,AT,ta hk,No,U,Stop.pv,cell,PV.cells,aki,amr,bt,asInt,asBool,hid,mW,kx,aT,ah (show k<9223372036854775807 by omega),jU Stop.id l k hk];unfold Mk;rw[ta hk];simp only;generalize (decide (l[k].AV<0)||decide (l[k].AV≥16)||decide (l[k].change<0)||decide (l[k].change>3600))=c;cases dV l[k].id with
   |false=>rfl
   |true=>
    by_cases bu:l[k].id∈(l.map Stop.id).take k
    ·simp only[bu,IS,ag0,tc,anE,PS];rfl
    ·simp only[bu,IS,ag0,tc,anE,PS];cases c<;>rfl
  ·simp only[vG,te,anN,PS];rfl
  ·have:=aN;omega
theorem Ib(n a b:Int):bQ [.int .i64 n,.int .i64 a,.int .i64 b]=some (.bool (decide (n≥a)&&decide (n≤b))):=by simp[bQ,Ic,asInt,IS,U,bL]
theorem Ml(x:Stop):cell x.pv 0=.str x.id:=rfl
theorem adq(x:Stop):cell x.pv 1=.int .i64 x.AV:=rfl
theorem adr(x:Stop):cell x.pv 3=.int .i64 x.change:=rfl
theorem OT{R:Type}(ids:List Bytes)(i:Nat)(hi:i<ids.length)(no fin:Option R):bP ((List.range i).findSome? fun k=>if decide (ids[k]?=some ids[i])=true then some no else none) fin=if ids[i]∈ids.take i then no else fin:=by
 rw[nT (fun k=>decide (ids[k]?=some ids[i])) (fun _=>no)];cases hf:(List.range i).find? fun k=>decide (ids[k]?=some ids[i])with
 |none=>
  have hn:ids[i]∉ids.take i:=fun bu=>by obtain⟨j,hj⟩:=anI.1 bu;grind
  rw[IT hn];rfl
 |some j=>rw[aqi]at hf;obtain⟨h1,h2,_⟩:=hf;have bu:ids[i]∈ids.take i:=anI.2 ⟨j,by simp_all⟩;rw[BY bu];rfl
theorem OU(l:List Stop)(hl:l.length≤maxLen)(i:Nat)(hi:i<l.length)(rM:List PV×Int×Unit→Option PV):bd.run (oX rM) (l.map Stop.pv,(i:Int),0,())=if(l.map Stop.id)[i]'(by simpa using hi)∈(l.map Stop.id).take i then some (res i 6)else if(decide (l[i].AV<0)||decide (l[i].AV≥16)||decide (l[i].change<0)||decide (l[i].change>3600))=true then some (res i 2)else rM (l.map Stop.pv,IntKind.i64.wrap ((i:Int)+1),()):=by
 have hm:=aL;have SS:(l.map Stop.pv)[i]?=some l[i].pv:=by simp_all
 have UG:i<(l.map Stop.id).length:=by simpa using hi
 have al0:(l.map Stop.id)[i]=l[i].id:=by simp
 rw[←OT (l.map Stop.id) i UG];refine aO (fun k=>(l.map Stop.pv,(i:Int),(k:Int),())) i (fun k=>if decide ((l.map Stop.id)[k]?=some (l.map Stop.id)[i])=true then some (some (res i 6))else none) (fun k hk rec=>?_) (fun rec=>?_) ?_ rfl
 ·have h1:decide ((k:Int)<(i:Int))=true:=by simp;omega
  have nM:k<l.length:=by omega
  have hgk:(l.map Stop.pv)[k]?=some l[k].pv:=by simp_all
  have hdk:decide ((l.map Stop.id)[k]?=some (l.map Stop.id)[i])=decide (l[k].id=l[i].id):=by simp_all
  unfold oX;dsimp only;rw[BY h1,af,hgk,U,Ml,af,SS,ah (by omega),hdk];simp only[bt,U,Ml,dY];cases decide (l[k].id=l[i].id)<;>rfl
 ·unfold oX;dsimp only;rw[IT (by simp),af,SS];simp only[U,adq,adr,asInt,IS,Ib,asBool,aT];have:(!(decide (l[i].AV≥0)&&decide (l[i].AV≤15))|| !(decide (l[i].change≥0)&&decide (l[i].change≤3600)))=(decide (l[i].AV<0)||decide (l[i].AV≥16)||decide (l[i].change<0)||decide (l[i].change>3600)):=by grind
  rw[this];rfl
 ·have:=aN;omega
theorem VS(l:List Stop)(hl:l.length≤maxLen∧∀y∈l,y.Ok):qK [.rs 4 (l.map Stop.pv)]=some (res (fP l).1 (fP l).2):=by
 have hm:=aL;simp only[qK,zq,ak,IS,U,By];unfold fP;by_cases pU:l.length>64
 ·rw[BY (by simp;omega),BY pU];rfl
 ·rw[IT (by simp;omega),IT pU,←gT];refine aO (fun k=>(l.map Stop.pv,(k:Int),())) l.length _ (fun k hk rec=>?_) (fun rec=>?_) ?_ rfl
  ·have h1:decide ((k:Int)<((l.map Stop.pv).length:Int))=true:=by simp;omega
   have hgk:(l.map Stop.pv)[k]?=some l[k].pv:=by simp_all
   have hid:=xJ l[k].id (hl.2 _ (agZ hk)).id;have afV:(l.map Stop.id)[k]'(by simpa using hk)=l[k].id:=by simp
   unfold tN;dsimp only;rw[BY h1,af,hgk,U,Ml];simp only[bt,U,hid,asBool];rw[OU l hl.1 k hk rec,afV,ah (by omega)];unfold Mk;rw[ta hk];simp only;generalize (decide (l[k].AV<0)||decide (l[k].AV≥16)||decide (l[k].change<0)||decide (l[k].change>3600))=c;cases dV l[k].id with
   |false=>rfl
   |true=>
    by_cases bu:l[k].id∈(l.map Stop.id).take k
    ·simp only[bu,IS,ag0,tc,anE,PS];rfl
    ·simp only[bu,IS,ag0,tc,anE,PS];cases c<;>rfl
  ·unfold tN;dsimp only;rw[IT (by simp)];rfl
  ·have:=aN;omega
theorem Ie(x:az):cell x.pv 0=.str x.id:=rfl
theorem Zk(x:az):cell x.pv 1=.int .i64 x.mode:=rfl
def Ig(l:List az)(k:Nat):Int:=match l[k]? with
 |none=>0
 |some x=>if dV x.id=false then 12 else if x.id∈(l.map az.id).take k then 6 else if(decide (x.mode≥0)&&decide (x.mode<8))=false then 2 else 0
def ec(l:List az):Int×Int:=if l.length>64 then(0,5)else bM (Ig l) l.length
theorem Ih(l:List az)(hl:l.length≤maxLen∧∀y∈l,y.Ok):mo [.rs 3 (l.map az.pv)]=some (res (ec l).1 (ec l).2):=by
 have hm:=aL;simp only[mo,zr,ak,IS,U,By];unfold ec;by_cases pU:l.length>64
 ·rw[BY (by simp;omega),BY pU];rfl
 ·rw[IT (by simp;omega),IT pU,←gT];refine aO (fun k=>(l.map az.pv,(l.length:Int),(k:Int),seen PV.str ((l.map az.id).take k),())) l.length _ (fun k hk rec=>?_) (fun rec=>?_) ?_ rfl
  ·have h1:(k:Int)<(l.length:Int):=by omega
   have hid:=tL l[k].id (hl.2 _ (agZ hk)).id;have mW:=fK qJ l[k].id ((l.map az.id).take k);have kx:=eQ qJ l[k].id ((l.map az.id).take k);simp only[tO,te,h1,IS,af,AT,ta hk,No,U,az.pv,cell,PV.cells,aki,amr,bt,asInt,asBool,hid,mW,kx,aT,ah (show k<9223372036854775807 by omega),jU az.id l k hk,vH,zs,bL];unfold Ig;rw[ta hk];simp only;generalize (decide (l[k].mode≥0)&&decide (l[k].mode<8))=c;cases dV l[k].id with
   |false=>rfl
   |true=>
    by_cases bu:l[k].id∈(l.map az.id).take k
    ·simp only[bu,IS,ag0,tc,anE,PS];rfl
    ·simp only[bu,IS,ag0,tc,anE,PS];cases c<;>rfl
  ·simp only[tO,te,anN,PS];rfl
  ·have:=aN;omega
theorem Mm(l:List az)(hl:l.length≤maxLen)(i:Nat)(hi:i<l.length)(rM:List PV×Int×Unit→Option PV):bd.run (mF rM) (l.map az.pv,(i:Int),0,())=if(l.map az.id)[i]'(by simpa using hi)∈(l.map az.id).take i then some (res i 6)else if(decide (l[i].mode≥0)&&decide (l[i].mode<8))=false then some (res i 2)else rM (l.map az.pv,IntKind.i64.wrap ((i:Int)+1),()):=by
 have hm:=aL;have SS:(l.map az.pv)[i]?=some l[i].pv:=by simp_all
 have UG:i<(l.map az.id).length:=by simpa using hi
 have al0:(l.map az.id)[i]=l[i].id:=by simp
 rw[←OT (l.map az.id) i UG];refine aO (fun k=>(l.map az.pv,(i:Int),(k:Int),())) i (fun k=>if decide ((l.map az.id)[k]?=some (l.map az.id)[i])=true then some (some (res i 6))else none) (fun k hk rec=>?_) (fun rec=>?_) ?_ rfl
 ·have h1:decide ((k:Int)<(i:Int))=true:=by simp;omega
  have nM:k<l.length:=by omega
  have hgk:(l.map az.pv)[k]?=some l[k].pv:=by simp_all
  have hdk:decide ((l.map az.id)[k]?=some (l.map az.id)[i])=decide (l[k].id=l[i].id):=by simp_all
  unfold mF;dsimp only;rw[BY h1,af,hgk,U,Ie,af,SS,ah (by omega),hdk];simp only[bt,U,Ie,dY];cases decide (l[k].id=l[i].id)<;>rfl
 ·unfold mF;dsimp only;rw[IT (by simp),af,SS];simp only[U,Zk,asInt,IS,Ib,asBool];have:(decide (l[i].mode≥0)&&decide (l[i].mode≤7))=(decide (l[i].mode≥0)&&decide (l[i].mode<8)):=by grind
  rw[this];cases(decide (l[i].mode≥0)&&decide (l[i].mode<8))<;>rfl
 ·have:=aN;omega
theorem Rx(l:List az)(hl:l.length≤maxLen∧∀y∈l,y.Ok):oY [.rs 3 (l.map az.pv)]=some (res (ec l).1 (ec l).2):=by
 have hm:=aL;simp only[oY,xK,ak,IS,U,By];unfold ec;by_cases pU:l.length>64
 ·rw[BY (by simp;omega),BY pU];rfl
 ·rw[IT (by simp;omega),IT pU,←gT];refine aO (fun k=>(l.map az.pv,(k:Int),())) l.length _ (fun k hk rec=>?_) (fun rec=>?_) ?_ rfl
  ·have h1:decide ((k:Int)<((l.map az.pv).length:Int))=true:=by simp;omega
   have hgk:(l.map az.pv)[k]?=some l[k].pv:=by simp_all
   have hid:=xJ l[k].id (hl.2 _ (agZ hk)).id;have afV:(l.map az.id)[k]'(by simpa using hk)=l[k].id:=by simp
   unfold rN;dsimp only;rw[BY h1,af,hgk,U,Ie];simp only[bt,U,hid,asBool];rw[Mm l hl.1 k hk rec,afV,ah (by omega)];unfold Ig;rw[ta hk];simp only;generalize (decide (l[k].mode≥0)&&decide (l[k].mode<8))=c;cases dV l[k].id with
   |false=>rfl
   |true=>
    by_cases bu:l[k].id∈(l.map az.id).take k
    ·simp only[bu,IS,ag0,tc,anE,PS];rfl
    ·simp only[bu,IS,ag0,tc,anE,PS];cases c<;>rfl
  ·unfold rN;dsimp only;rw[IT (by simp)];rfl
  ·have:=aN;omega
def wi(n a b:Int):Bool:=decide (n≥a)&&decide (n≤b)
theorem Fo(n a b:Int):cp [.int .i64 n,.int .i64 a,.int .i64 b]=some (.bool (wi n a b)):=by simp only[cp,tP,asInt,IS,U,bL];rfl
theorem afW(x:aS):cell x.pv 0=.str x.id:=rfl
theorem ah3(x:aS):cell x.pv 1=.int .i64 x.Fq:=rfl
theorem ah4(x:aS):cell x.pv 2=.int .i64 x.Fs:=rfl
theorem ah5(x:aS):cell x.pv 3=.int .i64 x.Ft:=rfl
theorem ah6(x:aS):cell x.pv 4=.int .i64 x.cA:=rfl
theorem ah7(x:aS):cell x.pv 5=.int .i64 x.Fu:=rfl
def Ay(x:aS):Bool:= !wi x.Fq 0 1000000|| !wi x.Fs 1 8|| !wi x.Ft 1 16|| !wi x.cA 0 86400|| !wi x.Fu 1 255
def Mn(l:List aS)(k:Nat):Int:=match l[k]? with
 |none=>0
 |some x=>if dV x.id=false then 12 else if x.id∈(l.map aS.id).take k then 6 else if Ay x=true then 2 else 0
def xL(l:List aS)(aQ within cap:Int):PV:=.agg [.rs 6 (l.map aS.pv),.int .i64 aQ,.int .i64 within,.int .i64 cap]
def cX(l:List aS)(aQ within cap:Int):Int×Int:=if(!wi aQ 0 1000000|| !wi within 0 86400|| !wi cap 0 1000000)=true then(-1,2)else if l.length>16 then(0,5)else bM (Mn l) l.length
theorem Ii(l:List aS)(aQ within cap:Int)(hl:l.length≤maxLen∧∀y∈l,y.Ok):eB [xL l aQ within cap]=some (res (cX l aQ within cap).1 (cX l aQ within cap).2):=by
 have hm:=aL;simp only[eB,vI,xL,asAgg,cell,PV.cells,aki,amr,alx,anx,Nat.reduceAdd,ak,asInt,asBool,IS,U,By,Fo,aT];unfold cX;generalize (!wi aQ 0 1000000|| !wi within 0 86400|| !wi cap 0 1000000)=c;cases c with
 |true=>rfl
 |false=>
  simp only[tc,PS];by_cases pU:l.length>16
  ·rw[BY (by simp;omega),BY pU];rfl
  ·rw[IT (by simp;omega),IT pU,←gT];refine aO (fun k=>(l.map aS.pv,(l.length:Int),(k:Int),seen PV.str ((l.map aS.id).take k),())) l.length _ (fun k hk rec=>?_) (fun rec=>?_) ?_ rfl
   ·have h1:(k:Int)<(l.length:Int):=by omega
    have hid:=tL l[k].id (hl.2 _ (agZ hk)).id;have mW:=fK qJ l[k].id ((l.map aS.id).take k);have kx:=eQ qJ l[k].id ((l.map aS.id).take k);simp only[qp,te,h1,IS,af,AT,ta hk,No,U,afW,ah3,ah4,ah5,ah6,ah7,bt,asInt,asBool,hid,mW,kx,Fo,aT,ah (show k<9223372036854775807 by omega),jU aS.id l k hk];unfold Mn;rw[ta hk];have hb:(!wi l[k].Fq 0 1000000|| !wi l[k].Fs 1 8|| !wi l[k].Ft 1 16|| !wi l[k].cA 0 86400|| !wi l[k].Fu 1 255)=Ay l[k]:=rfl;simp only[hb];generalize Ay l[k]=c;cases dV l[k].id with
    |false=>rfl
    |true=>
     by_cases bu:l[k].id∈(l.map aS.id).take k
     ·simp only[bu,IS,ag0,tc,anE,PS];rfl
     ·simp only[bu,IS,ag0,tc,anE,PS];cases c<;>rfl
   ·simp only[qp,te,anN,PS];rfl
   ·have:=aN;omega
theorem aeH(n a b:Int):bQ [.int .i64 n,.int .i64 a,.int .i64 b]=some (.bool (wi n a b)):=Ib n a b
theorem OV(l:List aS)(hl:l.length≤maxLen)(d w c:Int)(i:Nat)(hi:i<l.length)(rM:Int×List PV×Int×Int×Int×Unit→Option PV):bd.run (oZ rM) ((i:Int),0,l.map aS.pv,d,w,c,.str l[i].id,.int .i64 l[i].Fq,.int .i64 l[i].Fs,.int .i64 l[i].Ft,.int .i64 l[i].cA,.int .i64 l[i].Fu,())=if l[i].id∈(l.map aS.id).take i then some (res i 6)else if Ay l[i]=true then some (res i 2)else rM (IntKind.i64.wrap ((i:Int)+1),l.map aS.pv,d,w,c,()):=by
 have hm:=aL;refine(jV (fun k=>((i:Int),(k:Int),l.map aS.pv,d,w,c,PV.str l[i].id,PV.int .i64 l[i].Fq,PV.int .i64 l[i].Fs,PV.int .i64 l[i].Ft,PV.int .i64 l[i].cA,PV.int .i64 l[i].Fu,())) i (fun k=>decide ((l.map aS.id)[k]?=some l[i].id)) (no:=some (res i 6)) (fin:=if Ay l[i]=true then some (res i 2)else rM (IntKind.i64.wrap ((i:Int)+1),l.map aS.pv,d,w,c,())) (fun k hk rec=>?_) (fun rec=>?_) ?_ rfl).trans ?_
 ·have h1:(k:Int)<(i:Int):=by omega
  have nM:k<l.length:=by omega
  simp only[oZ,te,h1,IS,af,AT,ta nM,No,U,afW,bt,ah (show k<9223372036854775807 by omega),dY,tb];rfl
 ·simp only[oZ,te,anN,PS,U,asInt,IS,aeH,asBool,aT];rfl
 ·have:=aN;omega
 ·rw[Az _ _ (by simp;omega)];simp_all
theorem VT(l:List aS)(aQ within cap:Int)(hl:l.length≤maxLen∧∀y∈l,y.Ok):qL [xL l aQ within cap]=some (res (cX l aQ within cap).1 (cX l aQ within cap).2):=by
 have hm:=aL;simp only[qL,zt,xL,asAgg,cell,PV.cells,aki,amr,alx,anx,Nat.reduceAdd,ak,asInt,asBool,IS,U,By,aeH,aT];unfold cX;generalize (!wi aQ 0 1000000|| !wi within 0 86400|| !wi cap 0 1000000)=c;cases c with
 |true=>rfl
 |false=>
  simp only[tc,PS];by_cases pU:l.length>16
  ·rw[BY (by simp;omega),BY pU];rfl
  ·rw[IT (by simp;omega),IT pU,←gT];refine aO (fun k=>((k:Int),l.map aS.pv,aQ,within,cap,())) l.length _ (fun k hk rec=>?_) (fun rec=>?_) ?_ rfl
   ·have h1:(k:Int)<(l.length:Int):=by omega
    have hid:=xJ l[k].id (hl.2 _ (agZ hk)).id;have ob:=OV l hl.1 aQ within cap k hk rec;simp only[tQ,te,By,h1,IS,af,AT,ta hk,No,U,afW,ah3,ah4,ah5,ah6,ah7,bt,asBool,hid,ob,ah (show k<9223372036854775807 by omega)];unfold Mn;rw[ta hk];simp only;generalize Ay l[k]=c;cases dV l[k].id with
    |false=>rfl
    |true=>
     by_cases bu:l[k].id∈(l.map aS.id).take k
     ·simp only[bu,IS,ag0,tc,anE,PS];rfl
     ·simp only[bu,IS,ag0,tc,anE,PS];cases c<;>rfl
   ·simp only[tQ,te,By,anN,PS];rfl
   ·have:=aN;omega
theorem zu(x:ai):cell x.pv 0=.int .i64 x.stop:=rfl
theorem zw(x:ai):cell x.pv 1=.int .i64 x.arr:=rfl
theorem uW(x:ai):cell x.pv 2=.int .i64 x.dep:=rfl
def ku(l:List ai):Nat→Option ai
 |0=>none
 |k+1=>l[k]?
def kr(c:ai)(p:Option ai)(stops low high:Int):Int:=
 if(decide (c.stop<0)||decide (c.stop≥stops))=true then 9
 else if(match p with|some p=>decide (p.stop=c.stop)|none=>false)=true then 13
 else if(decide (c.arr<low)||decide (c.arr>c.dep)||decide (c.dep>high)||(match p with|some p=>decide (c.arr<p.dep)|none=>false))=true then 10 else 0
def mD(l:List ai)(stops low high:Int)(k:Nat):Int:=match l[k]? with
 |none=>0
 |some c=>kr c (ku l k) stops low high
def bD(l:List ai)(stops low high:Int):Int×Int:=if(decide ((l.length:Int)<2)||decide ((l.length:Int)>32))=true then(0,5)else bM (mD l stops low high) l.length
theorem AA(j:Nat)(h:j<9223372036854775807):IntKind.i64.wrap (((j+1:Nat):Int)-1)=(j:Int):=by grind [bp]
theorem OW(l:List ai)(stops low high:Int)(k:Nat)(hk:k<l.length)(hl:l.length≤maxLen):xM [.rs 5 (l.map ai.pv),.int .i64 k,.int .i64 stops,.int .i64 low,.int .i64 high]=some (.int .i64 (mD l stops low high k)):=by
 have hm:=aL;simp only[xM,Ij,ak,asInt,IS,U,af,AT,ta hk,No,zu,zw,uW,aT];unfold mD kr;rw[ta hk];simp only;cases k with
 |zero=>
  have h0:decide (((0:Nat):Int)>0)=false:=by rfl
  simp only[h0,cond_false,U,aT,aoL,ku];grind
 |succ j=>
  have h0:decide (((j+1:Nat):Int)>0)=true:=by simp
  have hj:j<l.length:=by omega
  simp only[h0,cond_true,U,AA j (by omega),af,AT,ta hj,No,zu,uW,asInt,IS,ku,dY,aT];grind
theorem wN(l:List ai)(stops low high:Int)(hl:l.length≤maxLen):gU [.rs 5 (l.map ai.pv),.int .i64 stops,.int .i64 low,.int .i64 high]=some (res (bD l stops low high).1 (bD l stops low high).2):=by
 have hm:=aL;simp only[gU,B8,ak,asInt,IS,U,By,aT];unfold bD;split
 ·rfl
 ·rw[←gT];refine aO (fun k=>(l.map ai.pv,stops,low,high,(l.length:Int),(k:Int),())) l.length _ (fun k hk rec=>?_) (fun rec=>?_) ?_ rfl
  ·have h1:(k:Int)<(l.length:Int):=by omega
   simp only[vJ,te,h1,IS,OW l stops low high k hk hl,U,asInt,ah (show k<9223372036854775807 by omega),gd];grind [mD,Ik,bP,res]
  ·simp only[vJ,te,anN,PS];rfl
  ·have:=aN;omega
theorem VU(l:List ai)(stops low high:Int)(hl:l.length≤maxLen):qM [.rs 5 (l.map ai.pv),.int .i64 stops,.int .i64 low,.int .i64 high]=some (.int .i64 (bD l stops low high).2):=by
 have hm:=aL;simp only[qM,zx,ak,asInt,IS,U,By,aT];unfold bD;split
 ·rfl
 ·rw[←Ry];refine aO (fun k=>(l.map ai.pv,stops,low,high,(k:Int),())) l.length _ (fun k hk rec=>?_) (fun rec=>?_) ?_ rfl
  ·have h1:(k:Int)<(l.length:Int):=by omega
   simp only[tR,te,By,h1,IS,af,AT,ta hk,No,U,zu,zw,uW,asInt,aT,ah (show k<9223372036854775807 by omega)];unfold mD kr;rw[ta hk];simp only;cases k with
   |zero=>
    have h0:decide (((0:Nat):Int)>0)=false:=by rfl
    simp only[h0,cond_false,U,aT,aoL,ku];generalize (decide (l[0].stop<0)||decide (l[0].stop≥stops))=A;generalize (decide (l[0].arr<low)||decide (l[0].arr>l[0].dep)||decide (l[0].dep>high))=B;cases A<;>cases B<;>rfl
   |succ j=>
    have h0:decide (((j+1:Nat):Int)>0)=true:=by simp
    have hj:j<l.length:=by omega
    have hc:decide (l[j+1].stop=l[j].stop)=decide (l[j].stop=l[j+1].stop):=by grind
    simp only[h0,cond_true,U,AA j (by omega),af,AT,ta hj,No,zu,uW,asInt,IS,ku,dY,aT,hc];generalize (decide (l[j+1].stop<0)||decide (l[j+1].stop≥stops))=A;generalize (decide (l[j+1].arr<low)||decide (l[j+1].arr>l[j+1].dep)||decide (l[j+1].dep>high))=B;generalize decide (l[j].stop=l[j+1].stop)=C;generalize decide (l[j+1].arr<l[j].dep)=D;cases A<;>cases B<;>cases C<;>cases D<;>rfl
  ·simp[tR,te,By,anN,PS]
  ·have:=aN;omega
structure aX where
 aZ:Int
 day:Int
 inst:Int
 id:Bytes
 aY:Int
 free:Bool
 rr:Bool
 calls:List ai
 deriving DecidableEq
def aX.pv(x:aX):PV:=.agg [.int .i64 x.aZ,.int .i64 x.day,.int .i64 x.inst,.str x.id,.int .i64 x.aY,.bool x.free,.bool x.rr,.rs 5 (x.calls.map ai.pv)]
structure aX.jN(M:Nat)(x:aX):Prop where
 aZ:mc x.aZ
 day:mc x.day
 inst:mc x.inst
 id:x.id.length≤M
 aY:mc x.aY
 calls:x.calls.length≤M∧∀y∈x.calls,y.jN M
abbrev aX.Ok(x:aX):Prop:=x.jN maxLen
theorem afO(r:aX):asAgg 8 r.pv=some ():=rfl
theorem afP(r:aX):PV.agg [cell r.pv 0,cell r.pv 1,cell r.pv 2,cell r.pv 3,cell r.pv 4,cell r.pv 5,cell r.pv 6,cell r.pv 7]=r.pv:=rfl
theorem L9(x:aX):cell x.pv 0=.int .i64 x.aZ:=rfl
theorem HS(x:aX):cell x.pv 1=.int .i64 x.day:=rfl
theorem Ma(x:aX):cell x.pv 2=.int .i64 x.inst:=rfl
theorem OB(x:aX):cell x.pv 3=.str x.id:=rfl
theorem VB(x:aX):cell x.pv 4=.int .i64 x.aY:=rfl
theorem YN(x:aX):cell x.pv 5=.bool x.free:=rfl
theorem YO(x:aX):cell x.pv 6=.bool x.rr:=rfl
theorem FX(x:aX):cell x.pv 7=.rs 5 (x.calls.map ai.pv):=rfl
structure aD where
 a:Int
 ac:Int
 b:Int
 bc:Int
 stay:Bool
 deriving DecidableEq
def aD.pv(x:aD):PV:=.agg [.int .i64 x.a,.int .i64 x.ac,.int .i64 x.b,.int .i64 x.bc,.bool x.stay]
structure aD.jN(M:Nat)(x:aD):Prop where
 a:mc x.a
 ac:mc x.ac
 b:mc x.b
 bc:mc x.bc
abbrev aD.Ok(x:aD):Prop:=x.jN maxLen
theorem KC(x:aD):cell x.pv 0=.int .i64 x.a:=rfl
theorem Tw(x:aD):cell x.pv 1=.int .i64 x.ac:=rfl
theorem link2(x:aD):cell x.pv 2=.int .i64 x.b:=rfl
theorem Tx(x:aD):cell x.pv 3=.int .i64 x.bc:=rfl
theorem OX(x:aD):cell x.pv 4=.bool x.stay:=rfl
theorem OY(x:Path):cell x.pv 0=.int .i64 x.a:=rfl
theorem OZ(x:Path):cell x.pv 1=.int .i64 x.b:=rfl
theorem Ty(x:Path):cell x.pv 2=.int .i64 x.cA:=rfl
theorem O0(x:Path):cell x.pv 3=.bool x.free:=rfl
structure ay where
 stops:List Stop
 ae:List az
 runs:List aX
 ar:List aD
 paths:List Path
 av:List aS
 aQ:Int
 within:Int
 cap:Int
 deriving DecidableEq
def ay.pv(x:ay):PV:=.agg [.rs 4 (x.stops.map Stop.pv),.rs 3 (x.ae.map az.pv),.rs 8 (x.runs.map aX.pv),.rs 5 (x.ar.map aD.pv),.rs 4 (x.paths.map Path.pv),.rs 6 (x.av.map aS.pv),.int .i64 x.aQ,.int .i64 x.within,.int .i64 x.cap]
structure ay.jN(M:Nat)(x:ay):Prop where
 stops:x.stops.length≤M∧∀y∈x.stops,y.jN M
 ae:x.ae.length≤M∧∀y∈x.ae,y.jN M
 runs:x.runs.length≤M∧∀y∈x.runs,y.jN M
 ar:x.ar.length≤M∧∀y∈x.ar,y.jN M
 paths:x.paths.length≤M∧∀y∈x.paths,y.jN M
 av:x.av.length≤M∧∀y∈x.av,y.jN M
 aQ:mc x.aQ
 within:mc x.within
 cap:mc x.cap
abbrev ay.Ok(x:ay):Prop:=x.jN maxLen
theorem BQ(x:ay):asAgg 9 x.pv=some ():=rfl
theorem BR(x:ay):ak 4 (cell x.pv 0)=some (x.stops.map Stop.pv):=rfl
theorem BS(x:ay):ak 3 (cell x.pv 1)=some (x.ae.map az.pv):=rfl
theorem BT(x:ay):ak 8 (cell x.pv 2)=some (x.runs.map aX.pv):=rfl
theorem BU(x:ay):ak 5 (cell x.pv 3)=some (x.ar.map aD.pv):=rfl
theorem BV(x:ay):ak 4 (cell x.pv 4)=some (x.paths.map Path.pv):=rfl
theorem BW(x:ay):ak 6 (cell x.pv 5)=some (x.av.map aS.pv):=rfl
theorem BX(x:ay):asInt .i64 (cell x.pv 6)=some x.aQ:=rfl
theorem BZ(x:ay):asInt .i64 (cell x.pv 7)=some x.within:=rfl
theorem B0(x:ay):asInt .i64 (cell x.pv 8)=some x.cap:=rfl
theorem Mo(x:ay):PV.agg [.rs 4 (x.stops.map Stop.pv),.rs 3 (x.ae.map az.pv),.rs 8 (x.runs.map aX.pv),.rs 5 (x.ar.map aD.pv),.rs 4 (x.paths.map Path.pv),.rs 6 (x.av.map aS.pv),.int .i64 x.aQ,.int .i64 x.within,.int .i64 x.cap]=x.pv:=rfl
def r3(p i e:Int):PV:=.agg [.int .i64 p,.int .i64 i,.int .i64 e]
def prt(p:Int)(x:Int×Int):PV:=if x.2=0 then r3 0 0 0 else r3 p x.1 x.2
theorem WZ(p i e:Int):asAgg 3 (r3 p i e)=some ():=rfl
theorem Zl(p i e:Int):cell (r3 p i e) 0=.int .i64 p:=rfl
theorem Zm(p i e:Int):cell (r3 p i e) 1=.int .i64 i:=rfl
theorem VV(p i e:Int):cell (r3 p i e) 2=.int .i64 e:=rfl
theorem O1(p i e:Int):bk [.int .i64 p,.int .i64 i,.int .i64 e]=some (r3 p i e):=rfl
theorem B9(n m:Int):dq [.int .i64 n,.int .i64 m]=some (.bool (decide (n≥0)&&decide (n<m))):=by simp[dq,tS,asInt,IS,U,bL]
variable{R:Type}
theorem nU(f:Nat→Int)(n:Nat)(g:Int→Int→R)(fin:Option R):bP ((List.range n).findSome? fun k=>if f k=0 then none else some (some (g k (f k)))) fin=if(bM f n).2=0 then fin else some (g (bM f n).1 (bM f n).2):=by
 unfold bM;have:(List.range n).findSome? (fun k=>if f k=0 then none else some (some (g k (f k))))=((List.range n).findSome? (fun k=>if f k=0 then none else some ((k:Int),f k))).map fun x=>some (g x.1 x.2):=by rw[ap5];congr 1;grind
 rw[this];cases hf:(List.range n).findSome? (fun k=>if f k=0 then none else some ((k:Int),f k))with
 |none=>rfl
 |some x=>
  obtain⟨k,_,hk⟩:=an4 hf;have hx:x.2≠0:=by grind
  simp_all[No,bP,IT]
theorem im(f:Nat→Int)(n:Nat):(bM f n).2=0↔∀k,k<n→f k=0:=by
 unfold bM;cases hf:(List.range n).findSome? (fun k=>if f k=0 then none else some ((k:Int),f k))with
 |none=>simp_all
 |some x=>obtain⟨k,hk,hx⟩:=an4 hf;grind
theorem Bk{S:Type}{body:S→(S→Option R)→Option R}(st:Nat→S)(n:Nat)(bad:Nat→Option (Option R)){fin:Option R}(h:∀k,k<n→(∀j,j<k→bad j=none)→∀rec,body (st k) rec=bP (bad k) (rec (st (k+1))))(lZ:(∀j,j<n→bad j=none)→∀rec,body (st n) rec=fin)(hn:n<rounds){s0:S}(h0:st 0=s0):bd.run body s0=bP ((List.range n).findSome? bad) fin:=by
 by_cases uz:∀j,j<n→bad j=none
 ·have:(List.range n).findSome? bad=none:=by simp_all
  rw[this];refine bh st n (fun k hk rec=>?_) (lZ uz) hn h0;rw[h k hk (fun j hj=>uz j (by omega)),uz k hk];rfl
 ·have hex:∃m,m<n∧bad m≠none∧∀j,j<m→bad j=none:=by
   have key:∀m,(∃i,i<m∧i<n∧bad i≠none)→∃m,m<n∧bad m≠none∧∀j,j<m→bad j=none:=by
    intro m;induction m with
    |zero=>omega
    |succ m ih=>
     intro hi;by_cases hc:∃i,i<m∧i<n∧bad i≠none
     ·exact ih hc
     grind
   have hc:∃i,i<n∧bad i≠none:=by simp_all
   obtain⟨i,h1,h2⟩:=hc;exact key n ⟨i,h1,h1,h2⟩
  obtain⟨m,hm,hb,bK⟩:=hex;cases hbm:bad m with
  |none=>exact absurd hbm hb
  |some x=>
   have hf:(List.range n).findSome? bad=some x:=by
    have hnm:n=m+(n-m):=by omega
    rw[hnm,List.range_add,aqu];have h1:(List.range m).findSome? bad=none:=by grind
    rw[h1,Option.none_or];have hd:n-m=(n-m-1)+1:=by omega
    rw[hd,apg,anB,aou,apn,hbm]
   rw[hf];refine bh st m (fun k hk rec=>?_) (fun rec=>?_) (by omega) h0
   ·rw[h k (by omega) (fun j hj=>bK j (by omega)),bK k hk];rfl
   ·rw[h m hm bK,hbm];rfl
theorem qF{A:Type}[DecidableEq A](a b:List A)(h:a.length=b.length)(no fin:Option R):bP ((List.range a.length).findSome? fun k=>if a[k]?=b[k]? then none else some no) fin=if a=b then fin else no:=by
 by_cases tt:a=b
 ·rw[BY tt];have:(List.range a.length).findSome? (fun k=>if a[k]?=b[k]? then none else some no)=none:=by simp_all
  rw[this];rfl
 ·rw[IT tt];cases hf:(List.range a.length).findSome? (fun k=>if a[k]?=b[k]? then none else some no)with
  |none=>refine absurd (anX fun k=>?_) tt;grind
  |some x=>
   obtain⟨k,hk,hx⟩:=an4 hf;by_cases h0:a[k]?=b[k]?
   ·simp_all
   ·rw[IT h0]at hx;simp only[tb]at hx;subst hx;rfl
end Go.Ab.Tt
