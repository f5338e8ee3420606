import Derived.Test.YtoaknfoobjnjgaaGreatTtChk0
import Derived.Test.YtoaknfoobjnjgaaGreatSh3
namespace Go.Ab.Tt
set_option maxRecDepth 100000
set_option linter.all false
theorem yF(s:Bytes)(hs:s.length≤maxLen):dO [.str s]=some (.bool (fR s)):=by
 have hm:=ar;simp only[dO,Bt,aZ,U];refine(JR s hs lI (some (.bool false)) (some (.bool (decide ((s.length:Int)>0)&&decide ((s.length:Int)≤32)))) (fun k hk rec=>?_) (fun rec=>?_)).trans ?_
 ·have h1:(k:Int)<(s.length:Int):=by omega
  simp only[uV,tc,h1,BY,E0,ta hk,U,bI,ag (show k<9223372036854775807 by omega),cZ];grind [lI,decide]
 ·simp[uV,tc,an6,OF,bI,U]
 ·unfold fR;cases s.all lI with
  |true=>simp only[BY,apw,tb,PV.bool.injEq];grind
  |false=>simp
theorem Ge{body:Bytes×Int×Unit→(Bytes×Int×Unit→Option PV)→Option PV}(s:Bytes)(hs:s.length≤maxLen)(h:∀k,(hk:k<s.length)→∀rec,body (s,(k:Int),()) rec=if lI s[k]then rec (s,((k+1:Nat):Int),())else some (.bool false))(ye:∀rec,body (s,(s.length:Int),()) rec=some (.bool true)){c:Bool}(hc:c= !(decide (1≤s.length)&&decide (s.length≤32))):(if c=true then some (.bool false)else aV.run body (s,0,()))=some (.bool (fR s)):=by rw[JR s hs lI _ _ h ye,hc];unfold fR;grind
def NX(l:List Stop)(k:Nat):Int:=match l[k]? with
 |none=>0
 |some x=>if fR x.id=false then 12 else if x.id∈(l.map Stop.id).take k then 6 else if(decide (x.NY<0)||decide (x.NY≥16)||decide (x.change<0)||decide (x.change>3600))=true then 2 else 0
def jC(l:List Stop):Int×Int:=if l.length>64 then(0,5)else cE (NX l) l.length
theorem Mi(l:List Stop)(hl:l.length≤maxLen∧∀y∈l,y.Ok):pq [.rs 4 (l.map Stop.pv)]=some (res (jC l).1 (jC l).2):=by
 have hm:=ar;simp only[pq,DK,ah,BY,U,te];unfold jC;by_cases kH:l.length>64
 ·rw[No (by simp;omega),No kH];rfl
 ·rw[QU (by simp;omega),QU kH,←dy];refine aB (fun k=>(l.map Stop.pv,(l.length:Int),(k:Int),seen PV.str ((l.map Stop.id).take k),())) l.length _ (fun k hk rec=>?_) (fun rec=>?_) ?_ rfl
  ·have h1:(k:Int)<(l.length:Int):=by omega
   have hid:=yF l[k].id (hl.2 _ (an7 hk)).id;have nf:=fJ q8 l[k].id ((l.map Stop.id).take k);have ko:=eM q8 l[k].id ((l.map Stop.id).take k);simp only[xr,tc,h1,BY,af,AT,ta hk,IS,U,Stop.pv,cell,PV.cells,aev,ali,aZ,asInt,asBool,hid,nf,ko,aT,ag (show k<9223372036854775807 by omega),jR Stop.id l k hk];unfold NX;rw[ta hk];simp only;generalize (decide (l[k].NY<0)||decide (l[k].NY≥16)||decide (l[k].change<0)||decide (l[k].change>3600))=c;cases fR l[k].id with
   |false=>rfl
   |true=>
    by_cases bk:l[k].id∈(l.map Stop.id).take k
    ·simp only[bk,BY,alk,AI,aod,OF];rfl
    ·simp only[bk,BY,alk,AI,aod,OF];cases c<;>rfl
  ·simp only[xr,tc,an6,OF];rfl
  ·have:=aF;omega
def JS(l:List aQ)(k:Nat):Int:=match l[k]? with
 |none=>0
 |some x=>if fR x.id=false then 12 else if x.id∈(l.map aQ.id).take k then 6 else if(decide (x.mode≥0)&&decide (x.mode<8))=false then 2 else 0
def gQ(l:List aQ):Int×Int:=if l.length>64 then(0,5)else cE (JS l) l.length
theorem JT(l:List aQ)(hl:l.length≤maxLen∧∀y∈l,y.Ok):mB [.rs 3 (l.map aQ.pv)]=some (res (gQ l).1 (gQ l).2):=by
 have hm:=ar;simp only[mB,Bu,ah,BY,U,te];unfold gQ;by_cases kH:l.length>64
 ·rw[No (by simp;omega),No kH];rfl
 ·rw[QU (by simp;omega),QU kH,←dy];refine aB (fun k=>(l.map aQ.pv,(l.length:Int),(k:Int),seen PV.str ((l.map aQ.id).take k),())) l.length _ (fun k hk rec=>?_) (fun rec=>?_) ?_ rfl
  ·have h1:(k:Int)<(l.length:Int):=by omega
   have hid:=yF l[k].id (hl.2 _ (an7 hk)).id;have nf:=fJ q8 l[k].id ((l.map aQ.id).take k);have ko:=eM q8 l[k].id ((l.map aQ.id).take k);simp only[uW,tc,h1,BY,af,AT,ta hk,IS,U,aQ.pv,cell,PV.cells,aev,ali,aZ,asInt,asBool,hid,nf,ko,aT,ag (show k<9223372036854775807 by omega),jR aQ.id l k hk,xt,Bv,bI];unfold JS;rw[ta hk];simp only;generalize (decide (l[k].mode≥0)&&decide (l[k].mode<8))=c;cases fR l[k].id with
   |false=>rfl
   |true=>
    by_cases bk:l[k].id∈(l.map aQ.id).take k
    ·simp only[bk,BY,alk,AI,aod,OF];rfl
    ·simp only[bk,BY,alk,AI,aod,OF];cases c<;>rfl
  ·simp only[uW,tc,an6,OF];rfl
  ·have:=aF;omega
def wi(n a b:Int):Bool:=decide (n≥a)&&decide (n≤b)
theorem Ho(n a b:Int):cm [.int .i64 n,.int .i64 a,.int .i64 b]=some (.bool (wi n a b)):=by simp only[cm,uX,asInt,BY,U,bI];rfl
theorem ad8(x:bp):cell x.pv 0=.str x.id:=rfl
theorem ajf(x:bp):cell x.pv 1=.int .i64 x.Mj:=rfl
theorem ajg(x:bp):cell x.pv 2=.int .i64 x.Mk:=rfl
theorem ajh(x:bp):cell x.pv 3=.int .i64 x.Ml:=rfl
theorem aji(x:bp):cell x.pv 4=.int .i64 x.qi:=rfl
theorem ajj(x:bp):cell x.pv 5=.int .i64 x.Mm:=rfl
def wh(x:bp):Bool:= !wi x.Mj 0 1000000|| !wi x.Mk 1 8|| !wi x.Ml 1 16|| !wi x.qi 0 86400|| !wi x.Mm 1 255
def NZ(l:List bp)(k:Nat):Int:=match l[k]? with
 |none=>0
 |some x=>if fR x.id=false then 12 else if x.id∈(l.map bp.id).take k then 6 else if wh x=true then 2 else 0
def CB(l:List bp)(bE within cap:Int):PV:=.agg [.rs 6 (l.map bp.pv),.int .i64 bE,.int .i64 within,.int .i64 cap]
def kn(l:List bp)(bE within cap:Int):Int×Int:=if(!wi bE 0 1000000|| !wi within 0 86400|| !wi cap 0 1000000)=true then(-1,2)else if l.length>16 then(0,5)else cE (NZ l) l.length
theorem JU(l:List bp)(bE within cap:Int)(hl:l.length≤maxLen∧∀y∈l,y.Ok):ek [CB l bE within cap]=some (res (kn l bE within cap).1 (kn l bE within cap).2):=by
 have hm:=ar;simp only[ek,xv,CB,asAgg,cell,PV.cells,aev,ali,alx,an5,Nat.reduceAdd,ah,asInt,asBool,BY,U,te,Ho,aT];unfold kn;generalize (!wi bE 0 1000000|| !wi within 0 86400|| !wi cap 0 1000000)=c;cases c with
 |true=>rfl
 |false=>
  simp only[AI,OF];by_cases kH:l.length>16
  ·rw[No (by simp;omega),No kH];rfl
  ·rw[QU (by simp;omega),QU kH,←dy];refine aB (fun k=>(l.map bp.pv,(l.length:Int),(k:Int),seen PV.str ((l.map bp.id).take k),())) l.length _ (fun k hk rec=>?_) (fun rec=>?_) ?_ rfl
   ·have h1:(k:Int)<(l.length:Int):=by omega
    have hid:=yF l[k].id (hl.2 _ (an7 hk)).id;have nf:=fJ q8 l[k].id ((l.map bp.id).take k);have ko:=eM q8 l[k].id ((l.map bp.id).take k);simp only[qO,tc,h1,BY,af,AT,ta hk,IS,U,ad8,ajf,ajg,ajh,aji,ajj,aZ,asInt,asBool,hid,nf,ko,Ho,aT,ag (show k<9223372036854775807 by omega),jR bp.id l k hk];unfold NZ;rw[ta hk];have hb:(!wi l[k].Mj 0 1000000|| !wi l[k].Mk 1 8|| !wi l[k].Ml 1 16|| !wi l[k].qi 0 86400|| !wi l[k].Mm 1 255)=wh l[k]:=rfl;simp only[hb];generalize wh l[k]=c;cases fR l[k].id with
    |false=>rfl
    |true=>
     by_cases bk:l[k].id∈(l.map bp.id).take k
     ·simp only[bk,BY,alk,AI,aod,OF];rfl
     ·simp only[bk,BY,alk,AI,aod,OF];cases c<;>rfl
   ·simp only[qO,tc,an6,OF];rfl
   ·have:=aF;omega
theorem tn(x:aJ):cell x.pv 0=.int .i64 x.stop:=rfl
theorem Am(x:aJ):cell x.pv 1=.int .i64 x.arr:=rfl
theorem qv(x:aJ):cell x.pv 2=.int .i64 x.dep:=rfl
def JN(l:List aJ):Nat→Option aJ
 |0=>none
 |k+1=>l[k]?
def Hk(c:aJ)(p:Option aJ)(stops low high:Int):Int:=
 if(decide (c.stop<0)||decide (c.stop≥stops))=true then 9
 else if(match p with|some p=>decide (p.stop=c.stop)|none=>false)=true then 13
 else if(decide (c.arr<low)||decide (c.arr>c.dep)||decide (c.dep>high)||(match p with|some p=>decide (c.arr<p.dep)|none=>false))=true then 10 else 0
def zy(l:List aJ)(stops low high:Int)(k:Nat):Int:=match l[k]? with
 |none=>0
 |some c=>Hk c (JN l k) stops low high
def lD(l:List aJ)(stops low high:Int):Int×Int:=if(decide ((l.length:Int)<2)||decide ((l.length:Int)>32))=true then(0,5)else cE (zy l stops low high) l.length
theorem Gf(j:Nat)(h:j<9223372036854775807):IntKind.i64.wrap (((j+1:Nat):Int)-1)=(j:Int):=by grind [aY]
theorem P2(l:List aJ)(stops low high:Int)(k:Nat)(hk:k<l.length)(hl:l.length≤maxLen):zG [.rs 5 (l.map aJ.pv),.int .i64 k,.int .i64 stops,.int .i64 low,.int .i64 high]=some (.int .i64 (zy l stops low high k)):=by
 have hm:=ar;simp only[zG,JV,ah,asInt,BY,U,af,AT,ta hk,IS,tn,Am,qv,aT];unfold zy Hk;rw[ta hk];simp only;cases k with
 |zero=>
  have h0:decide (((0:Nat):Int)>0)=false:=by rfl
  simp only[h0,cond_false,U,aT,ao5,JN];grind
 |succ j=>
  have h0:decide (((j+1:Nat):Int)>0)=true:=by simp
  have hj:j<l.length:=by omega
  simp only[h0,cond_true,U,Gf j (by omega),af,AT,ta hj,IS,tn,qv,asInt,BY,JN,cZ,aT];grind
theorem Mn(l:List aJ)(stops low high:Int)(hl:l.length≤maxLen):lJ [.rs 5 (l.map aJ.pv),.int .i64 stops,.int .i64 low,.int .i64 high]=some (res (lD l stops low high).1 (lD l stops low high).2):=by
 have hm:=ar;simp only[lJ,DL,ah,asInt,BY,U,te,aT];unfold lD;split
 ·rfl
 ·rw[←dy];refine aB (fun k=>(l.map aJ.pv,stops,low,high,(l.length:Int),(k:Int),())) l.length _ (fun k hk rec=>?_) (fun rec=>?_) ?_ rfl
  ·have h1:(k:Int)<(l.length:Int):=by omega
   simp only[xw,tc,h1,BY,P2 l stops low high k hk hl,U,asInt,ag (show k<9223372036854775807 by omega),fb];grind [zy,Bw,bC,res]
  ·simp only[xw,tc,an6,OF];rfl
  ·have:=aF;omega
structure bg where
 bn:Int
 day:Int
 inst:Int
 id:Bytes
 bX:Int
 free:Bool
 Bh:Bool
 calls:List aJ
 deriving DecidableEq
def bg.pv(x:bg):PV:=.agg [.int .i64 x.bn,.int .i64 x.day,.int .i64 x.inst,.str x.id,.int .i64 x.bX,.bool x.free,.bool x.Bh,.rs 5 (x.calls.map aJ.pv)]
structure bg.kT(M:Nat)(x:bg):Prop where
 bn:qj x.bn
 day:qj x.day
 inst:qj x.inst
 id:x.id.length≤M
 bX:qj x.bX
 calls:x.calls.length≤M∧∀y∈x.calls,y.kT M
abbrev bg.Ok(x:bg):Prop:=x.kT maxLen
theorem SI(r:bg):asAgg 8 r.pv=some ():=rfl
theorem aar(r:bg):PV.agg [cell r.pv 0,cell r.pv 1,cell r.pv 2,cell r.pv 3,cell r.pv 4,cell r.pv 5,cell r.pv 6,cell r.pv 7]=r.pv:=rfl
theorem ET(x:bg):cell x.pv 0=.int .i64 x.bn:=rfl
theorem EU(x:bg):cell x.pv 1=.int .i64 x.day:=rfl
theorem NP(x:bg):cell x.pv 2=.int .i64 x.inst:=rfl
theorem SJ(x:bg):cell x.pv 3=.str x.id:=rfl
theorem SK(x:bg):cell x.pv 4=.int .i64 x.bX:=rfl
theorem Xr(x:bg):cell x.pv 5=.bool x.free:=rfl
theorem Xs(x:bg):cell x.pv 6=.bool x.Bh:=rfl
theorem EV(x:bg):cell x.pv 7=.rs 5 (x.calls.map aJ.pv):=rfl
structure aR where
 a:Int
 ac:Int
 b:Int
 bc:Int
 stay:Bool
 deriving DecidableEq
def aR.pv(x:aR):PV:=.agg [.int .i64 x.a,.int .i64 x.ac,.int .i64 x.b,.int .i64 x.bc,.bool x.stay]
structure aR.kT(M:Nat)(x:aR):Prop where
 a:qj x.a
 ac:qj x.ac
 b:qj x.b
 bc:qj x.bc
abbrev aR.Ok(x:aR):Prop:=x.kT maxLen
theorem ajk(x:aR):cell x.pv 0=.int .i64 x.a:=rfl
theorem ajl(x:aR):cell x.pv 1=.int .i64 x.ac:=rfl
theorem link2(x:aR):cell x.pv 2=.int .i64 x.b:=rfl
theorem ajm(x:aR):cell x.pv 3=.int .i64 x.bc:=rfl
theorem ajn(x:aR):cell x.pv 4=.bool x.stay:=rfl
theorem P3(x:Path):cell x.pv 0=.int .i64 x.a:=rfl
theorem P4(x:Path):cell x.pv 1=.int .i64 x.b:=rfl
theorem UF(x:Path):cell x.pv 2=.int .i64 x.qi:=rfl
theorem P5(x:Path):cell x.pv 3=.bool x.free:=rfl
structure aW where
 stops:List Stop
 ao:List aQ
 runs:List bg
 br:List aR
 paths:List Path
 aP:List bp
 bE:Int
 within:Int
 cap:Int
 deriving DecidableEq
def aW.pv(x:aW):PV:=.agg [.rs 4 (x.stops.map Stop.pv),.rs 3 (x.ao.map aQ.pv),.rs 8 (x.runs.map bg.pv),.rs 5 (x.br.map aR.pv),.rs 4 (x.paths.map Path.pv),.rs 6 (x.aP.map bp.pv),.int .i64 x.bE,.int .i64 x.within,.int .i64 x.cap]
structure aW.kT(M:Nat)(x:aW):Prop where
 stops:x.stops.length≤M∧∀y∈x.stops,y.kT M
 ao:x.ao.length≤M∧∀y∈x.ao,y.kT M
 runs:x.runs.length≤M∧∀y∈x.runs,y.kT M
 br:x.br.length≤M∧∀y∈x.br,y.kT M
 paths:x.paths.length≤M∧∀y∈x.paths,y.kT M
 aP:x.aP.length≤M∧∀y∈x.aP,y.kT M
 bE:qj x.bE
 within:qj x.within
 cap:qj x.cap
abbrev aW.Ok(x:aW):Prop:=x.kT maxLen
theorem KO(x:aW):asAgg 9 x.pv=some ():=rfl
theorem KP(x:aW):ah 4 (cell x.pv 0)=some (x.stops.map Stop.pv):=rfl
theorem KQ(x:aW):ah 3 (cell x.pv 1)=some (x.ao.map aQ.pv):=rfl
theorem KS(x:aW):ah 8 (cell x.pv 2)=some (x.runs.map bg.pv):=rfl
theorem KT(x:aW):ah 5 (cell x.pv 3)=some (x.br.map aR.pv):=rfl
theorem KU(x:aW):ah 4 (cell x.pv 4)=some (x.paths.map Path.pv):=rfl
theorem KV(x:aW):ah 6 (cell x.pv 5)=some (x.aP.map bp.pv):=rfl
theorem KW(x:aW):asInt .i64 (cell x.pv 6)=some x.bE:=rfl
theorem KX(x:aW):asInt .i64 (cell x.pv 7)=some x.within:=rfl
theorem KY(x:aW):asInt .i64 (cell x.pv 8)=some x.cap:=rfl
theorem agm(x:aW):PV.agg [.rs 4 (x.stops.map Stop.pv),.rs 3 (x.ao.map aQ.pv),.rs 8 (x.runs.map bg.pv),.rs 5 (x.br.map aR.pv),.rs 4 (x.paths.map Path.pv),.rs 6 (x.aP.map bp.pv),.int .i64 x.bE,.int .i64 x.within,.int .i64 x.cap]=x.pv:=rfl
def r3(p i e:Int):PV:=.agg [.int .i64 p,.int .i64 i,.int .i64 e]
def prt(p:Int)(x:Int×Int):PV:=if x.2=0 then r3 0 0 0 else r3 p x.1 x.2
theorem YQ(p i e:Int):asAgg 3 (r3 p i e)=some ():=rfl
theorem r30(p i e:Int):cell (r3 p i e) 0=.int .i64 p:=rfl
theorem r31(p i e:Int):cell (r3 p i e) 1=.int .i64 i:=rfl
theorem XH(p i e:Int):cell (r3 p i e) 2=.int .i64 e:=rfl
theorem P6(p i e:Int):bm [.int .i64 p,.int .i64 i,.int .i64 e]=some (r3 p i e):=rfl
theorem DM(n m:Int):dc [.int .i64 n,.int .i64 m]=some (.bool (decide (n≥0)&&decide (n<m))):=by simp[dc,uY,asInt,BY,U,bI]
variable{R:Type}
theorem CC(f:Nat→Int)(n:Nat)(g:Int→Int→R)(fin:Option R):bC ((List.range n).findSome? fun k=>if f k=0 then none else some (some (g k (f k)))) fin=if(cE f n).2=0 then fin else some (g (cE f n).1 (cE f n).2):=by
 unfold cE;have:(List.range n).findSome? (fun k=>if f k=0 then none else some (some (g k (f k))))=((List.range n).findSome? (fun k=>if f k=0 then none else some ((k:Int),f k))).map fun x=>some (g x.1 x.2):=by rw[aqC];congr 1;grind
 rw[this];cases hf:(List.range n).findSome? (fun k=>if f k=0 then none else some ((k:Int),f k))with
 |none=>rfl
 |some x=>
  obtain⟨k,_,hk⟩:=aoK hf;have hx:x.2≠0:=by grind
  simp_all[IS,bC,QU]
theorem uP(f:Nat→Int)(n:Nat):(cE f n).2=0↔∀k,k<n→f k=0:=by
 unfold cE;cases hf:(List.range n).findSome? (fun k=>if f k=0 then none else some ((k:Int),f k))with
 |none=>simp_all
 |some x=>obtain⟨k,hk,hx⟩:=aoK hf;grind
theorem K1{S:Type}{body:S→(S→Option R)→Option R}(st:Nat→S)(n:Nat)(bad:Nat→Option (Option R)){fin:Option R}(h:∀k,k<n→(∀j,j<k→bad j=none)→∀rec,body (st k) rec=bC (bad k) (rec (st (k+1))))(ye:(∀j,j<n→bad j=none)→∀rec,body (st n) rec=fin)(hn:n<rounds){s0:S}(h0:st 0=s0):aV.run body s0=bC ((List.range n).findSome? bad) fin:=by
 by_cases mr:∀j,j<n→bad j=none
 ·have:(List.range n).findSome? bad=none:=by simp_all
  rw[this];refine aM st n (fun k hk rec=>?_) (ye mr) hn h0;rw[h k hk (fun j hj=>mr j (by omega)),mr k hk];rfl
 ·have hex:∃m,m<n∧bad m≠none∧∀j,j<m→bad j=none:=by
   have key:∀m,(∃i,i<m∧i<n∧bad i≠none)→∃m,m<n∧bad m≠none∧∀j,j<m→bad j=none:=by
    intro m;induction m with
    |zero=>omega
    |succ m ih=>
     intro hi;by_cases hc:∃i,i<m∧i<n∧bad i≠none
     ·exact ih hc
     grind
   have hc:∃i,i<n∧bad i≠none:=by simp_all
   obtain⟨i,h1,h2⟩:=hc;exact key n ⟨i,h1,h1,h2⟩
  obtain⟨m,hm,hb,bF⟩:=hex;cases hbm:bad m with
  |none=>exact absurd hbm hb
  |some x=>
   have hf:(List.range n).findSome? bad=some x:=by
    have hnm:n=m+(n-m):=by omega
    rw[hnm,List.range_add,aqU];have h1:(List.range m).findSome? bad=none:=by grind
    rw[h1,Option.none_or];have hd:n-m=(n-m-1)+1:=by omega
    rw[hd,apB,aog,ao3,apU,hbm]
   rw[hf];refine aM st m (fun k hk rec=>?_) (fun rec=>?_) (by omega) h0
   ·rw[h k (by omega) (fun j hj=>bF j (by omega)),bF k hk];rfl
   ·rw[h m hm bF,hbm];rfl
theorem tG{A:Type}[DecidableEq A](a b:List A)(h:a.length=b.length)(no fin:Option R):bC ((List.range a.length).findSome? fun k=>if a[k]?=b[k]? then none else some no) fin=if a=b then fin else no:=by
 by_cases sn:a=b
 ·rw[No sn];have:(List.range a.length).findSome? (fun k=>if a[k]?=b[k]? then none else some no)=none:=by simp_all
  rw[this];rfl
 ·rw[QU sn];cases hf:(List.range a.length).findSome? (fun k=>if a[k]?=b[k]? then none else some no)with
  |none=>refine absurd (aox fun k=>?_) sn;grind
  |some x=>
   obtain⟨k,hk,hx⟩:=aoK hf;by_cases h0:a[k]?=b[k]?
   ·simp_all
   ·rw[QU h0]at hx;simp only[tb]at hx;subst hx;rfl
end Go.Ab.Tt
