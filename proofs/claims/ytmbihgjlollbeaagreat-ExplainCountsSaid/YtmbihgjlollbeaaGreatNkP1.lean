import Derived.Test.YtmbihgjlollbeaaGreatTtChk0
import Derived.Test.YtmbihgjlollbeaaGreatSh6
namespace Go.Ab.Tt
set_option maxRecDepth 100000
set_option linter.unusedVariables false
theorem uJ(s:Bytes)(hs:s.length≤maxLen):eu [.str s]=some (.bool (nM s)):=by
 have hm:=aQ;simp only[eu,xE,bG,aa];refine(Of s hs yO (some (.bool false)) (some (.bool (decide ((s.length:Int)>0)&&decide ((s.length:Int)≤32)))) (fun k hk rec=>?_) (fun rec=>?_)).trans ?_
 ·have h1:(k:Int)<(s.length:Int):=by omega
  simp only[si,AT,h1,IS,VV,cO hk,aa,bE,al (show k<9223372036854775807 by omega),jw];grind [yO,decide]
 ·simp[si,AT,ajG,S3,bE,aa]
 ·unfold nM;cases s.all yO with
  |true=>simp only[IS,akw,cN,PV.bool.injEq];grind
  |false=>simp
def Jj(l:List Stop)(k:Nat):Int:=match l[k]? with
 |none=>0
 |some x=>if nM x.id=false then 12 else if x.id∈(l.map Stop.id).take k then 6 else if(decide (x.Bj<0)||decide (x.Bj≥16)||decide (x.change<0)||decide (x.change>3600))=true then 2 else 0
def kU(l:List Stop):Int×Int:=if l.length>64 then(0,5)else cW (Jj l) l.length
theorem HY(l:List Stop)(hl:l.length≤maxLen∧∀y∈l,y.Ok):nN [.rs 4 (l.map Stop.pv)]=some (res (kU l).1 (kU l).2):=by
 have hm:=aQ;simp only[nN,Ad,aw,IS,aa,BY];unfold kU;by_cases vV:l.length>64
 ·rw[GW (by simp;omega),GW vV];rfl
 ·rw[No (by simp;omega),No vV,←kz];refine br (fun k=>(l.map Stop.pv,(l.length:Int),(k:Int),seen PV.str ((l.map Stop.id).take k),())) l.length _ (fun k hk rec=>?_) (fun rec=>?_) ?_ rfl
  ·have h1:(k:Int)<(l.length:Int):=by omega
   have hid:=uJ l[k].id (hl.2 _ (ajm hk)).id;have mr:=fi kR l[k].id ((l.map Stop.id).take k);have kA:=eh kR l[k].id ((l.map Stop.id).take k);simp only[tO,AT,h1,IS,aN,IN,cO hk,ajg,aa,Stop.pv,cell,PV.cells,ajf,ajh,bG,asInt,asBool,hid,mr,kA,bh,al (show k<9223372036854775807 by omega),jz Stop.id l k hk];unfold Jj;rw[cO hk];simp only;generalize (decide (l[k].Bj<0)||decide (l[k].Bj≥16)||decide (l[k].change<0)||decide (l[k].change>3600))=c;cases nM l[k].id with
   |false=>rfl
   |true=>
    by_cases bX:l[k].id∈(l.map Stop.id).take k
    ·simp only[bX,IS,aji,cQ,ajI,S3];rfl
    ·simp only[bX,IS,aji,cQ,ajI,S3];cases c<;>rfl
  ·simp only[tO,AT,ajG,S3];rfl
  ·have:=bu;omega
set_option linter.unusedSimpArgs false
def FF(l:List aT)(k:Nat):Int:=match l[k]? with
 |none=>0
 |some x=>if nM x.id=false then 12 else if x.id∈(l.map aT.id).take k then 6 else if(decide (x.mode≥0)&&decide (x.mode<8))=false then 2 else 0
def kv(l:List aT):Int×Int:=if l.length>64 then(0,5)else cW (FF l) l.length
theorem FV(l:List aT)(hl:l.length≤maxLen∧∀y∈l,y.Ok):lT [.rs 3 (l.map aT.pv)]=some (res (kv l).1 (kv l).2):=by
 have hm:=aQ;simp only[lT,xG,aw,IS,aa,BY];unfold kv;by_cases vV:l.length>64
 ·rw[GW (by simp;omega),GW vV];rfl
 ·rw[No (by simp;omega),No vV,←kz];refine br (fun k=>(l.map aT.pv,(l.length:Int),(k:Int),seen PV.str ((l.map aT.id).take k),())) l.length _ (fun k hk rec=>?_) (fun rec=>?_) ?_ rfl
  ·have h1:(k:Int)<(l.length:Int):=by omega
   have hid:=uJ l[k].id (hl.2 _ (ajm hk)).id;have mr:=fi kR l[k].id ((l.map aT.id).take k);have kA:=eh kR l[k].id ((l.map aT.id).take k);simp only[sj,AT,h1,IS,aN,IN,cO hk,ajg,aa,aT.pv,cell,PV.cells,ajf,ajh,bG,asInt,asBool,hid,mr,kA,bh,al (show k<9223372036854775807 by omega),jz aT.id l k hk,tP,xH,bE];unfold FF;rw[cO hk];simp only;generalize (decide (l[k].mode≥0)&&decide (l[k].mode<8))=c;cases nM l[k].id with
   |false=>rfl
   |true=>
    by_cases bX:l[k].id∈(l.map aT.id).take k
    ·simp only[bX,IS,aji,cQ,ajI,S3];rfl
    ·simp only[bX,IS,aji,cQ,ajI,S3];cases c<;>rfl
  ·simp only[sj,AT,ajG,S3];rfl
  ·have:=bu;omega
def wi(n a b:Int):Bool:=decide (n≥a)&&decide (n≤b)
theorem Dh(n a b:Int):bW [.int .i64 n,.int .i64 a,.int .i64 b]=some (.bool (wi n a b)):=by simp only[bW,sk,asInt,IS,aa,bE];rfl
theorem ahV(x:aV):cell x.pv 0=.str x.id:=rfl
theorem ahW(x:aV):cell x.pv 1=.int .i64 x.jy:=rfl
theorem ahX(x:aV):cell x.pv 2=.int .i64 x.cB:=rfl
theorem ahY(x:aV):cell x.pv 3=.int .i64 x.lS:=rfl
theorem ahZ(x:aV):cell x.pv 4=.int .i64 x.jx:=rfl
theorem ah0(x:aV):cell x.pv 5=.int .i64 x.cq:=rfl
def DW(x:aV):Bool:= !wi x.jy 0 1000000|| !wi x.cB 1 8|| !wi x.lS 1 16|| !wi x.jx 0 86400|| !wi x.cq 1 255
def Jq(l:List aV)(k:Nat):Int:=match l[k]? with
 |none=>0
 |some x=>if nM x.id=false then 12 else if x.id∈(l.map aV.id).take k then 6 else if DW x=true then 2 else 0
def fx(l:List aV)(bY within cap:Int):PV:=.agg [.rs 6 (l.map aV.pv),.int .i64 bY,.int .i64 within,.int .i64 cap]
def kV(l:List aV)(bY within cap:Int):Int×Int:=if(!wi bY 0 1000000|| !wi within 0 86400|| !wi cap 0 1000000)=true then(-1,2)else if l.length>16 then(0,5)else cW (Jq l) l.length
theorem vB(l:List aV)(bY within cap:Int)(hl:l.length≤maxLen∧∀y∈l,y.Ok):dp [fx l bY within cap]=some (res (kV l bY within cap).1 (kV l bY within cap).2):=by
 have hm:=aQ;simp only[dp,tQ,fx,asAgg,cell,PV.cells,ajf,ajh,ajj,ajs,Nat.reduceAdd,aw,asInt,asBool,IS,aa,BY,Dh,bh];unfold kV;generalize (!wi bY 0 1000000|| !wi within 0 86400|| !wi cap 0 1000000)=c;cases c with
 |true=>rfl
 |false=>
  simp only[cQ,S3];by_cases vV:l.length>16
  ·rw[GW (by simp;omega),GW vV];rfl
  ·rw[No (by simp;omega),No vV,←kz];refine br (fun k=>(l.map aV.pv,(l.length:Int),(k:Int),seen PV.str ((l.map aV.id).take k),())) l.length _ (fun k hk rec=>?_) (fun rec=>?_) ?_ rfl
   ·have h1:(k:Int)<(l.length:Int):=by omega
    have hid:=uJ l[k].id (hl.2 _ (ajm hk)).id;have mr:=fi kR l[k].id ((l.map aV.id).take k);have kA:=eh kR l[k].id ((l.map aV.id).take k);simp only[oP,AT,h1,IS,aN,IN,cO hk,ajg,aa,ahV,ahW,ahX,ahY,ahZ,ah0,bG,asInt,asBool,hid,mr,kA,Dh,bh,al (show k<9223372036854775807 by omega),jz aV.id l k hk];unfold Jq;rw[cO hk];have hb:(!wi l[k].jy 0 1000000|| !wi l[k].cB 1 8|| !wi l[k].lS 1 16|| !wi l[k].jx 0 86400|| !wi l[k].cq 1 255)=DW l[k]:=rfl;simp only[hb];generalize DW l[k]=c;cases nM l[k].id with
    |false=>rfl
    |true=>
     by_cases bX:l[k].id∈(l.map aV.id).take k
     ·simp only[bX,IS,aji,cQ,ajI,S3];rfl
     ·simp only[bX,IS,aji,cQ,ajI,S3];cases c<;>rfl
   ·simp only[oP,AT,ajG,S3];rfl
   ·have:=bu;omega
theorem FW(x:aR):cell x.pv 0=.int .i64 x.stop:=rfl
theorem LB(x:aR):cell x.pv 1=.int .i64 x.arr:=rfl
theorem Di(x:aR):cell x.pv 2=.int .i64 x.dep:=rfl
def P8(l:List aR):Nat→Option aR
 |0=>none
 |k+1=>l[k]?
def HO(c:aR)(p:Option aR)(stops low high:Int):Int:=
 if(decide (c.stop<0)||decide (c.stop≥stops))=true then 9
 else if(match p with|some p=>decide (p.stop=c.stop)|none=>false)=true then 13
 else if(decide (c.arr<low)||decide (c.arr>c.dep)||decide (c.dep>high)||(match p with|some p=>decide (c.arr<p.dep)|none=>false))=true then 10 else 0
def vv(l:List aR)(stops low high:Int)(k:Nat):Int:=match l[k]? with
 |none=>0
 |some c=>HO c (P8 l k) stops low high
def jT(l:List aR)(stops low high:Int):Int×Int:=if(decide ((l.length:Int)<2)||decide ((l.length:Int)>32))=true then(0,5)else cW (vv l stops low high) l.length
theorem oG(j:Nat)(h:j<9223372036854775807):IntKind.i64.wrap (((j+1:Nat):Int)-1)=(j:Int):=by grind [aY]
theorem LC(l:List aR)(stops low high:Int)(k:Nat)(hk:k<l.length)(hl:l.length≤maxLen):vD [.rs 5 (l.map aR.pv),.int .i64 k,.int .i64 stops,.int .i64 low,.int .i64 high]=some (.int .i64 (vv l stops low high k)):=by
 have hm:=aQ;simp only[vD,FX,aw,asInt,IS,aa,aN,IN,cO hk,ajg,FW,LB,Di,bh];unfold vv HO;rw[cO hk];simp only;cases k with
 |zero=>
  have h0:decide (((0:Nat):Int)>0)=false:=by rfl
  simp only[h0,cond_false,aa,bh,akM,P8];grind
 |succ j=>
  have h0:decide (((j+1:Nat):Int)>0)=true:=by simp
  have hj:j<l.length:=by omega
  simp only[h0,cond_true,aa,oG j (by omega),aN,IN,cO hj,ajg,FW,Di,asInt,IS,P8,jw,bh];grind
theorem HZ(l:List aR)(stops low high:Int)(hl:l.length≤maxLen):nO [.rs 5 (l.map aR.pv),.int .i64 stops,.int .i64 low,.int .i64 high]=some (res (jT l stops low high).1 (jT l stops low high).2):=by
 have hm:=aQ;simp only[nO,Ae,aw,asInt,IS,aa,BY,bh];unfold jT;split
 ·rfl
 ·rw[←kz];refine br (fun k=>(l.map aR.pv,stops,low,high,(l.length:Int),(k:Int),())) l.length _ (fun k hk rec=>?_) (fun rec=>?_) ?_ rfl
  ·have h1:(k:Int)<(l.length:Int):=by omega
   simp only[tR,AT,h1,IS,LC l stops low high k hk hl,aa,asInt,al (show k<9223372036854775807 by omega),pI];grind [vv,FY,ca,res]
  ·simp only[tR,AT,ajG,S3];rfl
  ·have:=bu;omega
structure ec where
 bR:Int
 day:Int
 inst:Int
 id:Bytes
 fh:Int
 free:Bool
 ab9:Bool
 calls:List aR
 deriving DecidableEq
def ec.pv(x:ec):PV:=.agg [.int .i64 x.bR,.int .i64 x.day,.int .i64 x.inst,.str x.id,.int .i64 x.fh,.bool x.free,.bool x.ab9,.rs 5 (x.calls.map aR.pv)]
structure ec.eZ(M:Nat)(x:ec):Prop where
 bR:iQ x.bR
 day:iQ x.day
 inst:iQ x.inst
 id:x.id.length≤M
 fh:iQ x.fh
 calls:x.calls.length≤M∧∀y∈x.calls,y.eZ M
abbrev ec.Ok(x:ec):Prop:=x.eZ maxLen
theorem aei(r:ec):asAgg 8 r.pv=some ():=rfl
theorem wg(x:ec):cell x.pv 0=.int .i64 x.bR:=rfl
theorem abU(x:ec):cell x.pv 1=.int .i64 x.day:=rfl
theorem abV(x:ec):cell x.pv 2=.int .i64 x.inst:=rfl
theorem abW(x:ec):cell x.pv 3=.str x.id:=rfl
theorem RZ(x:ec):cell x.pv 4=.int .i64 x.fh:=rfl
theorem abX(x:ec):cell x.pv 5=.bool x.free:=rfl
theorem abY(x:ec):cell x.pv 6=.bool x.ab9:=rfl
theorem I2(x:ec):cell x.pv 7=.rs 5 (x.calls.map aR.pv):=rfl
structure bA where
 a:Int
 ac:Int
 b:Int
 bc:Int
 stay:Bool
 deriving DecidableEq
def bA.pv(x:bA):PV:=.agg [.int .i64 x.a,.int .i64 x.ac,.int .i64 x.b,.int .i64 x.bc,.bool x.stay]
structure bA.eZ(M:Nat)(x:bA):Prop where
 a:iQ x.a
 ac:iQ x.ac
 b:iQ x.b
 bc:iQ x.bc
abbrev bA.Ok(x:bA):Prop:=x.eZ maxLen
theorem aaT(x:bA):cell x.pv 0=.int .i64 x.a:=rfl
theorem aaU(x:bA):cell x.pv 1=.int .i64 x.ac:=rfl
theorem link2(x:bA):cell x.pv 2=.int .i64 x.b:=rfl
theorem aaV(x:bA):cell x.pv 3=.int .i64 x.bc:=rfl
theorem aaW(x:bA):cell x.pv 4=.bool x.stay:=rfl
theorem PU(x:Path):cell x.pv 0=.int .i64 x.a:=rfl
theorem PW(x:Path):cell x.pv 1=.int .i64 x.b:=rfl
theorem PX(x:Path):cell x.pv 2=.int .i64 x.jx:=rfl
theorem PY(x:Path):cell x.pv 3=.bool x.free:=rfl
structure ae where
 stops:List Stop
 ar:List aT
 runs:List ec
 bj:List bA
 paths:List Path
 ba:List aV
 bY:Int
 within:Int
 cap:Int
 deriving DecidableEq
def ae.pv(x:ae):PV:=.agg [.rs 4 (x.stops.map Stop.pv),.rs 3 (x.ar.map aT.pv),.rs 8 (x.runs.map ec.pv),.rs 5 (x.bj.map bA.pv),.rs 4 (x.paths.map Path.pv),.rs 6 (x.ba.map aV.pv),.int .i64 x.bY,.int .i64 x.within,.int .i64 x.cap]
structure ae.eZ(M:Nat)(x:ae):Prop where
 stops:x.stops.length≤M∧∀y∈x.stops,y.eZ M
 ar:x.ar.length≤M∧∀y∈x.ar,y.eZ M
 runs:x.runs.length≤M∧∀y∈x.runs,y.eZ M
 bj:x.bj.length≤M∧∀y∈x.bj,y.eZ M
 paths:x.paths.length≤M∧∀y∈x.paths,y.eZ M
 ba:x.ba.length≤M∧∀y∈x.ba,y.eZ M
 bY:iQ x.bY
 within:iQ x.within
 cap:iQ x.cap
abbrev ae.Ok(x:ae):Prop:=x.eZ maxLen
theorem A8(x:ae):asAgg 9 x.pv=some ():=rfl
theorem A9(x:ae):aw 4 (cell x.pv 0)=some (x.stops.map Stop.pv):=rfl
theorem Ba(x:ae):aw 3 (cell x.pv 1)=some (x.ar.map aT.pv):=rfl
theorem Bb(x:ae):aw 8 (cell x.pv 2)=some (x.runs.map ec.pv):=rfl
theorem Bc(x:ae):aw 5 (cell x.pv 3)=some (x.bj.map bA.pv):=rfl
theorem Bd(x:ae):aw 4 (cell x.pv 4)=some (x.paths.map Path.pv):=rfl
theorem Be(x:ae):aw 6 (cell x.pv 5)=some (x.ba.map aV.pv):=rfl
theorem Bf(x:ae):asInt .i64 (cell x.pv 6)=some x.bY:=rfl
theorem Bg(x:ae):asInt .i64 (cell x.pv 7)=some x.within:=rfl
theorem Bh(x:ae):asInt .i64 (cell x.pv 8)=some x.cap:=rfl
theorem La(x:ae):PV.agg [.rs 4 (x.stops.map Stop.pv),.rs 3 (x.ar.map aT.pv),.rs 8 (x.runs.map ec.pv),.rs 5 (x.bj.map bA.pv),.rs 4 (x.paths.map Path.pv),.rs 6 (x.ba.map aV.pv),.int .i64 x.bY,.int .i64 x.within,.int .i64 x.cap]=x.pv:=rfl
def r3(p i e:Int):PV:=.agg [.int .i64 p,.int .i64 i,.int .i64 e]
def prt(p:Int)(x:Int×Int):PV:=if x.2=0 then r3 0 0 0 else r3 p x.1 x.2
theorem Tx(p i e:Int):asAgg 3 (r3 p i e)=some ():=rfl
theorem VW(p i e:Int):cell (r3 p i e) 0=.int .i64 p:=rfl
theorem VX(p i e:Int):cell (r3 p i e) 1=.int .i64 i:=rfl
theorem SG(p i e:Int):cell (r3 p i e) 2=.int .i64 e:=rfl
theorem LD(p i e:Int):bd [.int .i64 p,.int .i64 i,.int .i64 e]=some (r3 p i e):=rfl
theorem Af(n m:Int):cR [.int .i64 n,.int .i64 m]=some (.bool (decide (n≥0)&&decide (n<m))):=by simp[cR,sl,asInt,IS,aa,bE]
variable{R:Type}
theorem yP(f:Nat→Int)(n:Nat)(g:Int→Int→R)(fin:Option R):ca ((List.range n).findSome? fun k=>if f k=0 then none else some (some (g k (f k)))) fin=if(cW f n).2=0 then fin else some (g (cW f n).1 (cW f n).2):=by
 unfold cW;have:(List.range n).findSome? (fun k=>if f k=0 then none else some (some (g k (f k))))=((List.range n).findSome? (fun k=>if f k=0 then none else some ((k:Int),f k))).map fun x=>some (g x.1 x.2):=by rw[List.map_findSome?];congr 1;grind
 rw[this];cases hf:(List.range n).findSome? (fun k=>if f k=0 then none else some ((k:Int),f k))with
 |none=>rfl
 |some x=>
  obtain⟨k,_,hk⟩:=ajS hf;have hx:x.2≠0:=by grind
  simp_all[ajg,ca,No]
theorem oI(f:Nat→Int)(n:Nat):(cW f n).2=0↔∀k,k<n→f k=0:=by
 unfold cW;cases hf:(List.range n).findSome? (fun k=>if f k=0 then none else some ((k:Int),f k))with
 |none=>simp_all
 |some x=>obtain⟨k,hk,hx⟩:=ajS hf;grind
theorem GN{S:Type}{body:S→(S→Option R)→Option R}(st:Nat→S)(n:Nat)(bad:Nat→Option (Option R)){fin:Option R}(h:∀k,k<n→(∀j,j<k→bad j=none)→∀rec,body (st k) rec=ca (bad k) (rec (st (k+1))))(rr:(∀j,j<n→bad j=none)→∀rec,body (st n) rec=fin)(hn:n<rounds){s0:S}(h0:st 0=s0):bn.run body s0=ca ((List.range n).findSome? bad) fin:=by
 by_cases wa:∀j,j<n→bad j=none
 ·have:(List.range n).findSome? bad=none:=by simp_all
  rw[this];refine aZ st n (fun k hk rec=>?_) (rr wa) hn h0;rw[h k hk (fun j hj=>wa j (by omega)),wa k hk];rfl
 ·have hex:∃m,m<n∧bad m≠none∧∀j,j<m→bad j=none:=by
   have key:∀m,(∃i,i<m∧i<n∧bad i≠none)→∃m,m<n∧bad m≠none∧∀j,j<m→bad j=none:=by
    intro m;induction m with
    |zero=>omega
    |succ m ih=>
     intro hi;by_cases hc:∃i,i<m∧i<n∧bad i≠none
     ·exact ih hc
     grind
   have hc:∃i,i<n∧bad i≠none:=by simp_all
   obtain⟨i,h1,h2⟩:=hc;exact key n ⟨i,h1,h1,h2⟩
  obtain⟨m,hm,hb,bT⟩:=hex;cases hbm:bad m with
  |none=>exact absurd hbm hb
  |some x=>
   have hf:(List.range n).findSome? bad=some x:=by
    have hnm:n=m+(n-m):=by omega
    rw[hnm,List.range_add,List.findSome?_append];have h1:(List.range m).findSome? bad=none:=by grind
    rw[h1,Option.none_or];have hd:n-m=(n-m-1)+1:=by omega
    rw[hd,akR,ajr,ajY,akt,hbm]
   rw[hf];refine aZ st m (fun k hk rec=>?_) (fun rec=>?_) (by omega) h0
   ·rw[h k (by omega) (fun j hj=>bT j (by omega)),bT k hk];rfl
   ·rw[h m hm bT,hbm];rfl
theorem ZU{A:Type}[DecidableEq A](a b:List A)(h:a.length=b.length)(no fin:Option R):ca ((List.range a.length).findSome? fun k=>if a[k]?=b[k]? then none else some no) fin=if a=b then fin else no:=by
 by_cases wb:a=b
 ·rw[GW wb];have:(List.range a.length).findSome? (fun k=>if a[k]?=b[k]? then none else some no)=none:=by simp_all
  rw[this];rfl
 ·rw[No wb];cases hf:(List.range a.length).findSome? (fun k=>if a[k]?=b[k]? then none else some no)with
  |none=>refine absurd (ajw fun k=>?_) wb;grind
  |some x=>
   obtain⟨k,hk,hx⟩:=ajS hf;by_cases h0:a[k]?=b[k]?
   ·simp_all
   ·rw[No h0]at hx;simp only[cN]at hx;subst hx;rfl
end Go.Ab.Tt
