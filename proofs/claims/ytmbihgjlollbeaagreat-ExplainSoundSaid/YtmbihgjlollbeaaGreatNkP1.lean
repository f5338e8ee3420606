import Derived.Test.YtmbihgjlollbeaaGreatTtChk0
import Derived.Test.YtmbihgjlollbeaaGreatSh6
namespace Go.Ab.Tt
set_option maxRecDepth 100000
set_option linter.all false
theorem vf(s:Bytes)(hs:s.length≤maxLen):eB [.str s]=some (.bool (lR s)):=by
 have hm:=aT;simp only[eB,yu,bu,U];refine(Pc s hs zl (some (.bool false)) (some (.bool (decide ((s.length:Int)>0)&&decide ((s.length:Int)≤32)))) (fun k hk rec=>?_) (fun rec=>?_)).trans ?_
 ·have h1:(k:Int)<(s.length:Int):=by omega
  simp only[sS,AT,h1,Ko,W4,cN hk,U,bF,aj (show k<9223372036854775807 by omega),iG];grind [zl,decide]
 ·simp[sS,AT,akB,abp,bF,U]
 ·unfold lR;cases s.all zl with
  |true=>simp only[Ko,aln,cO,PV.bool.injEq];grind
  |false=>simp
def El(l:List Stop)(k:Nat):Int:=match l[k]? with
 |none=>0
 |some x=>if lR x.id=false then 12 else if x.id∈(l.map Stop.id).take k then 6 else if(decide (x.BC<0)||decide (x.BC≥16)||decide (x.change<0)||decide (x.change>3600))=true then 2 else 0
def jX(l:List Stop):Int×Int:=if l.length>64 then(0,5)else cX (El l) l.length
theorem Iw(l:List Stop)(hl:l.length≤maxLen∧∀y∈l,y.Ok):nY [.rs 4 (l.map Stop.pv)]=some (res (jX l).1 (jX l).2):=by
 have hm:=aT;simp only[nY,AG,aw,Ko,U,BY];unfold jX;by_cases vP:l.length>64
 ·rw[AI (by simp;omega),AI vP];rfl
 ·rw[IS (by simp;omega),IS vP,←kH];refine br (fun k=>(l.map Stop.pv,(l.length:Int),(k:Int),seen PV.str ((l.map Stop.id).take k),())) l.length _ (fun k hk rec=>?_) (fun rec=>?_) ?_ rfl
  ·have h1:(k:Int)<(l.length:Int):=by omega
   have hid:=vf l[k].id (hl.2 _ (aki hk)).id;have mJ:=fp k8 l[k].id ((l.map Stop.id).take k);have kJ:=ep k8 l[k].id ((l.map Stop.id).take k);simp only[ui,AT,h1,Ko,aM,IT,cN hk,akb,U,Stop.pv,cell,PV.cells,ajc,aka,bu,asInt,asBool,hid,mJ,kJ,bf,aj (show k<9223372036854775807 by omega),jE Stop.id l k hk];unfold El;rw[cN hk];simp only;generalize (decide (l[k].BC<0)||decide (l[k].BC≥16)||decide (l[k].change<0)||decide (l[k].change>3600))=c;cases lR l[k].id with
   |false=>rfl
   |true=>
    by_cases bW:l[k].id∈(l.map Stop.id).take k
    ·simp only[bW,Ko,akf,cQ,akD,abp];rfl
    ·simp only[bW,Ko,akf,cQ,akD,abp];cases c<;>rfl
  ·simp only[ui,AT,akB,abp];rfl
  ·have:=bw;omega
def Ge(l:List aV)(k:Nat):Int:=match l[k]? with
 |none=>0
 |some x=>if lR x.id=false then 12 else if x.id∈(l.map aV.id).take k then 6 else if(decide (x.mode≥0)&&decide (x.mode<8))=false then 2 else 0
def kE(l:List aV):Int×Int:=if l.length>64 then(0,5)else cX (Ge l) l.length
theorem Gt(l:List aV)(hl:l.length≤maxLen∧∀y∈l,y.Ok):l8 [.rs 3 (l.map aV.pv)]=some (res (kE l).1 (kE l).2):=by
 have hm:=aT;simp only[l8,yw,aw,Ko,U,BY];unfold kE;by_cases vP:l.length>64
 ·rw[AI (by simp;omega),AI vP];rfl
 ·rw[IS (by simp;omega),IS vP,←kH];refine br (fun k=>(l.map aV.pv,(l.length:Int),(k:Int),seen PV.str ((l.map aV.id).take k),())) l.length _ (fun k hk rec=>?_) (fun rec=>?_) ?_ rfl
  ·have h1:(k:Int)<(l.length:Int):=by omega
   have hid:=vf l[k].id (hl.2 _ (aki hk)).id;have mJ:=fp k8 l[k].id ((l.map aV.id).take k);have kJ:=ep k8 l[k].id ((l.map aV.id).take k);simp only[sT,AT,h1,Ko,aM,IT,cN hk,akb,U,aV.pv,cell,PV.cells,ajc,aka,bu,asInt,asBool,hid,mJ,kJ,bf,aj (show k<9223372036854775807 by omega),jE aV.id l k hk,uj,yy,bF];unfold Ge;rw[cN hk];simp only;generalize (decide (l[k].mode≥0)&&decide (l[k].mode<8))=c;cases lR l[k].id with
   |false=>rfl
   |true=>
    by_cases bW:l[k].id∈(l.map aV.id).take k
    ·simp only[bW,Ko,akf,cQ,akD,abp];rfl
    ·simp only[bW,Ko,akf,cQ,akD,abp];cases c<;>rfl
  ·simp only[sT,AT,akB,abp];rfl
  ·have:=bw;omega
def wi(n a b:Int):Bool:=decide (n≥a)&&decide (n≤b)
theorem Dz(n a b:Int):bV [.int .i64 n,.int .i64 a,.int .i64 b]=some (.bool (wi n a b)):=by simp only[bV,sU,asInt,Ko,U,bF];rfl
theorem aiR(x:aR):cell x.pv 0=.str x.id:=rfl
theorem aiS(x:aR):cell x.pv 1=.int .i64 x.jU:=rfl
theorem aiT(x:aR):cell x.pv 2=.int .i64 x.cB:=rfl
theorem aiU(x:aR):cell x.pv 3=.int .i64 x.l7:=rfl
theorem aiV(x:aR):cell x.pv 4=.int .i64 x.jD:=rfl
theorem aiW(x:aR):cell x.pv 5=.int .i64 x.cr:=rfl
def En(x:aR):Bool:= !wi x.jU 0 1000000|| !wi x.cB 1 8|| !wi x.l7 1 16|| !wi x.jD 0 86400|| !wi x.cr 1 255
def Em(l:List aR)(k:Nat):Int:=match l[k]? with
 |none=>0
 |some x=>if lR x.id=false then 12 else if x.id∈(l.map aR.id).take k then 6 else if En x=true then 2 else 0
def fE(l:List aR)(bX within cap:Int):PV:=.agg [.rs 6 (l.map aR.pv),.int .i64 bX,.int .i64 within,.int .i64 cap]
def jY(l:List aR)(bX within cap:Int):Int×Int:=if(!wi bX 0 1000000|| !wi within 0 86400|| !wi cap 0 1000000)=true then(-1,2)else if l.length>16 then(0,5)else cX (Em l) l.length
theorem vW(l:List aR)(bX within cap:Int)(hl:l.length≤maxLen∧∀y∈l,y.Ok):dr [fE l bX within cap]=some (res (jY l bX within cap).1 (jY l bX within cap).2):=by
 have hm:=aT;simp only[dr,uk,fE,asAgg,cell,PV.cells,ajc,aka,akd,akm,Nat.reduceAdd,aw,asInt,asBool,Ko,U,BY,Dz,bf];unfold jY;generalize (!wi bX 0 1000000|| !wi within 0 86400|| !wi cap 0 1000000)=c;cases c with
 |true=>rfl
 |false=>
  simp only[cQ,abp];by_cases vP:l.length>16
  ·rw[AI (by simp;omega),AI vP];rfl
  ·rw[IS (by simp;omega),IS vP,←kH];refine br (fun k=>(l.map aR.pv,(l.length:Int),(k:Int),seen PV.str ((l.map aR.id).take k),())) l.length _ (fun k hk rec=>?_) (fun rec=>?_) ?_ rfl
   ·have h1:(k:Int)<(l.length:Int):=by omega
    have hid:=vf l[k].id (hl.2 _ (aki hk)).id;have mJ:=fp k8 l[k].id ((l.map aR.id).take k);have kJ:=ep k8 l[k].id ((l.map aR.id).take k);simp only[pg,AT,h1,Ko,aM,IT,cN hk,akb,U,aiR,aiS,aiT,aiU,aiV,aiW,bu,asInt,asBool,hid,mJ,kJ,Dz,bf,aj (show k<9223372036854775807 by omega),jE aR.id l k hk];unfold Em;rw[cN hk];have hb:(!wi l[k].jU 0 1000000|| !wi l[k].cB 1 8|| !wi l[k].l7 1 16|| !wi l[k].jD 0 86400|| !wi l[k].cr 1 255)=En l[k]:=rfl;simp only[hb];generalize En l[k]=c;cases lR l[k].id with
    |false=>rfl
    |true=>
     by_cases bW:l[k].id∈(l.map aR.id).take k
     ·simp only[bW,Ko,akf,cQ,akD,abp];rfl
     ·simp only[bW,Ko,akf,cQ,akD,abp];cases c<;>rfl
   ·simp only[pg,AT,akB,abp];rfl
   ·have:=bw;omega
theorem Gu(x:aQ):cell x.pv 0=.int .i64 x.stop:=rfl
theorem Mh(x:aQ):cell x.pv 1=.int .i64 x.arr:=rfl
theorem DA(x:aQ):cell x.pv 2=.int .i64 x.dep:=rfl
def Rb(l:List aQ):Nat→Option aQ
 |0=>none
 |k+1=>l[k]?
def Il(c:aQ)(p:Option aQ)(stops low high:Int):Int:=
 if(decide (c.stop<0)||decide (c.stop≥stops))=true then 9
 else if(match p with|some p=>decide (p.stop=c.stop)|none=>false)=true then 13
 else if(decide (c.arr<low)||decide (c.arr>c.dep)||decide (c.dep>high)||(match p with|some p=>decide (c.arr<p.dep)|none=>false))=true then 10 else 0
def vS(l:List aQ)(stops low high:Int)(k:Nat):Int:=match l[k]? with
 |none=>0
 |some c=>Il c (Rb l k) stops low high
def j3(l:List aQ)(stops low high:Int):Int×Int:=if(decide ((l.length:Int)<2)||decide ((l.length:Int)>32))=true then(0,5)else cX (vS l stops low high) l.length
theorem rM(j:Nat)(h:j<9223372036854775807):IntKind.i64.wrap (((j+1:Nat):Int)-1)=(j:Int):=by grind [aY]
theorem Mi(l:List aQ)(stops low high:Int)(k:Nat)(hk:k<l.length)(hl:l.length≤maxLen):vY [.rs 5 (l.map aQ.pv),.int .i64 k,.int .i64 stops,.int .i64 low,.int .i64 high]=some (.int .i64 (vS l stops low high k)):=by
 have hm:=aT;simp only[vY,Gv,aw,asInt,Ko,U,aM,IT,cN hk,akb,Gu,Mh,DA,bf];unfold vS Il;rw[cN hk];simp only;cases k with
 |zero=>
  have h0:decide (((0:Nat):Int)>0)=false:=by rfl
  simp only[h0,cond_false,U,bf,alJ,Rb];grind
 |succ j=>
  have h0:decide (((j+1:Nat):Int)>0)=true:=by simp
  have hj:j<l.length:=by omega
  simp only[h0,cond_true,U,rM j (by omega),aM,IT,cN hj,akb,Gu,DA,asInt,Ko,Rb,iG,bf];grind
theorem Ix(l:List aQ)(stops low high:Int)(hl:l.length≤maxLen):nZ [.rs 5 (l.map aQ.pv),.int .i64 stops,.int .i64 low,.int .i64 high]=some (res (j3 l stops low high).1 (j3 l stops low high).2):=by
 have hm:=aT;simp only[nZ,AH,aw,asInt,Ko,U,BY,bf];unfold j3;split
 ·rfl
 ·rw[←kH];refine br (fun k=>(l.map aQ.pv,stops,low,high,(l.length:Int),(k:Int),())) l.length _ (fun k hk rec=>?_) (fun rec=>?_) ?_ rfl
  ·have h1:(k:Int)<(l.length:Int):=by omega
   simp only[uo,AT,h1,Ko,Mi l stops low high k hk hl,U,asInt,aj (show k<9223372036854775807 by omega),pW];grind [vS,Gw,ca,res]
  ·simp only[uo,AT,akB,abp];rfl
  ·have:=bw;omega
structure dL where
 bO:Int
 day:Int
 inst:Int
 id:Bytes
 fo:Int
 free:Bool
 adp:Bool
 calls:List aQ
 deriving DecidableEq
def dL.pv(x:dL):PV:=.agg [.int .i64 x.bO,.int .i64 x.day,.int .i64 x.inst,.str x.id,.int .i64 x.fo,.bool x.free,.bool x.adp,.rs 5 (x.calls.map aQ.pv)]
structure dL.fg(M:Nat)(x:dL):Prop where
 bO:eP x.bO
 day:eP x.day
 inst:eP x.inst
 id:x.id.length≤M
 fo:eP x.fo
 calls:x.calls.length≤M∧∀y∈x.calls,y.fg M
abbrev dL.Ok(x:dL):Prop:=x.fg maxLen
theorem adg(r:dL):asAgg 8 r.pv=some ():=rfl
theorem aiF(r:dL):PV.agg [cell r.pv 0,cell r.pv 1,cell r.pv 2,cell r.pv 3,cell r.pv 4,cell r.pv 5,cell r.pv 6,cell r.pv 7]=r.pv:=rfl
theorem wI(x:dL):cell x.pv 0=.int .i64 x.bO:=rfl
theorem aam(x:dL):cell x.pv 1=.int .i64 x.day:=rfl
theorem aan(x:dL):cell x.pv 2=.int .i64 x.inst:=rfl
theorem aao(x:dL):cell x.pv 3=.str x.id:=rfl
theorem Oa(x:dL):cell x.pv 4=.int .i64 x.fo:=rfl
theorem aap(x:dL):cell x.pv 5=.bool x.free:=rfl
theorem aaq(x:dL):cell x.pv 6=.bool x.adp:=rfl
theorem Hb(x:dL):cell x.pv 7=.rs 5 (x.calls.map aQ.pv):=rfl
structure bB where
 a:Int
 ac:Int
 b:Int
 bc:Int
 stay:Bool
 deriving DecidableEq
def bB.pv(x:bB):PV:=.agg [.int .i64 x.a,.int .i64 x.ac,.int .i64 x.b,.int .i64 x.bc,.bool x.stay]
structure bB.fg(M:Nat)(x:bB):Prop where
 a:eP x.a
 ac:eP x.ac
 b:eP x.b
 bc:eP x.bc
abbrev bB.Ok(x:bB):Prop:=x.fg maxLen
theorem acf(x:bB):cell x.pv 0=.int .i64 x.a:=rfl
theorem acg(x:bB):cell x.pv 1=.int .i64 x.ac:=rfl
theorem link2(x:bB):cell x.pv 2=.int .i64 x.b:=rfl
theorem ach(x:bB):cell x.pv 3=.int .i64 x.bc:=rfl
theorem aci(x:bB):cell x.pv 4=.bool x.stay:=rfl
theorem QY(x:Path):cell x.pv 0=.int .i64 x.a:=rfl
theorem QZ(x:Path):cell x.pv 1=.int .i64 x.b:=rfl
theorem Q0(x:Path):cell x.pv 2=.int .i64 x.jD:=rfl
theorem Q1(x:Path):cell x.pv 3=.bool x.free:=rfl
structure ab where
 stops:List Stop
 au:List aV
 runs:List dL
 bj:List bB
 paths:List Path
 aP:List aR
 bX:Int
 within:Int
 cap:Int
 deriving DecidableEq
def ab.pv(x:ab):PV:=.agg [.rs 4 (x.stops.map Stop.pv),.rs 3 (x.au.map aV.pv),.rs 8 (x.runs.map dL.pv),.rs 5 (x.bj.map bB.pv),.rs 4 (x.paths.map Path.pv),.rs 6 (x.aP.map aR.pv),.int .i64 x.bX,.int .i64 x.within,.int .i64 x.cap]
structure ab.fg(M:Nat)(x:ab):Prop where
 stops:x.stops.length≤M∧∀y∈x.stops,y.fg M
 au:x.au.length≤M∧∀y∈x.au,y.fg M
 runs:x.runs.length≤M∧∀y∈x.runs,y.fg M
 bj:x.bj.length≤M∧∀y∈x.bj,y.fg M
 paths:x.paths.length≤M∧∀y∈x.paths,y.fg M
 aP:x.aP.length≤M∧∀y∈x.aP,y.fg M
 bX:eP x.bX
 within:eP x.within
 cap:eP x.cap
abbrev ab.Ok(x:ab):Prop:=x.fg maxLen
theorem wK(x:ab):asAgg 9 x.pv=some ():=rfl
theorem wL(x:ab):aw 4 (cell x.pv 0)=some (x.stops.map Stop.pv):=rfl
theorem wM(x:ab):aw 3 (cell x.pv 1)=some (x.au.map aV.pv):=rfl
theorem wN(x:ab):aw 8 (cell x.pv 2)=some (x.runs.map dL.pv):=rfl
theorem wO(x:ab):aw 5 (cell x.pv 3)=some (x.bj.map bB.pv):=rfl
theorem wP(x:ab):aw 4 (cell x.pv 4)=some (x.paths.map Path.pv):=rfl
theorem wQ(x:ab):aw 6 (cell x.pv 5)=some (x.aP.map aR.pv):=rfl
theorem wR(x:ab):asInt .i64 (cell x.pv 6)=some x.bX:=rfl
theorem wS(x:ab):asInt .i64 (cell x.pv 7)=some x.within:=rfl
theorem wT(x:ab):asInt .i64 (cell x.pv 8)=some x.cap:=rfl
theorem DX(x:ab):PV.agg [.rs 4 (x.stops.map Stop.pv),.rs 3 (x.au.map aV.pv),.rs 8 (x.runs.map dL.pv),.rs 5 (x.bj.map bB.pv),.rs 4 (x.paths.map Path.pv),.rs 6 (x.aP.map aR.pv),.int .i64 x.bX,.int .i64 x.within,.int .i64 x.cap]=x.pv:=rfl
def r3(p i e:Int):PV:=.agg [.int .i64 p,.int .i64 i,.int .i64 e]
def prt(p:Int)(x:Int×Int):PV:=if x.2=0 then r3 0 0 0 else r3 p x.1 x.2
theorem UD(p i e:Int):asAgg 3 (r3 p i e)=some ():=rfl
theorem W5(p i e:Int):cell (r3 p i e) 0=.int .i64 p:=rfl
theorem W6(p i e:Int):cell (r3 p i e) 1=.int .i64 i:=rfl
theorem TP(p i e:Int):cell (r3 p i e) 2=.int .i64 e:=rfl
theorem Mj(p i e:Int):aZ [.int .i64 p,.int .i64 i,.int .i64 e]=some (r3 p i e):=rfl
theorem AJ(n m:Int):cR [.int .i64 n,.int .i64 m]=some (.bool (decide (n≥0)&&decide (n<m))):=by simp[cR,sV,asInt,Ko,U,bF]
variable{R:Type}
theorem zn(f:Nat→Int)(n:Nat)(g:Int→Int→R)(fin:Option R):ca ((List.range n).findSome? fun k=>if f k=0 then none else some (some (g k (f k)))) fin=if(cX f n).2=0 then fin else some (g (cX f n).1 (cX f n).2):=by
 unfold cX;have:(List.range n).findSome? (fun k=>if f k=0 then none else some (some (g k (f k))))=((List.range n).findSome? (fun k=>if f k=0 then none else some ((k:Int),f k))).map fun x=>some (g x.1 x.2):=by rw[List.map_findSome?];congr 1;grind
 rw[this];cases hf:(List.range n).findSome? (fun k=>if f k=0 then none else some ((k:Int),f k))with
 |none=>rfl
 |some x=>
  obtain⟨k,_,hk⟩:=akM hf;have hx:x.2≠0:=by grind
  simp_all[akb,ca,IS]
theorem kD(f:Nat→Int)(n:Nat):(cX f n).2=0↔∀k,k<n→f k=0:=by
 unfold cX;cases hf:(List.range n).findSome? (fun k=>if f k=0 then none else some ((k:Int),f k))with
 |none=>simp_all
 |some x=>obtain⟨k,hk,hx⟩:=akM hf;grind
theorem Hd{S:Type}{body:S→(S→Option R)→Option R}(st:Nat→S)(n:Nat)(bad:Nat→Option (Option R)){fin:Option R}(h:∀k,k<n→(∀j,j<k→bad j=none)→∀rec,body (st k) rec=ca (bad k) (rec (st (k+1))))(rZ:(∀j,j<n→bad j=none)→∀rec,body (st n) rec=fin)(hn:n<rounds){s0:S}(h0:st 0=s0):bk.run body s0=ca ((List.range n).findSome? bad) fin:=by
 by_cases zu:∀j,j<n→bad j=none
 ·have:(List.range n).findSome? bad=none:=by simp_all
  rw[this];refine ba st n (fun k hk rec=>?_) (rZ zu) hn h0;rw[h k hk (fun j hj=>zu j (by omega)),zu k hk];rfl
 ·have hex:∃m,m<n∧bad m≠none∧∀j,j<m→bad j=none:=by
   have key:∀m,(∃i,i<m∧i<n∧bad i≠none)→∃m,m<n∧bad m≠none∧∀j,j<m→bad j=none:=by
    intro m;induction m with
    |zero=>omega
    |succ m ih=>
     intro hi;by_cases hc:∃i,i<m∧i<n∧bad i≠none
     ·exact ih hc
     grind
   have hc:∃i,i<n∧bad i≠none:=by simp_all
   obtain⟨i,h1,h2⟩:=hc;exact key n ⟨i,h1,h1,h2⟩
  obtain⟨m,hm,hb,bZ⟩:=hex;cases hbm:bad m with
  |none=>exact absurd hbm hb
  |some x=>
   have hf:(List.range n).findSome? bad=some x:=by
    have hnm:n=m+(n-m):=by omega
    rw[hnm,List.range_add,List.findSome?_append];have h1:(List.range m).findSome? bad=none:=by grind
    rw[h1,Option.none_or];have hd:n-m=(n-m-1)+1:=by omega
    rw[hd,alP,akn,akU,alp,hbm]
   rw[hf];refine ba st m (fun k hk rec=>?_) (fun rec=>?_) (by omega) h0
   ·rw[h k (by omega) (fun j hj=>bZ j (by omega)),bZ k hk];rfl
   ·rw[h m hm bZ,hbm];rfl
theorem aba{A:Type}[DecidableEq A](a b:List A)(h:a.length=b.length)(no fin:Option R):ca ((List.range a.length).findSome? fun k=>if a[k]?=b[k]? then none else some no) fin=if a=b then fin else no:=by
 by_cases wG:a=b
 ·rw[AI wG];have:(List.range a.length).findSome? (fun k=>if a[k]?=b[k]? then none else some no)=none:=by simp_all
  rw[this];rfl
 ·rw[IS wG];cases hf:(List.range a.length).findSome? (fun k=>if a[k]?=b[k]? then none else some no)with
  |none=>refine absurd (aks fun k=>?_) wG;grind
  |some x=>
   obtain⟨k,hk,hx⟩:=akM hf;by_cases h0:a[k]?=b[k]?
   ·simp_all
   ·rw[IS h0]at hx;simp only[cO]at hx;subst hx;rfl
end Go.Ab.Tt
