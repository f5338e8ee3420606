import Derived.Test.YtoaknfoobjnjgaaGreatOvP1
set_option linter.all false
namespace Go.Ab.Tt
set_option maxRecDepth 100000
theorem Px{e:Int}{x y:Option PV}:(if(e !=0)=true then x else y)=if e=0 then y else x:=by by_cases h:e=0<;>simp[h]
theorem Gj(l:List aX)(i:Nat)(hi:i<l.length):(l.map aX.vi)[i]?=some l[i].vi:=by simp[hi]
theorem agM(l:List aX)(i:Nat)(hi:i<l.length):aC (i:Int) (l.map aX.vi).length:=by rw[By];exact⟨by omega,by omega⟩
theorem ID(x:aX)(l:List ai):PV.agg [.int .i64 x.aZ,.int .i64 x.day,.int .i64 x.inst,.str x.id,.int .i64 x.aY,.bool x.free,.bool x.rr,.jr 5 (l.map ai.pv)]=({x with calls:=l}:aX).vi:=rfl
theorem Wo(n:Int):Ab.asInt .i64 (.int .i64 n)=some n:=rfl
theorem adL(x:ai):PV.agg [cell x.pv 0,cell x.pv 1,cell x.pv 2,cell x.pv 3,cell x.pv 4]=x.pv:=rfl
theorem kI1(x:ai):Ab.asInt .i64 (cell x.pv 1)=some x.arr:=rfl
theorem kI2(x:ai):Ab.asInt .i64 (cell x.pv 2)=some x.dep:=rfl
theorem aj6(x:ai)(a:Int):PV.agg (cell x.pv 0::.int .i64 a::over [] [cell x.pv 2,cell x.pv 3,cell x.pv 4])=({x with arr:=a}:ai).pv:=rfl
theorem aj7(x:ai)(d:Int):PV.agg (cell x.pv 0::cell x.pv 1::.int .i64 d::over [] [cell x.pv 3,cell x.pv 4])=({x with dep:=d}:ai).pv:=rfl
theorem aj8(c:ai)(a:Int):(if a+kY c>c.dep then a+kY c else c.dep)=(late c a).dep:=by cases c;exact id rfl
theorem adM(c:ai)(a:Int):ai.mk c.stop a (late c a).dep c.FE c.zU=late c a:=rfl
theorem aj9(x:aX)(l:List PV):(if(8:Nat)=1 then PV.jr 5 l else .agg (cell x.vi 0::cell x.vi 1::cell x.vi 2::cell x.vi 3::cell x.vi 4::cell x.vi 5::cell x.vi 6::.jr 5 l::over [] []))=.agg [.int .i64 x.aZ,.int .i64 x.day,.int .i64 x.inst,.str x.id,.int .i64 x.aY,.bool x.free,.bool x.rr,.jr 5 l]:=rfl
theorem aka(x:aX):PV.agg (cell x.vi 0::cell x.vi 1::cell x.vi 2::cell x.vi 3::cell x.vi 4::cell x.vi 5::.bool true::over [] [cell x.vi 7])=({x with rr:=true}:aX).vi:=rfl
theorem HQ{A:Type}(l:List A)(k:Nat)(x:A)(h:k<l.length):(l.set k x)[k]?=some x:=by simp[h]
theorem xX(k n:Nat)(h:k<n):aC (k:Int) n:=⟨by omega,by omega⟩
def abA(N:ay)(i:Nat)(l:List ai):ay:=match N.runs[i]? with|some r=>{N with runs:=N.runs.set i {r with calls:=l}}|none=>N
theorem abB(x:aD):PV.agg [cell x.pv 0,cell x.pv 1,cell x.pv 2,cell x.pv 3,cell x.pv 4]=x.pv:=rfl
def abC(i:Nat)(l:aD):Bool:= !(decide (l.a=(i:Int))||decide (l.b=(i:Int)))
theorem KW(x:aD)(i:Nat):ey [x.pv,.rp [.int .i64 i]]=some (.bool (!abC i x)):=by have hA:asAgg 5 x.pv=some ():=rfl;simp only[ey,oI,hA,KC,Tw,link2,Tx,OX,asInt,asBool,IS,U,aT,dY,abC,aqw]
theorem agN(x:ai):setCells 5 x.pv 3 1 (.bool false)=({x with FE:=false}:ai).pv:=rfl
theorem agO(x:ai):setCells 5 x.pv 4 1 (.bool false)=({x with zU:=false}:ai).pv:=rfl
theorem amk(x:aX)(l:List ai):setRow 8 x.vi 7 (.jr 5 (l.map ai.pv))=({x with calls:=l}:aX).vi:=rfl
theorem adN(x:aX)(l:List PV):(if(8:Nat)=1 then PV.jr 5 l else .agg (cell x.pv 0::cell x.pv 1::cell x.pv 2::cell x.pv 3::cell x.pv 4::cell x.pv 5::cell x.pv 6::.jr 5 l::over [] []))=.agg [.int .i64 x.aZ,.int .i64 x.day,.int .i64 x.inst,.str x.id,.int .i64 x.aY,.bool x.free,.bool x.rr,.jr 5 l]:=rfl
structure Dn(q:PV)(m:bS):Prop where
 hA:asAgg 13 q=some ()
 h0:cell q 0=.int .i64 m.source
 h1:cell q 1=.int .i64 m.seq
 h2:cell q 2=.int .i64 m.fO
 h3:cell q 3=.int .i64 m.dz
 h4:cell q 4=.int .i64 m.kind
 h5:cell q 5=.str m.aZ
 h6:cell q 6=.int .i64 m.day
 h7:cell q 7=.int .i64 m.inst
 h8:cell q 8=.int .i64 m.call
 h9:cell q 9=.int .i64 m.cA
 UF:cell q 10=.int .i64 m.aY
 h11:cell q 11=.bool m.free
 h12:ak 5 (cell q 12)=some (m.calls.map ai.pv)
theorem akb(m:bS):Dn m.pv m:=⟨rfl,rfl,rfl,rfl,rfl,rfl,rfl,rfl,rfl,rfl,rfl,rfl,rfl,rfl⟩
def Ue(q:PV):PV:=.agg [cell q 0,cell q 1,cell q 2,cell q 3,cell q 4,cell q 5,cell q 6,cell q 7,cell q 8,cell q 9,cell q 10,cell q 11,cell q 12]
theorem Dn.agg{q:PV}{m:bS}(h:Dn q m):Dn (Ue q) m:=⟨rfl,h.h0,h.h1,h.h2,h.h3,h.h4,h.h5,h.h6,h.h7,h.h8,h.h9,h.UF,h.h11,h.h12⟩
structure abD(p:PV)(N:ay):Prop where
 hA:asAgg 9 p=some ()
 h0:ak 4 (cell p 0)=some (N.stops.map Stop.pv)
 h1:ak 3 (cell p 1)=some (N.ae.map az.pv)
 h2:ak 8 (cell p 2)=some (N.runs.map aX.pv)
 h3:ak 5 (cell p 3)=some (N.ar.map aD.pv)
 h4:ak 4 (cell p 4)=some (N.paths.map Path.pv)
 h5:ak 6 (cell p 5)=some (N.av.map aS.pv)
 h6:asInt .i64 (cell p 6)=some N.aQ
 h7:asInt .i64 (cell p 7)=some N.within
 h8:asInt .i64 (cell p 8)=some N.cap
theorem aeW(N:ay):abD N.pv N:=⟨rfl,rfl,rfl,rfl,rfl,rfl,rfl,rfl,rfl,rfl⟩
theorem akc(x:bS):ak 5 (cell x.pv 12)=some (x.calls.map ai.pv):=rfl
theorem Py{q:PV}{m:bS}(hq:Dn q m):dH [q]=dH [m.pv]:=by simp only[dH,qT,hq.hA,hq.h0,hq.h1,hq.h2,hq.h3,hq.h4,hq.h5,hq.h6,hq.h7,hq.h8,hq.h9,hq.UF,hq.h11,hq.h12,abg,abh,abi,abj,abk,abl,abm,abn,abo,abp,abq,Pu,Pv,akc]
theorem Pz{p q:PV}{N:ay}{m:bS}(hp:abD p N)(hq:Dn q m):eS [p,q]=eS [N.pv,m.pv]:=by simp only[eS,pE,hp.hA,hp.h0,hp.h1,hp.h2,hp.h3,hp.h4,hp.h5,hp.h6,hp.h7,hp.h8,hq.hA,hq.h0,hq.h1,hq.h2,hq.h3,hq.h4,hq.h5,hq.h6,hq.h7,hq.h8,hq.h9,hq.UF,hq.h11,hq.h12,BQ,BR,BS,BT,BU,BV,BW,BX,BZ,B0,abg,abh,abi,abj,abk,abl,abm,abn,abo,abp,abq,Pu,Pv,akc]
def IE(ms:List PV)(len k:Int)(N:ay)(er:List PV):=(ms,(0:Int),len,k,(0:Int),(0:Int),(0:Int),N.aQ,N.within,N.cap,er,N.stops.map Stop.pv,N.ae.map az.pv,N.runs.map aX.vi,N.ar.map aD.pv,N.paths.map Path.pv,N.av.map aS.pv,())
theorem Tj(er:List PV)(h:er.length≤3000)(x:PV):(er++[x]).length*8≤aa∧0<8:=by
 have:3001*8≤aa:=by decide
 refine⟨?_,by decide⟩;rw[anD,apm];omega
def KX(ms:List PV)(len kk:Int)(er:List PV)(N:ay)(i c:Nat)(a:Int)(k:Nat)(out:List PV):=((i:Int),(c:Int),a,((N.runs[i]?).elim 0 fun r=>(r.calls.length:Int)),(k:Int),(i:Int),ms,(0:Int),len,kk,N.runs.map aX.vi,out,N.aQ,N.within,N.cap,(0:Int),(0:Int),(0:Int),er,N.stops.map Stop.pv,N.ae.map az.pv,N.ar.map aD.pv,N.paths.map Path.pv,N.av.map aS.pv,())
theorem agP(ms:List PV)(len:Int)(kk:Nat)(yJ:kk<1000)(er:List PV)(her:er.length≤1000)(dt:_→Option PV)(N:ay)(h:WY N)(i c:Nat)(hi:i<N.runs.length)(hc:c<N.runs[i].calls.length)(ho:Cl N.runs[i].calls=true)(a:Int)(h0:0≤a)(h1:a≤8000000000):bd.run (gh bd dt) (KX ms len kk er N i c a 0 (N.runs[i].calls.map ai.pv))=match nV (N.runs[i].calls.drop c) a with|some r=>dt (IE ms len (kk+1:Nat) (abA N i (N.runs[i].calls.take c++r)) (er++[.int .i64 0]))|none=>dt (IE ms len (kk+1:Nat) N (er++[.int .i64 10])):=by
 have hlen:=h.calls N.runs[i] (agZ hi);have hrn:3003<rounds:=by decide
 have rD:=AF ho;have SJ:=Tj er (by omega);have hrT:∀x,((er++[x]).length*8≤aa∧0<8)=True:=fun x=>eq_true (SJ x);have hwk:IntKind.i64.wrap ((kk:Int)+1)=((kk+1:Nat):Int):=ah (by omega);refine(R1 (KX ms len kk er N i c) N.runs[i].calls c (dt (IE ms len (kk+1:Nat) N (er++[.int .i64 10]))) (fun out=>dt (ms,0,len,((kk+1:Nat):Int),0,0,0,N.aQ,N.within,N.cap,er++[.int .i64 0],N.stops.map Stop.pv,N.ae.map az.pv,(N.runs.map aX.vi).set i (.agg [.int .i64 N.runs[i].aZ,.int .i64 N.runs[i].day,.int .i64 N.runs[i].inst,.str N.runs[i].id,.int .i64 N.runs[i].aY,.bool N.runs[i].free,.bool N.runs[i].rr,.jr 5 out]),N.ar.map aD.pv,N.paths.map Path.pv,N.av.map aS.pv,())) (fun k a out rec hk kh=>?_) (fun k a pre rec hk kh hp ha0 YZ=>?_) (fun a out rec=>?_) rD (KU ho) hc (by omega) a h0 h1).trans ?_
 ·unfold KX gh;dsimp only;rw[ta hi,aoH,BY (by rw[te];omega),BY (by rw[te];omega),ah (by omega),agY]
 ·obtain⟨d0,d1⟩:=Co (rD k kh);obtain⟨s0,s1,s2⟩:=rD k kh;have hlm:=wU;have hol:=abx pre N.runs[i].calls k hp (by omega);have hos:∀x,((outs pre N.runs[i].calls k).set k x).length=N.runs[i].calls.length:=fun x=>by rw[aoA,hol]
  unfold KX gh;dsimp only;rw[ta hi,aoH,BY (by rw[te];omega),IT (by rw[te];omega)];simp only[agY,Gj _ _ hi,U,abw,By,xX k _ kh,IS,AT,ta kh,No,hol,aby pre _ k hp kh,kI2,adL,R0 (rD k kh),Wo,aj6,aj7,hos,HQ _ _ _ (show k<(outs pre N.runs[i].calls k).length by omega),aoS,wrap_small (show-100000000000≤a+kY N.runs[i].calls[k] by omega) (show a+kY N.runs[i].calls[k]≤100000000000 by omega),aj8,adM,ah (show k<9223372036854775807 by omega),abz pre _ k hp kh,te,hrT,hwk,IS];have eO:=abv (rD k kh) ha0 YZ;by_cases vE:(late N.runs[i].calls[k] a).dep>kE
  ·rw[BY (show(late N.runs[i].calls[k] a).dep>3155932800 by omega),BY vE];rfl
  ·rw[IT (show¬(late N.runs[i].calls[k] a).dep>3155932800 by omega),IT vE];by_cases hn:k+1<N.runs[i].calls.length
   ·obtain⟨n0,n1⟩:=KT (rD k kh) (rD (k+1) hn) (KU ho k hn) ha0 vE;obtain⟨t0,t1,t2⟩:=rD (k+1) hn;rw[BY (by omega),aqY hn,BY (xX _ _ hn),ta hn];simp only[No,U,kI1];rw[wrap_small (x:=N.runs[i].calls[k+1].arr+(late N.runs[i].calls[k] a).dep) (by omega) (by omega),wrap_small (by omega) (by omega)]
   ·rw[IT (by omega),dif_neg hn]
 ·unfold KX gh;dsimp only;rw[ta hi,aoH,IT (by simp)];simp only[agY,Gj _ _ hi,U,agM _ _ hi,IS,aj9,hrT,hwk,IS]
 ·cases nV (N.runs[i].calls.drop c) a with
  |none=>rfl
  |some r=>simp only[ID,←apq];simp only[abA,ta hi];rfl
def abE(ms:List PV)(len kk:Int)(er:List PV)(N:ay)(i:Nat)(runs:List PV)(j k:Nat)(x:List PV):=((j:Int),(k:Int),ms,(0:Int),len,kk,x,(i:Int),N.aQ,N.within,N.cap,(0:Int),(0:Int),(0:Int),er,N.stops.map Stop.pv,N.ae.map az.pv,runs,N.paths.map Path.pv,N.av.map aS.pv,())
theorem agQ(ms:List PV)(len:Int)(kk:Nat)(yJ:kk<1000)(er:List PV)(her:er.length≤1000)(dt:_→Option PV)(N:ay)(h:WY N)(i:Nat)(runs:List PV):bd.run (pK bd dt) ((N.ar.length:Int),0,ms,0,len,(kk:Int),N.ar.map aD.pv,(i:Int),N.aQ,N.within,N.cap,0,0,0,er,N.stops.map Stop.pv,N.ae.map az.pv,runs,N.paths.map Path.pv,N.av.map aS.pv,())=dt (ms,0,len,((kk+1:Nat):Int),0,0,0,N.aQ,N.within,N.cap,er++[.int .i64 0],N.stops.map Stop.pv,N.ae.map az.pv,runs,(N.ar.filter (abC i)).map aD.pv,N.paths.map Path.pv,N.av.map aS.pv,()):=by
 have hk:=h.ar;have hrn:3003<rounds:=by decide
 have SJ:=Tj er (by omega);have hrT:∀x,((er++[x]).length*8≤aa∧0<8)=True:=fun x=>eq_true (SJ x);have hwk:IntKind.i64.wrap ((kk:Int)+1)=((kk+1:Nat):Int):=ah (by omega);refine agK (fun k=>((N.ar.length:Int),(k:Int),ms,(0:Int),len,(kk:Int),N.ar.map aD.pv,(i:Int),N.aQ,N.within,N.cap,(0:Int),(0:Int),(0:Int),er,N.stops.map Stop.pv,N.ae.map az.pv,runs,N.paths.map Path.pv,N.av.map aS.pv,())) (abE ms len kk er N i runs) (body3:=pL bd dt) N.ar (abC i) (fun x=>dt (ms,0,len,((kk+1:Nat):Int),0,0,0,N.aQ,N.within,N.cap,er++[.int .i64 0],N.stops.map Stop.pv,N.ae.map az.pv,runs,x,N.paths.map Path.pv,N.av.map aS.pv,())) (fun j k x rec kh hx hj hg=>?_) (fun j x rec hx hj=>?_) (fun k rec kh=>?_) (fun rec=>?_) (by omega)
 ·unfold abE pL;dsimp only;rw[BY (by rw[te];omega),BY (xX _ _ (by omega)),agY,hg];simp only[U,abB,KW,asBool,aqw,ah (show k<9223372036854775807 by omega),ah (show j<9223372036854775807 by omega),xX j x.length (by omega),IS,agY,ta (show j<x.length by omega)]
 ·unfold abE pL;dsimp only;rw[IT (by rw[hx];simp)];simp only[agY,aqL,aqx,ap9];rw[BY (by exact⟨by omega,by omega,by omega,trivial⟩),BY (by exact⟨trivial,trivial,by omega,by omega⟩),BY (by refine⟨by omega,by omega,?_,trivial⟩;simp only[anD,an9,aoc,ape];omega)];rw[BY (SJ _),hwk,aog (by simp;omega),List.take_take,Nat.min_self]
 ·unfold pK;dsimp only;rw[BY (by rw[te];omega),BY (xX _ _ (by simpa using kh)),agY,AT,ta kh];simp only[No,U,abB,KW,asBool,ah (show k<9223372036854775807 by omega),dY];cases hp:abC i N.ar[k]with
  |true=>simp only[ag0,tc,PS,IS]
  |false=>simp only[anM,IS,tc,PS];rw[IT (by rw[te];omega)];rfl
 ·unfold pK;dsimp only;rw[IT (by simp),BY (SJ _),hwk]
theorem abF(ms:List PV)(len:Int)(kk:Nat)(yJ:kk<1000)(er:List PV)(her:er.length≤1000)(dt:_→Option PV)(l:List bS)(hl:l.length<1000)(q:PV)(abG:yB ms (kk:Int)=some q)(hlen:len=(l.length:Int))(kh:kk<l.length)(N:ay)(h:WY N)(WV:∀m∈l,m.Ok)(hv:(dZ N).2.2=0)(hmc:∀m∈l,m.calls.length≤1000)(hL:Dn q l[kk]):kZ bd (IE ms len kk N er) dt=dt (IE ms len (kk+1:Nat) (if gb l[kk]=0 then(if(Wj N l[kk]).2=0 then(Wj N l[kk]).1 else N)else N) (er++[.int .i64 (if gb l[kk]=0 then(Wj N l[kk]).2 else gb l[kk])])):=by
 have SJ:=Tj er (by omega);have hrT:∀x,((er++[x]).length*8≤aa∧0<8)=True:=fun x=>eq_true (SJ x);have hwk:IntKind.i64.wrap ((kk:Int)+1)=((kk+1:Nat):Int):=ah (by omega);have hm:=WV _ (agZ kh);have hc:=hmc _ (agZ kh);have bK:decide ((kk:Int)<len)=true:=by rw[te];omega
 generalize l[kk]=m at hm hc hL⊢;have hmk:=(Py hL.agg).trans (OA m hm);have hr:=h.runs;have ht:=Pw N m (by
  have:3000≤maxLen:=by decide
  omega)
 have hme:PV.agg [cell q 0,cell q 1,cell q 2,cell q 3,cell q 4,cell q 5,cell q 6,cell q 7,cell q 8,cell q 9,cell q 10,cell q 11,cell q 12]=Ue q:=rfl;have ht:=(Pz (aeW N) hL.agg).trans ht;conv=>lhs;unfold IE kZ
 dsimp only;rw[BY bK,abG];simp only[U,hme,hmk,asInt,IS,bne_self_eq_false,tc,PS,xF,Mo,ht];simp only[dY,te];by_cases Ng:gb m=0;case neg=>rw[IT Ng,IT Ng,IT Ng,BY (SJ _),hwk];rfl
 rw[BY Ng,BY Ng,BY Ng];unfold Wj Ud;simp only[hL.h4,hL.h5,hL.h6,hL.h7,hL.h8,hL.h9,hL.UF,hL.h11,hL.h12,U];simp only[asInt,bt,ak,asBool,IS,U,dY,te,hrT,hwk,IS];by_cases k5:m.kind=5
 ·simp only[k5,IS];cases htg:Nj N.runs m with
  |some i=>simp only[cz,alx,anx,Nat.reduceAdd,IS,U,aki,amr,asInt,asBool,apl];rfl
  |none=>
   have iW:=wN m.calls N.stops.length 0 3155932800 hm.calls.1;simp only[res]at iW;have hoc:=KV m.calls (by omega);simp only[cz,alx,anx,Nat.reduceAdd,IS,U,aki,amr,asInt,asBool,aoY,tc,PS,By,aT,anH,te,iW,Px];by_cases sW:m.aY<0∨m.aY≥(N.ae.length:Int)
   ·rw[BY sW,BY sW];rfl
   ·rw[IT sW,IT sW];by_cases he:(bD m.calls (N.stops.length:Int) 0 3155932800).2=0
    ·rw[BY he];by_cases hli:N.runs.length≥1024
     ·rw[BY (show(N.runs.length:Int)≥1024 by omega)];simp only[he,aqP,aqW,PS,BY hli];rfl
     rw[IT (show¬((N.runs.length:Int)≥1024) by omega),hoc];simp only[U,ak,IS,he,aqP,aqW,PS,IT hli];rw[BY (by
      have:1025*80≤aa:=by decide
      rw[anD,By,apm];omega)]
     unfold IE;rw[anU];rfl
    ·rw[IT he,BY he];simp only[IT he];rfl
 ·simp only[IT k5];cases htg:Nj N.runs m with
  |none=>simp only[cz,alx,anx,Nat.reduceAdd,IS,U,aki,amr,asInt,asBool,anM];rfl
  |some i=>
   obtain⟨hi,I9,_⟩:=Pq htg;have ob:aC (i:Int) N.runs.length:=⟨by omega,by omega⟩;have qB:=Fx hv N.runs[i] (agZ hi);simp only[cz,alx,anx,Nat.reduceAdd,IS,U,aki,amr,asInt,asBool,ag0,tc,PS,Gj _ _ hi,ta hi,ob,abw,agY,By,aT,bL,anH,te];have SL:((decide (m.kind=1)||decide (m.kind=3))&&(decide (m.call<0)||decide (m.call≥(N.runs[i].calls.length:Int))))=decide ((m.kind=1∨m.kind=3)∧(m.call<0∨m.call≥(N.runs[i].calls.length:Int))):=by rw[anS];simp
   rw[SL];simp only[te];by_cases hn:(m.kind=1∨m.kind=3)∧(m.call<0∨m.call≥(N.runs[i].calls.length:Int))
   ·rw[BY hn,BY hn];rfl
   rw[IT hn,IT hn];by_cases k1:m.kind=1
   ·simp only[k1,IS];have hcb:¬(m.call<0∨m.call≥(N.runs[i].calls.length:Int)):=fun hh=>hn ⟨.inl k1,hh⟩;have anq:=ap8.1 hcb;unfold prop;rw[IT hcb,IT (show¬(m.call<0∨m.call≥(N.runs[i].calls.length:Int))from hcb)];by_cases hs:m.cA< -43200∨m.cA>43200
    ·rw[BY hs,BY hs];rfl
    rw[IT hs,IT hs];obtain⟨c,Na⟩:∃c:Nat,m.call=(c:Int):=⟨m.call.toNat,by omega⟩;have Lt:c<N.runs[i].calls.length:=by omega
    have hlen:=h.calls N.runs[i] (agZ hi);have ho:=MM N.runs[i].calls (by
     have:3000≤maxLen:=by decide
     omega)
    have hrq:acz (cell N.runs[i].vi 7)=some (.rs 5 (N.runs[i].calls.map ai.pv)):=rfl;simp only[hrq,U,ho,asBool];cases hob:Cl N.runs[i].calls with
    |false=>rfl
    |true=>
     have cr:0≤(N.runs[i].calls.length:Int)∧(N.runs[i].calls.length:Int)≤(N.runs[i].calls.length:Int)∧(N.runs[i].calls.length:Int).toNat*32≤aa∧0<32∧0<5:=by
      have:1000*32≤aa:=by decide
      refine⟨by omega,by omega,?_,by decide,by decide⟩;rw[agY];omega
     rw[IT (by decide),BY (by rw[agY]at cr;exact cr)];simp only[Na,agY];obtain⟨a1,a2⟩:=adK hob Lt (show-43200≤m.cA by omega) (show m.cA≤43200 by omega);have hA:=agP ms len kk yJ er her dt N h i c hi Lt hob _ a1 (by omega);have hcp:∀z:PV,List.take (List.replicate N.runs[i].calls.length z).length (N.runs[i].calls.map ai.pv)++List.drop N.runs[i].calls.length (List.replicate N.runs[i].calls.length z)=N.runs[i].calls.map ai.pv:=fun z=>by rw[aoc,anZ (by simp),aoW (by simp),aof]
     have key:∀A,A=AR N.runs[i].calls c m.cA→bd.run (gh bd dt) ((i:Int),(c:Int),A,(N.runs[i].calls.length:Int),0,(i:Int),ms,0,len,(kk:Int),N.runs.map aX.vi,N.runs[i].calls.map ai.pv,N.aQ,N.within,N.cap,0,0,0,er,N.stops.map Stop.pv,N.ae.map az.pv,N.ar.map aD.pv,N.paths.map Path.pv,N.av.map aS.pv,())=match nV (N.runs[i].calls.drop c) (AR N.runs[i].calls c m.cA)with|some r=>dt (IE ms len (kk+1:Nat) (abA N i (N.runs[i].calls.take c++r)) (er++[.int .i64 0]))|none=>dt (IE ms len (kk+1:Nat) N (er++[.int .i64 10])):=by intro A AN;subst AN;unfold KX at hA;rw[ta hi]at hA;exact hA
     have hlm:=wU;obtain⟨s0,s1,s2⟩:=AF hob c Lt;cases c with
     |zero=>rw[IT (by decide),BY (xX _ _ Lt)];simp only[AT,ta Lt,No,U,zw,asInt,IS,hcp];refine(key _ ?_).trans (by split<;>rename_i hx<;>simp only[hx,abA,ta hi]<;>rfl);rw[wrap_small (by omega) (by omega)];unfold AR;rw[ta Lt];simp only[ku,No,Option.map_none,Option.getD_none,anY];try (by_cases hx:N.runs[i].calls[0].arr+m.cA<0<;>simp[hx])
     |succ j=>
      have hj:j<N.runs[i].calls.length:=by omega
      rw[BY (by omega),AA j (by omega),BY (xX _ _ hj)];simp only[agY,AT,ta hj,No,U,zw,uW,asInt,IS,hcp,xX _ _ Lt,ta Lt];refine(key _ ?_).trans (by split<;>rename_i hx<;>simp only[hx,abA,ta hi]<;>rfl);rw[wrap_small (by omega) (by omega)];unfold AR;rw[ta Lt];simp only[ku,ta hj,No,anY]
   simp only[IT k1];by_cases k2:m.kind=2
   ·simp only[k2,IS,Gj _ _ hi,U,aka,←apq];rfl
   simp only[IT k2];by_cases k3:m.kind=3
   ·simp only[k3,IS];have hcb:=ap8.1 (fun hh=>hn ⟨.inr k3,hh⟩:¬(m.call<0∨m.call≥(N.runs[i].calls.length:Int)));obtain⟨c,Na⟩:∃c:Nat,m.call=(c:Int):=⟨m.call.toNat,by omega⟩;have Lt:c<N.runs[i].calls.length:=by omega
    simp only[Na,agY,xX c _ Lt,IS,AT,ta Lt,No,U,agN,←apq,amk,aoA,By,ob,apK hi,abw,apK Lt,agO,aoS,xF];simp only[KP,ta Lt];rfl
   simp only[IT k3];by_cases k4:m.kind=4
   ·simp only[k4,IS];have iW:=wN m.calls N.stops.length 0 3155932800 hm.calls.1;simp only[res]at iW;have hoc:=KV m.calls (by omega);simp only[iW,U,cz,alx,anx,Nat.reduceAdd,IS,aki,amr,asInt,Px];by_cases he:(bD m.calls (N.stops.length:Int) 0 3155932800).2=0
    ·simp only[he,hoc,U,ak,IS,aqP,aqW,PS];rw[agQ ms len kk yJ er her dt N h i,aj9,ID];rw[←apq];rfl
    ·rw[IT he,BY he];simp only[IT he];rfl
   simp only[IT k4];rfl
def Wp(N:ay)(m:bS):ay:=if gb m=0 then(if(Wj N m).2=0 then(Wj N m).1 else N)else N
def akd(N:ay)(m:bS):Int:=if gb m=0 then(Wj N m).2 else gb m
def OC(N:ay)(er:List Int):List bS→ay×List Int
 |[]=>(N,er)
 |m::l=>OC (Wp N m) (er++[akd N m]) l
theorem Ku{N:ay}{m:bS}(h:(dZ N).2.2=0):(dZ (Wp N m)).2.2=0:=by
 unfold Wp;by_cases h1:gb m=0
 ·rw[BY h1];by_cases h2:(Wj N m).2=0
  ·rw[BY h2];exact Wl N m h h1 h2
  ·rw[IT h2];exact h
 ·rw[IT h1];exact h
structure uc(N N':ay)(m:bS):Prop where
 stops:N'.stops=N.stops
 ae:N'.ae=N.ae
 paths:N'.paths=N.paths
 av:N'.av=N.av
 aQ:N'.aQ=N.aQ
 within:N'.within=N.within
 cap:N'.cap=N.cap
 ar:N'.ar.length≤N.ar.length∧∀x∈N'.ar,x∈N.ar
 len:N'.runs.length≤N.runs.length+1
 runs:∀r∈N'.runs,(∃r0∈N.runs,r.aZ=r0.aZ∧r.inst=r0.inst∧r.id=r0.id∧r.day=r0.day∧r.aY=r0.aY)∨(r.aZ= -1∧r.inst=m.inst∧r.id=m.aZ∧r.day=m.day∧r.aY=m.aY)
theorem uc.rfl'(N:ay)(m:bS):uc N N m:=⟨rfl,rfl,rfl,rfl,rfl,rfl,rfl,⟨anz _,fun _ h=>h⟩,Nat.le_succ _,fun r h=>.inl ⟨r,h,rfl,rfl,rfl,rfl,rfl⟩⟩
theorem Dp{N:ay}{m:bS}{i:Nat}{r x:aX}(hr:N.runs[i]?=some r)(h:x.aZ=r.aZ∧x.inst=r.inst∧x.id=r.id∧x.day=r.day∧x.aY=r.aY)(ls:List aD)(hl:ls.length≤N.ar.length∧∀y∈ls,y∈N.ar):uc N {N with runs:=N.runs.set i x,ar:=ls} m:=by
 refine⟨rfl,rfl,rfl,rfl,rfl,rfl,rfl,hl,by simp,fun q hq=>.inl ?_⟩;rcases aqc hq with hq|hq
 ·exact⟨q,hq,rfl,rfl,rfl,rfl,rfl⟩
 ·subst hq;exact⟨r,amq hr,h⟩
theorem abH(N:ay)(m:bS):uc N (Wj N m).1 m:=by
 unfold Wj;by_cases k5:m.kind=5
 ·rw[BY k5];split
  ·exact uc.rfl' N m
  ·split
   ·exact uc.rfl' N m
   ·split
    ·exact uc.rfl' N m
    ·split
     ·exact uc.rfl' N m
     ·refine⟨rfl,rfl,rfl,rfl,rfl,rfl,rfl,⟨anz _,fun _ h=>h⟩,by simp,fun r h=>?_⟩;rcases anO.1 h with h|h
      ·exact .inl ⟨r,h,rfl,rfl,rfl,rfl,rfl⟩
      ·simp only[aoq]at h;subst h;exact .inr ⟨rfl,rfl,rfl,rfl,rfl⟩
 ·rw[IT k5];cases Nj N.runs m with
  |none=>exact uc.rfl' N m
  |some i=>
   dsimp only;cases hr:N.runs[i]? with
   |none=>exact uc.rfl' N m
   |some r=>
    have hls:N.ar.length≤N.ar.length∧∀y∈N.ar,y∈N.ar:=⟨anz _,fun _ h=>h⟩;dsimp only;split
    ·exact uc.rfl' N m
    ·split
     ·cases prop r.calls m.call m.cA with
      |mk o e=>
       cases o with
       |none=>exact uc.rfl' N m
       |some l=>exact Dp (x:={r with calls:=l}) hr ⟨rfl,rfl,rfl,rfl,rfl⟩ N.ar hls
     ·split
      ·exact Dp (x:={r with rr:=true}) hr ⟨rfl,rfl,rfl,rfl,rfl⟩ N.ar hls
      ·split
       ·exact Dp (x:={r with calls:=KP r.calls m.call.toNat}) hr ⟨rfl,rfl,rfl,rfl,rfl⟩ N.ar hls
       ·split
        ·split
         ·exact uc.rfl' N m
         ·exact Dp (x:={r with calls:=m.calls}) hr ⟨rfl,rfl,rfl,rfl,rfl⟩ _ ⟨aob _ _,fun y h=>(anP.1 h).1⟩
        ·exact uc.rfl' N m
theorem OE(N:ay)(m:bS):uc N (Wp N m) m:=by
 unfold Wp;split
 ·split
  ·exact abH N m
  ·exact uc.rfl' N m
 ·exact uc.rfl' N m
theorem MN{x:Int}(h1: -9223372036854775808≤x)(h2:x≤9223372036854775807):mc x:=by show(decide ((-9223372036854775808:Int)≤x)&&decide (x≤(9223372036854775807:Int)))=true;simp[h1,h2]
theorem PA{l:List ai}{n:Int}(h:(bD l n 0 3155932800).2=0)(hn:n≤100000):l.length≤32∧∀y∈l,y.Ok:=by obtain⟨h1,h2⟩:=zG h;refine⟨h2,fun y hy=>?_⟩;obtain⟨k,hk,rfl⟩:=apW.1 hy;have he:=Fy h k hk;unfold mD at he;rw[ta hk]at he;have ho:∃p,kr l[k] p n 0 3155932800=0:=⟨_,he⟩;obtain⟨p,ho⟩:=ho;obtain⟨a1,a2,a3,_⟩:=tW ho;obtain⟨b1,b2,_⟩:=xW ho;exact⟨MN (by omega) (by omega),MN (by omega) (by omega),MN (by omega) (by omega)⟩
theorem OD{N N':ay}{m:bS}(h:WY N)(hs:uc N N' m)(hv:(dZ N').2.2=0)(hm:m.Ok):WY N':=by
 have Oh:3000≤maxLen:=by decide
 have hcv:=Fx hv;have pU:=wK ((nS N').1 hv).1;refine⟨⟨?_,?_,?_,?_,?_,?_,?_,?_,?_⟩,?_,?_,?_,?_,?_,?_,?_⟩
 ·rw[hs.stops];exact h.ok.stops
 ·rw[hs.ae];exact h.ok.ae
 ·refine⟨by have:=hs.len;have:=h.runs;omega,fun r hr=>?_⟩;obtain⟨c1,c2⟩:=PA (hcv r hr) (by omega);rcases hs.runs r hr with⟨r0,h0,e1,e2,e3,e4,e5⟩|⟨e1,e2,e3,e4,e5⟩
  ·have g:=h.ok.runs.2 r0 h0;exact⟨by rw[e1];exact g.aZ,by rw[e4];exact g.day,by rw[e2];exact g.inst,by rw[e3];exact g.id,by rw[e5];exact g.aY,by omega,c2⟩
  ·exact⟨by rw[e1];exact MN (by omega) (by omega),by rw[e4];exact hm.day,by rw[e2];exact hm.inst,by rw[e3];exact hm.aZ,by rw[e5];exact hm.aY,by omega,c2⟩
 ·exact⟨anW hs.ar.1 h.ok.ar.1,fun x hx=>h.ok.ar.2 x (hs.ar.2 x hx)⟩
 ·rw[hs.paths];exact h.ok.paths
 ·rw[hs.av];exact h.ok.av
 ·rw[hs.aQ];exact h.ok.aQ
 ·rw[hs.within];exact h.ok.within
 ·rw[hs.cap];exact h.ok.cap
 ·rw[hs.stops];exact h.stops
 ·rw[hs.ae];exact h.ae
 ·exact((pH _ _ _).1 ((nS N').1 hv).2.2.1).1
 ·exact anW hs.ar.1 h.ar
 ·rw[hs.paths];exact h.paths
 ·rw[hs.av];exact h.av
 ·intro r hr;have:=(PA (hcv r hr) (by omega)).1;omega
def Tl(x:ay×List Int):PV:=.aV [x.1.pv,.rs 1 (x.2.map fun e=>.int .i64 e)]
theorem abI(ms:List PV)(l:List bS)(Oh:∀k,(hk:k<l.length)→∃q,ms[k]?=some q∧Dn q l[k])(hl:l.length≤300)(WV:∀m∈l,m.Ok)(hmc:∀m∈l,m.calls.length≤1000):∀(j k:Nat)(N:ay)(er:List Int)(fu:Nat),k+j=l.length→j<fu→WY N→(dZ N).2.2=0→er.length≤k→bX (kZ bd) fu (IE ms (l.length:Int) k N (er.map fun e=>.int .i64 e))=some (Tl (OC N er (l.drop k))):=by
 intro j;induction j with
 |zero=>
  intro k N er fu hk hf hN hv he;obtain⟨fu,rfl⟩:∃f,fu=f+1:=⟨fu-1,by omega⟩;have:k=l.length:=by omega
  subst this;rw[bX,List.drop_length];unfold IE kZ;dsimp only;rw[IT (by simp),xF];rfl
 |succ j ih=>
  intro k N er fu hk hf hN hv he;obtain⟨fu,rfl⟩:∃f,fu=f+1:=⟨fu-1,by omega⟩;have kh:k<l.length:=by omega
  obtain⟨q,hq1,Xo⟩:=Oh k kh;rw[bX,abF _ _ k (by omega) _ (by simp;omega) _ l (by omega) q (by rw[af];exact hq1) rfl kh N hN WV hv hmc Xo];have hs:=OE N l[k];have NM:=Ku (m:=l[k]) hv;have hlen:=hs.len;have:=ih (k+1) (Wp N l[k]) (er++[akd N l[k]]) fu (by omega) (by omega) (OD hN hs NM (WV _ (agZ kh))) NM (by simp;omega);rw[anU]at this;rw[aoj kh];exact this
theorem abJ(p:PV)(ms:List PV)(N:ay)(l:List bS)(hp:abD p N)(I5:ms.length=l.length)(Oh:∀k,(hk:k<l.length)→∃q,ms[k]?=some q∧Dn q l[k])(h:WY N)(hv:(dZ N).2.2=0)(hl:l.length≤300)(WV:∀m∈l,m.Ok)(hmc:∀m∈l,m.calls.length≤1000):eX [p,.rs 13 ms]=some (Tl (OC N [] l)):=by
 have hrn:3003<rounds:=by decide
 have Qf:=RH N h.ok (by have:=h.paths;omega);have f1:=HU (N.stops.map Stop.pv) (by have:=h.stops;simp;omega);have f2:=Fk (N.ae.map az.pv) (by have:=h.ae;simp;omega);have Ln:=h.runs;have f3:=Kv (N.runs.map aX.pv) (by simp;omega);have f4:=HV (N.ar.map aD.pv) (by have:=h.ar;simp;omega);have f5:=zk (N.paths.map Path.pv) (by have:=h.paths;simp;omega);have f6:=Bi (N.av.map aS.pv) (by have:=h.av;simp;omega);have key:=abI ms l Oh hl WV hmc l.length 0 N [] rounds (by omega) (by omega) h hv (by simp);simp only[eX,zQ,hp.hA,hp.h0,hp.h1,hp.h2,hp.h3,hp.h4,hp.h5,hp.h6,hp.h7,hp.h8,U];simp only[ak,IS,U,f1,f2,f3,f4,f5,By];refine bh (fun k=>((N.runs.length:Int),(k:Int),ms,N.stops.map Stop.pv,N.ae.map az.pv,N.runs.map aX.pv,N.ar.map aD.pv,N.paths.map Path.pv,N.av.map aS.pv,N.aQ,N.within,N.cap,(0:Int),(0:Int),(0:Int),N.av.map aS.pv,N.aQ,N.within,N.cap,N.stops.map Stop.pv,N.ae.map az.pv,N.runs.map aX.pv,N.ar.map aD.pv,N.paths.map Path.pv,N.av.map aS.pv,N.aQ,N.within,N.cap,(0:Int),(0:Int),(0:Int),N.stops.map Stop.pv,N.ae.map az.pv,mix aX.vi aX.pv N.runs k,N.ar.map aD.pv,N.paths.map Path.pv,())) N.runs.length (fun k hk rec=>?_) (fun rec=>?_) (by omega) (by rw[Zv];rfl)
 ·have fc:=HW (N.runs[k].calls.map ai.pv) (by have:=h.calls _ (agZ hk);simp;omega);unfold uo;dsimp only;rw[BY (by rw[te];omega),BY (Md _ _ _ _ hk),agY,To _ _ _ _ hk];simp only[U,FX,fc,ak,IS,Md _ _ _ _ hk,adN,ah (show k<9223372036854775807 by omega)];have:=Tn aX.vi aX.pv N.runs k hk;rw[←this];rfl
 ·unfold uo;dsimp only;rw[IT (by simp),f6];simp only[U,ak,IS,Mo,Qf];simp only[jx,cz,alx,anx,Nat.reduceAdd,IS,aki,amr,asInt,U,hv,Tp,By,I5];rw[lv];exact key
theorem OG(N:ay)(l:List bS)(h:WY N)(hv:(dZ N).2.2=0)(hl:l.length≤300)(WV:∀m∈l,m.Ok)(hmc:∀m∈l,m.calls.length≤1000):eX [N.pv,.rs 13 (l.map bS.pv)]=some (Tl (OC N [] l)):=abJ N.pv (l.map bS.pv) N l (aeW N) (by simp) (fun k hk=>⟨l[k].pv,by simp[hk],akb _⟩) h hv hl WV hmc
end Go.Ab.Tt
