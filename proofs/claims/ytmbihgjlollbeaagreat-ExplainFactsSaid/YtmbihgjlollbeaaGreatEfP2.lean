import Derived.Test.YtmbihgjlollbeaaGreatEfP1
import Derived.Test.YtmbihgjlollbeaaGreatEkX
namespace Go.Ab.Tt
set_option maxRecDepth 100000
set_option maxHeartbeats 4000000
set_option linter.all false
theorem adm(x y:Fact):cz [cell x.pv 0,cell x.pv 1,cell x.pv 2,cell x.pv 3,cell x.pv 4] [cell y.pv 0,cell y.pv 1,cell y.pv 2,cell y.pv 3,cell y.pv 4]=decide (x=y):=by obtain⟨a1,a2,a3,a4,a5⟩:=x;obtain⟨b1,b2,b3,b4,b5⟩:=y;simp[cell,Fact.pv,PV.cells,cz,Ab.peq];rfl
theorem adn(x:Fact):mI (Kd.int .i64::[].append (Kd.int .i64::[].append (Kd.int .i64::[].append (Kd.int .i64::[].append (Kd.int .i64::[].append []))))) [cell x.pv 0,cell x.pv 1,cell x.pv 2,cell x.pv 3,cell x.pv 4]=true:=rfl
theorem ado(a b:List Fact)(ha:a.length≤maxLen):mV [.rs 5 (a.map Fact.pv),.rs 5 (b.map Fact.pv)]=some (.bool (decide (a=b))):=by
 have hm:=ai;have hr:=aw;simp only[mV,FZ,aS,U,AI,eC];by_cases hl:a.length=b.length
 ·rw[IT (by simp[hl])];refine(dt (fun k=>(a.map Fact.pv,b.map Fact.pv,(k:Int),())) a.length (fun k=> !decide (a[k]?=b[k]?)) (no:=some (.bool false)) (fin:=some (.bool true)) (fun k hk rec=>?_) (fun rec=>?_) (by omega) rfl).trans (LU hl)
  ·unfold zo;dsimp only;rw[IN (by simp;omega),bp Fact.pv a k hk,bp Fact.pv b k (by omega),ab (by omega)];simp only[U,adn,adm,auU,BY,cN hk,cN (show k<b.length by omega),cO]
  simp[zo,IT]
 ·rw[IN (by simp;omega)];congr 2;grind
theorem UR(rs:List cy)(a b l p d:List PV)(n1 n2 n3:Int)(h:rs.length≤maxLen):∃v,ba.run mo (0,a,b,rs.map cy.pv,l,p,d,n1,n2,n3,())=some (.bool v):=by
 have hm:=ai;have hr:=aw;refine⟨(List.range rs.length).any (fun k=>match rs[k]? with|some x=>decide ((x.calls.length:Int)>40)|none=>false),(dt (fun k=>((k:Int),a,b,rs.map cy.pv,l,p,d,n1,n2,n3,())) rs.length (fun k=>match rs[k]? with|some x=>decide ((x.calls.length:Int)>40)|none=>false) (no:=some (.bool true)) (fin:=some (.bool false)) (fun k hk rec=>?_) (fun rec=>?_) (by omega) rfl).trans ?_⟩
 ·unfold mo;dsimp only;rw[IN (by simp;omega),bp cy.pv rs k hk,ab (by omega),cN hk];simp[U,am3,AI]
 ·simp[mo,IT]
 grind
def aaD(fs:List bl):Nat→Int
 |0=>0
 |k+1=>match fs[k]? with
  |some f=>if dL f=true then IntKind.i64.wrap (aaD fs k+dc f)else aaD fs k
  |none=>aaD fs k
theorem ag6(fs:List bl):∃b,vf [.rs 4 (fs.map bl.pv),.int .i64 600]=some (.bool b)∧(b=false→fs.length≤100):=by
 simp only[vf,F0,aS,aI,U,AI];by_cases h:(fs.length:Int)>100
 ·simp_all
 ·rw[IT (by simpa using h)];refine⟨decide (aaD fs fs.length>600),?_,fun _=>by omega⟩;refine bf (fun k=>(fs.map bl.pv,600,aaD fs k,(k:Int),())) fs.length (fun k hk rec=>?_) (fun rec=>?_) (by unfold rounds;omega) rfl
  ·unfold zp;dsimp only;have e:PV.agg [cell fs[k].pv 0,cell fs[k].pv 1,cell fs[k].pv 2,cell fs[k].pv 3]=fs[k].pv:=rfl;rw[IN (by simp;omega),bp bl.pv fs k hk,ab (by omega)];simp only[U,e,Bo,aB];rw[aaD,cN hk];by_cases hs:dL fs[k]=true
   ·simp_all[IN,WV,U,aI]
   simp_all
  simp[zp,IT]
theorem US(T:az)(N:an)(O:Jz)(hN:N.Ok):∃v,nR [T.pv,N.pv,O.pv]=some (.bool v)∧(v=false→Io T∧N.paths.length≤200∧O.bw.length≤12):=by
 have b3:∀a b:Bool,(bif a then some true else some b)=some (a||b):=fun a b=>by cases a<;>rfl
 have t4':∀x:br,ao 5 (cell x.pv 4)=some (x.calls.map aY.pv):=fun x=>rfl;obtain⟨bm,hbm,aqk⟩:=ag6 T.bU;simp only[nR,C6,ttA,tt0,tt1,tt2,tt3,tt4,tt5,tt6,tt7,tt8,tt9,LK,LL,LM,lj,ll,lq,lr,lu,lv,lx,ly,lz,lA,ajo,ajp,ajq,ajr,ajs,ajt,aju,ajv,U,aS,aI,b3,AI,hbm,aB];split
 ·simp
 ·rename_i h;simp only[asu,cT,avs,atf]at h;have hf:=aqk (by simp_all);obtain⟨v1,hv1⟩:=UR N.runs (N.stops.map Stop.pv) (N.aj.map ax.pv) (N.aH.map bq.pv) (N.paths.map Path.pv) (N.aK.map aM.pv) N.bn N.within N.cap hN.runs.1;obtain⟨v2,hv2,hv3⟩:∃v2,(if((((((decide ((N.stops.length:Int)>12)||decide ((N.aj.length:Int)>20))||decide ((N.runs.length:Int)>40))||decide ((N.aH.length:Int)>60))||decide ((N.paths.length:Int)>200))||decide ((N.aK.length:Int)>20))||decide ((O.bw.length:Int)>12)||decide ((O.iY.length:Int)>12))=true then some (PV.bool true)else ba.run mo (0,N.stops.map Stop.pv,N.aj.map ax.pv,N.runs.map cy.pv,N.aH.map bq.pv,N.paths.map Path.pv,N.aK.map aM.pv,N.bn,N.within,N.cap,()))=some (.bool v2)∧(v2=false→N.paths.length≤200∧O.bw.length≤12):=by grind
  refine⟨(List.range T.ae.length).any (WW T)||v2,(dt (fun k=>((k:Int),T.stops.map Stop.pv,T.aj.map ax.pv,T.dm.map mJ.pv,T.jJ.map pE.pv,T.ae.map br.pv,T.bU.map bl.pv,T.uZ.map iG.pv,T.lN.map gC.pv,T.paths.map Path.pv,T.aK.map aM.pv,T.bn,T.within,T.cap,N.stops.map Stop.pv,N.aj.map ax.pv,N.runs.map cy.pv,N.aH.map bq.pv,N.paths.map Path.pv,N.aK.map aM.pv,N.bn,N.within,N.cap,O.bw.map bx.pv,O.dep,O.arr,O.b9,O.PO,O.walk,O.iY.map iZ.pv,())) T.ae.length (WW T) (no:=some (.bool true)) (fin:=some (.bool v2)) (fun k hk rec=>?_) (fun rec=>?_) (by unfold rounds;omega) rfl).trans ?_,fun hb=>?_⟩
  ·unfold wI WW;dsimp only;rw[IN (by simp;omega),bp br.pv T.ae k hk,ab (by omega),cN hk];simp_all
  ·rw[←hv2];unfold wI;dsimp only;rw[IT (by simp)];simp only[b3,U,AI]
  ·grind
  ·simp only[asE]at hb;obtain⟨ZK,yj⟩:=hb;obtain⟨h1,h2⟩:=hv3 yj;refine⟨⟨by omega,by omega,by omega,by omega,hf,fun y hy=>?_⟩,h1,h2⟩;simp only[List.any_eq_false,ata]at ZK;obtain⟨k,hk,rfl⟩:=List.mem_iff_getElem.1 hy;grind [WW,List.getElem?_eq_getElem]
theorem UT(T:az)(N:an)(q:iJ)(O:Jz):iq [LY T N q O]=((nR [T.pv,N.pv,O.pv]).bind fun r40=>(Ab.asBool r40).bind fun b41=>if b41=true then(cC []).bind fun r42=>(Ab.asBool r42).bind fun b43=>some (PV.bool b43)else(dM [T.pv,N.pv,q.pv,O.pv]).bind fun r44=>(cg 2 r44).bind fun am5=>(ao 5 (am5.getD 0 PV.bad)).bind fun aql=>(Ab.asInt .i64 (am5.getD 1 PV.bad)).bind fun n47=>(nQ [T.pv,N.pv,q.pv,O.pv]).bind fun r48=>(cg 2 r48).bind fun am6=>(ao 5 (am6.getD 0 PV.bad)).bind fun aqm=>(Ab.asInt .i64 (am6.getD 1 PV.bad)).bind fun n51=>(mV [PV.rs 5 aql,PV.rs 5 aqm]).bind fun r52=>(Ab.asBool r52).bind fun b53=>(bif b53 then some (n47==n51)else some false).bind fun r54=>(bif r54 then(cC []).bind fun r55=>(Ab.asBool r55).bind fun b56=>some b56 else some false).bind fun r57=>some (PV.bool r57)):=by kernel_rfl
theorem aaE(T:az)(N:an)(q:iJ)(O:Jz)(hT:T.Ok)(hN:N.Ok)(hq:q.Ok)(hO:O.Ok):iq [LY T N q O]=some (.bool true):=by
 rw[UT,adp];obtain⟨v,hv,hl⟩:=US T N O hN;rw[hv];cases v with
 |true=>rfl
 |false=>
  obtain⟨hF,hp,h12⟩:=hl rfl;rw[UN (q:=q) hT hF hN (by omega) hO h12,aaB (q:=q) hT hF hN (by omega) hO h12];have hlen:(C3 T N q O).1.length≤maxLen:=by
   have h1:=Av (T:=T) (N:=N) (q:=q) (l:=O.bw) O.bw.length;have h2:=hO.iY.1;have hmx:maxLen=9223372036854775807:=rfl;by_cases hs:(C3 T N q O).1.length≤maxLen
   ·omega
   ·exfalso;apply hs;unfold C3;split
    ·simp
    ·split
     ·simp
     ·split
      ·simp
      ·split
       ·simp
       ·rename_i h1 h2 h3 h4;have h2':(iK N q O.bw).2=0:=by omega
        obtain⟨hJ,M6⟩:=UJ (q:=q) hN (by omega) h12 h2';have ht:=(UM M6).1;have h3':okB N q O=true:=by simpa using h3
        have TH:(gD N O.bw).l=O.iY:=by simp_all[okB,ao9,cT]
        grind
  generalize C3 T N q O=R at*;unfold PQ;simp only[U,aB,cQ,IS,t2,abm,ahH,aS,aI,ado _ _ hlen,asq,beq_self_eq_true,cond_true]
end Go.Ab.Tt
