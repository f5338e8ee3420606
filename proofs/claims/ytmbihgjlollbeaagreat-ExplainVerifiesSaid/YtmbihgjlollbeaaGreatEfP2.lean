import Derived.Test.YtmbihgjlollbeaaGreatEfP1
import Derived.Test.YtmbihgjlollbeaaGreatEkX
namespace Go.Ab.Tt
set_option maxRecDepth 100000
set_option maxHeartbeats 4000000
set_option linter.all false
theorem R6(x y:Fact):cz [cell x.pv 0,cell x.pv 1,cell x.pv 2,cell x.pv 3,cell x.pv 4] [cell y.pv 0,cell y.pv 1,cell y.pv 2,cell y.pv 3,cell y.pv 4]=decide (x=y):=by obtain⟨a1,a2,a3,a4,a5⟩:=x;obtain⟨b1,b2,b3,b4,b5⟩:=y;simp[cell,Fact.pv,PV.cells,cz,Ab.peq];rfl
theorem R7(x:Fact):mK (Kd.int .i64::[].append (Kd.int .i64::[].append (Kd.int .i64::[].append (Kd.int .i64::[].append (Kd.int .i64::[].append []))))) [cell x.pv 0,cell x.pv 1,cell x.pv 2,cell x.pv 3,cell x.pv 4]=true:=rfl
theorem adC(a b:List Fact)(ha:a.length≤maxLen):qe [.rs 5 (a.map Fact.pv),.rs 5 (b.map Fact.pv)]=some (.bool (decide (a=b))):=by
 have hm:=ai;have hr:=aw;simp only[qe,F4,aS,U,AI,eC];by_cases hl:a.length=b.length
 ·rw[IS (by simp[hl])];refine(cX (fun k=>(a.map Fact.pv,b.map Fact.pv,(k:Int),())) a.length (fun k=> !decide (a[k]?=b[k]?)) (no:=some (.bool false)) (fin:=some (.bool true)) (fun k hk rec=>?_) (fun rec=>?_) (by omega) rfl).trans (Hi hl)
  ·unfold zF;dsimp only;rw[IN (by simp;omega),bn Fact.pv a k hk,bn Fact.pv b k (by omega),ab (by omega)];simp only[U,R7,R6,auM,BY,cN hk,cN (show k<b.length by omega),cO]
  simp[zF,IS]
 ·rw[IN (by simp;omega)];congr 2;grind
theorem U1(rs:List cy)(a b l p d:List PV)(n1 n2 n3:Int)(h:rs.length≤maxLen):∃v,bd.run mq (0,a,b,rs.map cy.pv,l,p,d,n1,n2,n3,())=some (.bool v):=by
 have hm:=ai;have hr:=aw;refine⟨(List.range rs.length).any (fun k=>match rs[k]? with|some x=>decide ((x.calls.length:Int)>40)|none=>false),(cX (fun k=>((k:Int),a,b,rs.map cy.pv,l,p,d,n1,n2,n3,())) rs.length (fun k=>match rs[k]? with|some x=>decide ((x.calls.length:Int)>40)|none=>false) (no:=some (.bool true)) (fin:=some (.bool false)) (fun k hk rec=>?_) (fun rec=>?_) (by omega) rfl).trans ?_⟩
 ·unfold mq;dsimp only;rw[IN (by simp;omega),bn cy.pv rs k hk,ab (by omega),cN hk];simp[U,ane,AI]
 ·simp[mq,IS]
 grind
def aaK(fs:List bl):Nat→Int
 |0=>0
 |k+1=>match fs[k]? with
  |some f=>if dM f=true then IntKind.i64.wrap (aaK fs k+df f)else aaK fs k
  |none=>aaK fs k
theorem ahl(fs:List bl):∃b,vl [.rs 4 (fs.map bl.pv),.int .i64 600]=some (.bool b)∧(b=false→fs.length≤100):=by
 simp only[vl,F5,aS,aI,U,AI];by_cases h:(fs.length:Int)>100
 ·simp_all
 ·rw[IS (by simpa using h)];refine⟨decide (aaK fs fs.length>600),?_,fun _=>by omega⟩;refine bg (fun k=>(fs.map bl.pv,600,aaK fs k,(k:Int),())) fs.length (fun k hk rec=>?_) (fun rec=>?_) (by unfold rounds;omega) rfl
  ·unfold zG;dsimp only;have e:PV.agg [cell fs[k].pv 0,cell fs[k].pv 1,cell fs[k].pv 2,cell fs[k].pv 3]=fs[k].pv:=rfl;rw[IN (by simp;omega),bn bl.pv fs k hk,ab (by omega)];simp only[U,e,Br,aB];rw[aaK,cN hk];by_cases hs:dM fs[k]=true
   ·simp_all[IN,W5,U,aI]
   simp_all
  simp[zG,IS]
theorem U2(T:ay)(N:an)(O:HV)(hN:N.Ok):∃v,nR [T.pv,N.pv,O.pv]=some (.bool v)∧(v=false→FX T∧N.paths.length≤200∧O.bw.length≤12):=by
 have b3:∀a b:Bool,(bif a then some true else some b)=some (a||b):=fun a b=>by cases a<;>rfl
 have t4':∀x:br,ao 5 (cell x.pv 4)=some (x.calls.map aY.pv):=fun x=>rfl;obtain⟨bm,hbm,aqs⟩:=ahl T.bV;simp only[nR,Da,ttA,tt0,tt1,tt2,tt3,tt4,tt5,tt6,tt7,tt8,tt9,Iu,Iv,Iw,ku,kv,kx,ky,kz,kA,kB,kC,kD,kE,adn,ado,adp,adq,adr,ads,adt,adu,U,aS,aI,b3,AI,hbm,aB];split
 ·simp
 ·rename_i h;simp only[asz,cT,avy,atj]at h;have hf:=aqs (by simp_all);obtain⟨v1,hv1⟩:=U1 N.runs (N.stops.map Stop.pv) (N.aj.map ax.pv) (N.aH.map bq.pv) (N.paths.map Path.pv) (N.aK.map aM.pv) N.bp N.within N.cap hN.runs.1;obtain⟨v2,hv2,hv3⟩:∃v2,(if((((((decide ((N.stops.length:Int)>12)||decide ((N.aj.length:Int)>20))||decide ((N.runs.length:Int)>40))||decide ((N.aH.length:Int)>60))||decide ((N.paths.length:Int)>200))||decide ((N.aK.length:Int)>20))||decide ((O.bw.length:Int)>12)||decide ((O.jb.length:Int)>12))=true then some (PV.bool true)else bd.run mq (0,N.stops.map Stop.pv,N.aj.map ax.pv,N.runs.map cy.pv,N.aH.map bq.pv,N.paths.map Path.pv,N.aK.map aM.pv,N.bp,N.within,N.cap,()))=some (.bool v2)∧(v2=false→N.paths.length≤200∧O.bw.length≤12):=by grind
  refine⟨(List.range T.ae.length).any (W6 T)||v2,(cX (fun k=>((k:Int),T.stops.map Stop.pv,T.aj.map ax.pv,T.dp.map mL.pv,T.jK.map pF.pv,T.ae.map br.pv,T.bV.map bl.pv,T.vf.map iJ.pv,T.lO.map gD.pv,T.paths.map Path.pv,T.aK.map aM.pv,T.bp,T.within,T.cap,N.stops.map Stop.pv,N.aj.map ax.pv,N.runs.map cy.pv,N.aH.map bq.pv,N.paths.map Path.pv,N.aK.map aM.pv,N.bp,N.within,N.cap,O.bw.map bx.pv,O.dep,O.arr,O.b8,O.Nx,O.walk,O.jb.map iY.pv,())) T.ae.length (W6 T) (no:=some (.bool true)) (fin:=some (.bool v2)) (fun k hk rec=>?_) (fun rec=>?_) (by unfold rounds;omega) rfl).trans ?_,fun hb=>?_⟩
  ·unfold wO W6;dsimp only;rw[IN (by simp;omega),bn br.pv T.ae k hk,ab (by omega),cN hk];simp_all
  ·rw[←hv2];unfold wO;dsimp only;rw[IS (by simp)];simp only[b3,U,AI]
  ·grind
  ·simp only[asK]at hb;obtain⟨ZU,yq⟩:=hb;obtain⟨h1,h2⟩:=hv3 yq;refine⟨⟨by omega,by omega,by omega,by omega,hf,fun y hy=>?_⟩,h1,h2⟩;simp only[List.any_eq_false,ath]at ZU;obtain⟨k,hk,rfl⟩:=List.mem_iff_getElem.1 hy;grind [W6,List.getElem?_eq_getElem]
section
variable {T:ay} {N:an} {q:iI} {O:HV}
theorem OB(hN:N.Ok)(hp:N.paths.length≤4096)(R3:O.bw.length≤12):(ud T N q O).1.length≤1000:=by
 have h1:=AL (T:=T) (N:=N) (q:=q) (l:=O.bw) O.bw.length;unfold ud;split
 ·exact at7 _
 ·split
  ·exact at7 _
  ·split
   ·exact at7 _
   ·split
    ·exact at7 _
    ·rename_i h1 h2 h3 h4;have h2':(iM N q O.bw).2=0:=by simpa using h2
     obtain⟨hJ,Na⟩:=US (q:=q) hN (by omega) R3 h2';have ht:=(UW Na).1;have h3':okB N q O=true:=by simpa using h3
     have R4:(gE N O.bw).l=O.jb:=by unfold okB at h3';simp only[amm,cT]at h3';exact h3'.2
     rw[R4]at ht;simp only[asn,AI];omega
theorem adD(sJ:T.Ok)(hT:FX T)(hN:N.Ok)(hp:N.paths.length≤4096)(hO:O.Ok)(R3:O.bw.length≤12)(m:List Fact):cM [T.pv,N.pv,q.pv,O.pv,.rs 5 (m.map Fact.pv)]=some (.bool (decide ((ud T N q O).2=0)&&decide ((ud T N q O).1=m))):=by
 have aqt:=OB (T:=T) (q:=q) hN hp R3;have hfp:=UX (q:=q) sJ hT hN hp hO R3;simp only[cM,qf,ttA,tt0,tt1,tt2,tt3,tt4,tt5,tt6,tt7,tt8,tt9,Iu,Iv,Iw,ku,kv,kx,ky,kz,kA,kB,kC,kD,kE,zs,zt,zu,zw,zx,zy,zz,zA,zB,zC,zD,adn,ado,adp,adq,adr,ads,adt,adu,U,ttE,oN,EX,ang,aS,aI,hfp];generalize ud T N q O=R at*;unfold Kq;simp only[U,t2,O6,T1,aS,aI,AI,bT,aJ];by_cases hb:R.2=0∧R.1.length=m.length
 ·have ke:(decide (R.2=0)&&decide ((R.1.length:Int)=(m.length:Int)))=true:=by simp[hb.1,hb.2]
  rw[ke,atA hb.1,as0];refine(cX (fun k=>(m.map Fact.pv,R.1.map Fact.pv,true,(R.1.length:Int),(k:Int),())) R.1.length (fun k=> !decide (R.1[k]?=m[k]?)) (no:=some (.bool false)) (fin:=some (.bool true)) (fun k hk rec=>?_) (fun rec=>?_) (by unfold rounds;omega) rfl).trans (Hi hb.2)
  ·unfold ir;dsimp only;rw[IN (by simp;omega),bn Fact.pv R.1 k hk,bn Fact.pv m k (by omega),ab (by omega)];simp only[ahX,cond_false,U,R7,R6,auM,BY,cN hk,cN (show k<m.length by omega),cO]
  ·unfold ir;dsimp only;rw[IS (by simp)]
 ·have ke:(decide (R.2=0)&&decide ((R.1.length:Int)=(m.length:Int)))=false:=by
   rw[au9,asI,asI];by_cases h1:R.2=0
   ·exact .inr fun h2=>hb ⟨h1,by omega⟩
   ·exact .inl h1
  have hr:(decide (R.2=0)&&decide (R.1=m))=false:=by
   rw[au9,asI,asI];by_cases h1:R.2=0
   ·exact .inr fun h2=>hb ⟨h1,by rw[h2]⟩
   ·exact .inl h1
  rw[ke,hr];refine(cX (fun k=>(m.map Fact.pv,R.1.map Fact.pv,false,(R.1.length:Int),(k:Int),())) R.1.length (fun k=>true) (no:=some (.bool false)) (fin:=some (.bool false)) (fun k hk rec=>?_) (fun rec=>?_) (by unfold rounds;omega) rfl).trans ?_
  ·unfold ir;dsimp only;rw[IN (by simp;omega)];rfl
  ·unfold ir;dsimp only;rw[IS (by simp)]
  ·split<;>rfl
theorem ahm(sJ:T.Ok)(hT:FX T)(hN:N.Ok)(hp:N.paths.length≤4096)(hO:O.Ok)(R3:O.bw.length≤12)(m:List Fact):mr [T.pv,N.pv,q.pv,O.pv,.rs 5 (m.map Fact.pv)]=some (.bool (decide ((ud T N q O).2=0)&&decide ((ud T N q O).1=m))):=by have hmx:maxLen=9223372036854775807:=rfl;have aqt:=OB (T:=T) (q:=q) hN hp R3;have hfp:=aaI (q:=q) sJ hT hN hp hO R3;simp only[mr,Bs,ttA,tt0,tt1,tt2,tt3,tt4,tt5,tt6,tt7,tt8,tt9,Iu,Iv,Iw,ku,kv,kx,ky,kz,kA,kB,kC,kD,kE,zs,zt,zu,zw,zx,zy,zz,zA,zB,zC,zD,adn,ado,adp,adq,adr,ads,adt,adu,U,ttE,oN,EX,ang,aS,aI,hfp];generalize ud T N q O=R at*;unfold Kq;simp only[U,t2,O6,T1,aS,aI,bT,adC R.1 m (by omega),aB,aJ]
end
theorem aaL(T:ay)(N:an)(q:iI)(O:HV)(m:List PV):fG [L5 T N q O,.rs 5 m]=((nR [T.pv,N.pv,O.pv]).bind fun r41=>(Ab.asBool r41).bind fun b42=>(bif b42 then some true else some (decide ((m.length:Int)>100))).bind fun r43=>if r43=true then(cC []).bind fun r44=>(Ab.asBool r44).bind fun b45=>some (PV.bool b45)else(cM [T.pv,N.pv,q.pv,O.pv,.rs 5 m]).bind fun r46=>(Ab.asBool r46).bind fun b47=>(mr [T.pv,N.pv,q.pv,O.pv,.rs 5 m]).bind fun r48=>(Ab.asBool r48).bind fun b49=>(bif b47==b49 then(cC []).bind fun r50=>(Ab.asBool r50).bind fun b51=>some b51 else some false).bind fun r52=>some (PV.bool r52)):=by kernel_rfl
theorem PY(T:ay)(N:an)(q:iI)(O:HV)(m:List Fact)(hT:T.Ok)(hN:N.Ok)(hq:q.Ok)(hO:O.Ok)(hm:m.length≤maxLen∧∀f∈m,f.Ok):fG [L5 T N q O,.rs 5 (m.map Fact.pv)]=some (.bool true):=by
 rw[aaL,adE];obtain⟨v,hv,hl⟩:=U2 T N O hN;rw[hv];cases v with
 |true=>rfl
 |false=>
  obtain⟨hF,hp,R3⟩:=hl rfl;simp only[U,aB,cond_false];split
  ·rfl
  ·rw[adD (q:=q) hT hF hN (by omega) hO R3,ahm (q:=q) hT hF hN (by omega) hO R3];simp only[U,aB,beq_self_eq_true,cond_true]
end Go.Ab.Tt
