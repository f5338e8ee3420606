import Derived.Test.YtmbihgjlollbeaaGreatEfP1
import Derived.Test.YtmbihgjlollbeaaGreatEkX
namespace Go.Ab.Tt
set_option maxRecDepth 100000
set_option maxHeartbeats 4000000
set_option linter.unusedVariables false
set_option linter.unusedSimpArgs false
theorem NM(rs:List ec)(a b l p d:List PV)(n1 n2 n3:Int)(h:rs.length≤maxLen):∃v,bn.run ku (0,a,b,rs.map ec.pv,l,p,d,n1,n2,n3,())=some (.bool v):=by
 have hm:=aQ;have hr:=bu;refine⟨(List.range rs.length).any (fun k=>match rs[k]? with|some x=>decide ((x.calls.length:Int)>40)|none=>false),(xr (fun k=>((k:Int),a,b,rs.map ec.pv,l,p,d,n1,n2,n3,())) rs.length (fun k=>match rs[k]? with|some x=>decide ((x.calls.length:Int)>40)|none=>false) (no:=some (.bool true)) (fin:=some (.bool false)) (fun k hk rec=>?_) (fun rec=>?_) (by omega) rfl).trans ?_⟩
 ·unfold ku;dsimp only;rw[GW (by simp;omega),bN ec.pv rs k hk,al (by omega),cO hk];simp[aa,aej,BY]
 ·simp[ku,No]
 grind
def Sr(fs:List bf):Nat→Int
 |0=>0
 |k+1=>match fs[k]? with
  |some f=>if eF f=true then IntKind.i64.wrap (Sr fs k+fH f)else Sr fs k
  |none=>Sr fs k
theorem Zx(fs:List bf):∃b,qN [.rs 4 (fs.map bf.pv),.int .i64 600]=some (.bool b)∧(b=false→fs.length≤100):=by
 simp only[qN,zY,aS,aI,aa,BY];by_cases h:(fs.length:Int)>100
 ·simp_all
 ·rw[No (by simpa using h)];refine⟨decide (Sr fs fs.length>600),?_,fun _=>by omega⟩;refine aZ (fun k=>(fs.map bf.pv,600,Sr fs k,(k:Int),())) fs.length (fun k hk rec=>?_) (fun rec=>?_) (by unfold rounds;omega) rfl
  ·unfold tI;dsimp only;have e:PV.agg [cell fs[k].pv 0,cell fs[k].pv 1,cell fs[k].pv 2,cell fs[k].pv 3]=fs[k].pv:=rfl;rw[GW (by simp;omega),bN bf.pv fs k hk,al (by omega)];simp only[aa,e,NN,aB];rw[Sr,cO hk];by_cases hs:eF fs[k]=true
   ·simp_all[GW,Zy,aa,aI]
   simp_all
  simp[tI,No]
theorem NO(T:ak)(N:ae)(O:A7)(hN:N.Ok):∃v,lR [T.pv,N.pv,O.pv]=some (.bool v)∧(v=false→Nu T∧N.paths.length≤200∧O.aL.length≤12):=by
 have b3:∀a b:Bool,(bif a then some true else some b)=some (a||b):=fun a b=>by cases a<;>rfl
 have t4':∀x:bL,aw 5 (cell x.pv 4)=some (x.calls.map aR.pv):=fun x=>rfl;obtain⟨bm,hbm,ahF⟩:=Zx T.cj;simp only[lR,xv,ttA,tt0,tt1,tt2,tt3,tt4,tt5,tt6,tt7,tt8,tt9,U3,U4,U5,A8,A9,Ba,Bb,Bc,Bd,Be,Bf,Bg,Bh,aem,aen,aeo,aep,aeq,aer,aes,aet,aa,aS,aI,b3,BY,hbm,aB];split
 ·simp
 ·rename_i h;simp only[ajt,AT,ami,aj9]at h;have hf:=ahF (by simp_all);obtain⟨v1,hv1⟩:=NM N.runs (N.stops.map Stop.pv) (N.ar.map aT.pv) (N.bj.map bA.pv) (N.paths.map Path.pv) (N.ba.map aV.pv) N.bY N.within N.cap hN.runs.1;obtain⟨v2,hv2,hv3⟩:∃v2,(if((((((decide ((N.stops.length:Int)>12)||decide ((N.ar.length:Int)>20))||decide ((N.runs.length:Int)>40))||decide ((N.bj.length:Int)>60))||decide ((N.paths.length:Int)>200))||decide ((N.ba.length:Int)>20))||decide ((O.aL.length:Int)>12)||decide ((O.j9.length:Int)>12))=true then some (PV.bool true)else bn.run ku (0,N.stops.map Stop.pv,N.ar.map aT.pv,N.runs.map ec.pv,N.bj.map bA.pv,N.paths.map Path.pv,N.ba.map aV.pv,N.bY,N.within,N.cap,()))=some (.bool v2)∧(v2=false→N.paths.length≤200∧O.aL.length≤12):=by grind
  refine⟨(List.range T.ag.length).any (PK T)||v2,(xr (fun k=>((k:Int),T.stops.map Stop.pv,T.ar.map aT.pv,T.eM.map pL.pv,T.kQ.map sG.pv,T.ag.map bL.pv,T.cj.map bf.pv,T.sN.map kS.pv,T.lB.map iP.pv,T.paths.map Path.pv,T.ba.map aV.pv,T.bY,T.within,T.cap,N.stops.map Stop.pv,N.ar.map aT.pv,N.runs.map ec.pv,N.bj.map bA.pv,N.paths.map Path.pv,N.ba.map aV.pv,N.bY,N.within,N.cap,O.aL.map bp.pv,O.dep,O.arr,O.cB,O.K9,O.walk,O.j9.map mW.pv,())) T.ag.length (PK T) (no:=some (.bool true)) (fin:=some (.bool v2)) (fun k hk rec=>?_) (fun rec=>?_) (by unfold rounds;omega) rfl).trans ?_,fun hb=>?_⟩
  ·unfold rZ PK;dsimp only;rw[GW (by simp;omega),bN bL.pv T.ag k hk,al (by omega),cO hk];simp_all
  ·rw[←hv2];unfold rZ;dsimp only;rw[No (by simp)];simp only[b3,aa,BY]
  ·grind
  ·simp only[ajT]at hb;obtain⟨TW,ux⟩:=hb;obtain⟨h1,h2⟩:=hv3 ux;refine⟨⟨by omega,by omega,by omega,by omega,hf,fun y hy=>?_⟩,h1,h2⟩;simp only[List.any_eq_false,aj5]at TW;obtain⟨k,hk,rfl⟩:=List.mem_iff_getElem.1 hy;grind [PK,List.getElem?_eq_getElem]
section
variable {T:ak} {N:ae} {q:gm} {O:A7}
theorem Ss(hN:N.Ok)(hp:N.paths.length≤4096)(Vk:O.aL.length≤12):(xt T N q O).1.length≤1000:=by
 have h1:=A6 (T:=T) (N:=N) (q:=q) (l:=O.aL) O.aL.length;unfold xt;split
 ·exact ak6 _
 ·split
  ·exact ak6 _
  ·split
   ·exact ak6 _
   ·split
    ·exact ak6 _
    ·rename_i h1 h2 h3 h4;have YS:(nr N q O.aL).2=0:=by simpa using h2
     obtain⟨hJ,Kv⟩:=NG (q:=q) hN (by omega) Vk YS;have ht:=(NJ Kv).1;have Zw:okB N q O=true:=by simpa using h3
     have Tw:(kr N O.aL).l=O.j9:=by unfold okB at Zw;simp only[OF,AT]at Zw;exact Zw.2
     rw[Tw]at ht;simp only[aju,BY];omega
end
def lH(l:List Fact)(k i:Int):Nat:=l.countP fun f=>decide (f.kind=k)&&decide (f.GJ=i)
theorem yN(a b:List Fact)(k i:Int):lH (a++b) k i=lH a k i+lH b k i:=akS
theorem Vo(l:List Fact)(hl:l.length≤1000000)(k i:Int):bw [.rs 5 (l.map Fact.pv),.int .i64 k,.int .i64 i]=some (.int .i64 (lH l k i)):=by
 simp only[bw,xw,aS,aI,aa];refine aZ (fun j=>(l.map Fact.pv,k,i,(lH (l.take j) k i:Int),(j:Int),())) l.length (fun j hj rec=>?_) (fun rec=>?_) (by unfold rounds;omega) rfl
 ·have hle:lH (l.take j) k i≤j:=ajQ akc (by rw[ajP];omega);unfold sa;dsimp only;rw[GW (by simp;omega),bN Fact.pv l j hj,ajq hj,yN,al (show j<9223372036854775807 by omega),al (show lH (l.take j) k i<9223372036854775807 by omega)];simp only[aa,aaN,Vp,bE,jw];unfold lH;rw[ako,akV];split<;>rename_i h
  ·rw[aj0]
  ·rfl
 ·unfold sa;dsimp only;rw[No (by simp),ajZ]
section
variable {T:ak} {N:ae} {q:gm} {l:List bp}
theorem FA{a:List Fact}{k i:Int}(h:∀f∈a,f.kind=k→f.GJ≠i):lH a k i=0:=by
 unfold lH;rw[alu];intro f hf;by_cases hk:f.kind=k
 ·simp[h f hf hk]
 ·simp[hk]
theorem FB(i:Nat):∀f∈BQ T N q l i,f.GJ=i∧f.kind≠8:=by
 intro f hf;unfold BQ at hf;split at hf
 ·cases hf
 ·rename_i x hx;unfold Ft at hf;split at hf
  ·split at hf
   ·split at hf
    ·rename_i r s _ _;unfold Dc at hf;simp only[ajA,aih,ajE,akF]at hf;rcases hf with(rfl|rfl)|hf|hf|hf
     ·exact⟨rfl,by simp⟩
     ·exact⟨rfl,by simp⟩
     ·cases i with
      |zero=>cases hf
      |succ j=>
       rw[Va]at hf;split at hf
       ·cases hf
       ·split at hf
        ·split at hf
         ·simp only[aih,ajE,akF]at hf;subst hf;exact⟨rfl,by simp⟩
         ·split at hf
          ·simp only[aih,ajE,akF]at hf;subst hf;exact⟨rfl,by simp⟩
          ·simp only[aih,ajE,akF]at hf;subst hf;exact⟨rfl,by simp⟩
        ·cases hf
     ·unfold boF at hf;split at hf
      ·cases hf
      ·simp only[aih,ajE,akF]at hf;subst hf;exact⟨rfl,by simp⟩
     ·unfold I5 at hf;split at hf
      ·cases hf
      ·simp only[aih,ajE,akF]at hf;subst hf;exact⟨rfl,by simp⟩
    ·cases hf
   ·cases hf
  ·unfold Fs at hf;split at hf
   ·split at hf
    ·simp only[aih,ajE,akF]at hf;subst hf;exact⟨rfl,by simp⟩
    ·cases hf
   ·cases hf
theorem PL(n:Nat):∀f∈gI T N q l n,0≤f.GJ∧f.GJ<n∧f.kind≠8:=by intro f hf;unfold gI at hf;obtain⟨i,hi,hf⟩:=ak3.1 hf;have:=aj5.1 hi;obtain⟨h1,h2⟩:=FB i f hf;omega
theorem Lb(k:Int)(i:Nat):∀n,lH (gI T N q l n) k i=if i<n then lH (BQ T N q l i) k i else 0
 |0=>by simp[gI,lH]
 |n+1=>by
  rw[yM,yN,Lb k i n];by_cases e:i=n
  ·subst e;rw[No (by omega),GW (by omega)];omega
  ·have:lH (BQ T N q l n) k i=0:=FA fun f hf _=>by have:=(FB n f hf).1;omega
   rw[this];by_cases h:i<n
   ·rw[GW h,GW (by omega)];rfl
   ·rw[No h,No (by omega)]
theorem Vq(j9:List mW)(k:Int)(i:Int)(hk:k≠8):lH (j9.map (pJ l)) k i=0:=FA fun f hf h=>by obtain⟨t,_,rfl⟩:=ajy.1 hf;exact absurd h.symm hk
def pV(T:ak)(N:ae)(q:gm)(O:A7):List Fact:=gI T N q O.aL O.aL.length++O.j9.map (pJ O.aL)
theorem Vr{O:A7}{k:Int}(hk:k≠8){i:Nat}(hi:i<O.aL.length):lH (pV T N q O) k i=lH (BQ T N q O.aL i) k i:=by unfold pV;rw[yN,Lb,GW hi,Vq _ _ _ hk,akt]
theorem Vs(h:GI N q l){i:Nat}(hi:i<l.length)(hr:l[i].cL=false)(k:Int):lH (BQ T N q l i) k i=if k=7 then 1 else 0:=by
 obtain⟨j,p,h1,h2,h3⟩:=K6 (h.walk hi hr);have e:BQ T N q l i=[⟨7,i,j,p.jx,if p.free=true then 1 else 0⟩]:=by unfold BQ;rw[cO hi];simp only;unfold Ft;rw[No (by simp[hr])];unfold Fs;simp only[h1,h2]
 rw[e];unfold lH;rw[ako,akV];by_cases hk:k=7
 ·subst hk;simp
 ·rw[No hk];simp[Ne.symm hk]
theorem Zz(x:bp)(k:Int)(hk:k≠5∧k≠6)(i:Nat)(m:Int):lH (Va N l x i) k m=0:=FA fun f hf h=>by
 exfalso;cases i with
 |zero=>cases hf
 |succ j=>
  rw[Va]at hf;split at hf
  ·cases hf
  ·split at hf
   ·split at hf
    ·simp only[aih,ajE,akF]at hf;subst hf;exact hk.2 h.symm
    ·split at hf
     ·simp only[aih,ajE,akF]at hf;subst hf;exact hk.1 h.symm
     ·simp only[aih,ajE,akF]at hf;subst hf;exact hk.2 h.symm
   ·cases hf
theorem Vt(h:GI N q l){i:Nat}(hi:i<l.length)(hr:l[i].cL=true)(Pb:np T N l[i]=false)(k:Int)(hk:k≠5∧k≠6):lH (BQ T N q l i) k i=if k=1∨k=2 then 1 else if k=3 then(if l[i].stay=true then 0 else 1)else if k=4 then(if GH l i=true then 0 else 1)else 0:=by
 obtain⟨r,t,a,c,hR⟩:=zX h.val ((pT (h.A3.GJ i hi)).2.2.1 hr);have hrn:tE N l[i]=some r:=by unfold tE;rw[GW hR.wg];exact hR.run
 obtain⟨s,hS⟩:∃v,kq T r=some v:=by
  have aeu:(kq T r).isNone=false:=by unfold np at Pb;rw[hr,hrn]at Pb;exact Pb
  cases hS:kq T r with
  |some v=>exact⟨v,rfl⟩
  |none=>rw[hS]at aeu;cases aeu
 have e:BQ T N q l i=Dc T N l i l[i] r s:=by unfold BQ;rw[cO hi];simp only;unfold Ft;rw[GW hr,hrn];simp only[hS]
 rw[e];unfold Dc;rw[yN,yN,yN,Zz _ _ hk];unfold boF I5 lH;by_cases h1:k=1
 ·subst h1;cases l[i].stay<;>cases GH l i<;>simp
 by_cases h2:k=2
 ·subst h2;cases l[i].stay<;>cases GH l i<;>simp
 by_cases h3:k=3
 ·subst h3;cases l[i].stay<;>cases GH l i<;>simp
 by_cases h4:k=4
 ·subst h4;cases l[i].stay<;>cases GH l i<;>simp
 cases l[i].stay<;>cases GH l i<;>simp[h1,h2,h3,h4,Ne.symm h1,Ne.symm h2,Ne.symm h3,Ne.symm h4]
def Yp(l:List bp)(k:Nat):Nat:=(List.range k).countP fun i=>(match l[i]? with|some x=>x.cL|none=>false)&& !GH l i
theorem Lc{k:Nat}(hk:k<l.length):Yp l (k+1)=Yp l k+if(l[k].cL&& !GH l k)=true then 1 else 0:=by unfold Yp;rw[akU,akS,ako,akV,cO hk];simp
def stB(l:List bp)(k:Nat):Nat:=if(match l[k]? with|some x=>x.stay|none=>false)=true then 1 else 0
theorem ab6(k:Nat):(if GH l k=true then 1 else 0)=stB l (k+1):=rfl
theorem Vu(h:GI N q l):∀k,k≤l.length→Yp l k+stB l k=(l.take k).countP dG
 |0,_=>by
  have h0:stB l 0=0:=by
   unfold stB;cases e:l[0]? with
   |none=>rfl
   |some x=>
    have bT:=(By.1 e).1;have hx:l[0]=x:=by rw[cO bT]at e;cases e;rfl
    cases hs:x.stay with
    |false=>simp[hs]
    |true=>obtain⟨j,hj,e',_⟩:=h.A3.stay 0 bT (by rw[hx];exact hs);omega
  rw[h0];simp[Yp]
 |k+1,hk=>by
  have ih:=Vu h k (by omega);have bT:k<l.length:=by omega
  have uf:stB l k=if l[k].stay=true then 1 else 0:=by unfold stB;rw[cO bT]
  have hsr:l[k].stay=true→l[k].cL=true:=fun hs=>by
   have:=(pT (h.A3.GJ k bT)).2.2.2;cases hr:l[k].cL with
   |true=>rfl
   |false=>rw[this hr]at hs;cases hs
  have JS:GH l k=true→l[k].cL=true:=fun hs=>by
   unfold GH at hs;cases e:l[k+1]? with
   |none=>rw[e]at hs;cases hs
   |some y=>
    rw[e]at hs;have YU:=(By.1 e).1;have hy:l[k+1]=y:=by rw[cO YU]at e;cases e;rfl
    obtain⟨j,hj,e',hr⟩:=h.A3.stay (k+1) YU (by rw[hy];exact hs);have:j=k:=by omega
    subst this;exact hr
  rw[Lc bT,←ab6,ajq bT,akS,ako,akV,←ih,uf];unfold dG;cases hr:l[k].cL with
  |false=>
   have h1:l[k].stay=false:=by
    cases hs:l[k].stay with
    |false=>rfl
    |true=>rw[hsr hs]at hr;cases hr
   have h2:GH l k=false:=by
    cases hs:GH l k with
    |false=>rfl
    |true=>rw[JS hs]at hr;cases hr
   simp[h1,h2]
  |true=>cases l[k].stay<;>cases GH l k<;>simp
theorem ab7(h:GI N q l):Yp l l.length=l.countP dG:=by
 have:=Vu h l.length (ajo _);have h0:stB l l.length=0:=by unfold stB;rw[aks (ajo _)];rfl
 rw[h0,ajZ]at this;omega
theorem De:∀n,(gI T N q l n).Pairwise fun f g=>f.GJ≤g.GJ
 |0=>by simp[gI]
 |n+1=>by
  rw[yM,akm];refine⟨De n,?_,fun f hf g hg=>?_⟩
  ·rw[aj6];intro i j hi hj _;have h1:=(FB n _ (ajm hi)).1;have h2:=(FB n _ (ajm hj)).1;omega
  ·have h1:=(PL n f hf).2.1;have h2:=(FB n g hg).1;omega
end
theorem Ld(T:ak)(N:ae)(q:gm)(O:A7):gb [FC T N q O]=((lR [T.pv,N.pv,O.pv]).bind fun r40=>(Ab.asBool r40).bind fun b41=>if b41=true then(bt []).bind fun r42=>(Ab.asBool r42).bind fun b43=>some (PV.bool b43)else(dn [T.pv,N.pv,q.pv,O.pv]).bind fun r44=>(dq 2 r44).bind fun aev=>(aw 5 (aev.getD 0 PV.bad)).bind fun ahG=>(Ab.asInt .i64 (aev.getD 1 PV.bad)).bind fun n47=>if(n47 !=0)=true then(bt []).bind fun r48=>(Ab.asBool r48).bind fun b49=>some (PV.bool b49)else bn.run (dJ bn) (ahG,0,0,0,O.aL.map bp.pv,0,rT T (rN N q (rO O ())))):=by kernel_rfl
section
variable {T:ak} {N:ae} {q:gm} {O:A7}
theorem NP(h:GI N q O.aL)(hn:(pV T N q O).length≤1000)(ht:O.j9.length≤8)(he:bt []=some (.bool true)):bn.run fp ((pV T N q O).map Fact.pv,IntKind.i64.wrap ((((pV T N q O).map Fact.pv).length:Int)-((O.j9.map mW.pv).length:Int)),0,rT T (rN N q (rO O ())))=some (.bool true):=by
 have hlen:(pV T N q O).length=(gI T N q O.aL O.aL.length).length+O.j9.length:=by unfold pV;simp
 rw[BY,BY,aY (by omega) (by omega),show((pV T N q O).length:Int)-(O.j9.length:Int)=((gI T N q O.aL O.aL.length).length:Int) by omega];refine aZ (fun k=>((pV T N q O).map Fact.pv,((gI T N q O.aL O.aL.length).length:Int),(k:Int),rT T (rN N q (rO O ())))) (pV T N q O).length (fun k hk rec=>?_) (fun rec=>?_) (by unfold rounds;omega) rfl
 ·unfold fp rT rN rO;dsimp only;rw[GW (by simp;omega),bN Fact.pv _ k hk,al (by omega)];simp only[aa,aaN,Vp,aew,aex,jw];by_cases hf:k<(gI T N q O.aL O.aL.length).length
  ·have hg:(pV T N q O)[k]=(gI T N q O.aL O.aL.length)[k]:=by unfold pV;exact alI hf
   have h8:=(PL (T:=T) (N:=N) (q:=q) (l:=O.aL) _ _ (ajm hf)).2.2;rw[hg,aj2 h8,aj2 (show¬(k:Int)≥((gI T N q O.aL O.aL.length).length:Int) by omega)];simp only[ajx,aji,cond_false,aa];have pR:(bif decide ((k:Int)>0)then some (decide ((k:Int)<((gI T N q O.aL O.aL.length).length:Int)))else some false).bind (fun ahH=>(bif ahH then(fM ((pV T N q O).map Fact.pv) (IntKind.i64.wrap ((k:Int)-1))).bind fun ahI=>(Ab.asInt .i64 (cell ahI 1)).bind fun n106=>some (decide ((gI T N q O.aL O.aL.length)[k].GJ<n106))else some false).bind fun ahJ=>some ahJ)=some false:=by
    cases k with
    |zero=>rfl
    |succ j=>
     have cP:(pV T N q O)[j]'(by omega)=(gI T N q O.aL O.aL.length)[j]'(by omega):=by unfold pV;exact alI (by omega)
     have hs:=aj6.1 (De (T:=T) (N:=N) (q:=q) (l:=O.aL) O.aL.length) j (j+1) (by omega) hf (by omega);rw[aky (show((j+1:Nat):Int)>0 by omega),aky (show((j+1:Nat):Int)<((gI T N q O.aL O.aL.length).length:Int) by omega),oG j (by omega),bN Fact.pv _ j (by omega),cP];simp only[cond_true,aa,Vp];rw[aj2 (by omega)]
   rw[pR];simp only[aa,cQ,S3]
  ·have ZA:k-(gI T N q O.aL O.aL.length).length<O.j9.length:=by omega
   have hg:(pV T N q O)[k]=pJ O.aL (O.j9[k-(gI T N q O.aL O.aL.length).length]):=by
    have:(pV T N q O)[k]?=some (pJ O.aL (O.j9[k-(gI T N q O.aL O.aL.length).length])):=by unfold pV;rw[ajX (by omega),IN,cO ZA];rfl
    rw[cO hk]at this;exact alc this
   have h8:(pJ O.aL (O.j9[k-(gI T N q O.aL O.aL.length).length])).kind=8:=rfl;have t0:∀t:mW,Ab.asInt .i64 (cell t.pv 0)=some t.prod:=fun t=>rfl;have t3:∀t:mW,Ab.asInt .i64 (cell t.pv 3)=some t.jy:=fun t=>rfl;rw[hg,aky h8,aky (show(k:Int)≥((gI T N q O.aL O.aL.length).length:Int) by omega),aj2 (show¬(k:Int)<((gI T N q O.aL O.aL.length).length:Int) by omega),show IntKind.i64.wrap ((k:Int)-((gI T N q O.aL O.aL.length).length:Int))=((k-(gI T N q O.aL O.aL.length).length:Nat):Int) by rw[aY (by omega) (by omega)];omega,bN mW.pv O.j9 _ ZA];have pR:(bif decide ((k:Int)>0)then some false else some false:Option Bool)=some false:=by cases decide ((k:Int)>0)<;>rfl
   simp only[ajx,aji,cond_false,cond_true,aa,pR,cQ,S3,t0,t3,pI];rw[show(pJ O.aL (O.j9[k-(gI T N q O.aL O.aL.length).length])).a=(O.j9[k-(gI T N q O.aL O.aL.length).length]).prod from rfl,show(pJ O.aL (O.j9[k-(gI T N q O.aL O.aL.length).length])).b=(O.j9[k-(gI T N q O.aL O.aL.length).length]).jy from rfl];simp
 ·unfold fp rT rN rO;dsimp only;rw[No (by simp),he];rfl
theorem Le(h:GI N q O.aL)(Pb:O.aL.any (np T N)=false)(hn:(pV T N q O).length≤1000)(ht:O.j9.length≤8)(he:bt []=some (.bool true)):bn.run (dJ bn) ((pV T N q O).map Fact.pv,0,0,0,O.aL.map bp.pv,0,rT T (rN N q (rO O ())))=some (.bool true):=by
 have Vk:=h.few;have hlen:(pV T N q O).length=(gI T N q O.aL O.aL.length).length+O.j9.length:=by unfold pV;simp
 refine aZ (fun k=>((pV T N q O).map Fact.pv,(((O.aL.take k).countP dG:Nat):Int),(((O.aL.take k).countP dG:Nat):Int),((Yp O.aL k:Nat):Int),O.aL.map bp.pv,(k:Int),rT T (rN N q (rO O ())))) O.aL.length (fun k hk rec=>?_) (fun rec=>?_) (by unfold rounds;omega) rfl
 ·have hb:np T N O.aL[k]=false:=by have:=List.any_eq_false.1 Pb _ (ajm hk);simpa using this
  have hc:∀j:Int,j≠8→bw [.rs 5 ((pV T N q O).map Fact.pv),.int .i64 j,.int .i64 (k:Int)]=some (.int .i64 (lH (BQ T N q O.aL k) j k)):=fun j hj=>by rw[Vo _ (by omega),Vr hj hk]
  have hr0:(O.aL.take k).countP dG≤k:=ajQ akc (by rw[ajP];omega);have ha0:Yp O.aL k≤k:=by have:=akc (p:=fun i=>(match O.aL[i]? with|some x=>x.cL|none=>false)&& !GH O.aL i) (l:=List.range k);rw[List.length_range]at this;exact this
  have YV:(O.aL.take (k+1)).countP dG=(O.aL.take k).countP dG+if dG O.aL[k]=true then 1 else 0:=by rw[ajq hk,akS,ako,akV];omega
  have w1:∀n:Nat,n≤1000→IntKind.i64.wrap ((n:Int)+((1:Nat):Int))=((n+1:Nat):Int):=fun n h=>by rw[aY (by omega) (by omega)];omega
  have w0:∀n:Nat,n≤1000→IntKind.i64.wrap ((n:Int)+((0:Nat):Int))=((n+0:Nat):Int):=fun n h=>by rw[aY (by omega) (by omega)];omega
  have w1r:=w1 ((O.aL.take k).countP dG) (by omega);have w0r:=w0 ((O.aL.take k).countP dG) (by omega);have w1a:=w1 (Yp O.aL k) (by omega);have w0a:=w0 (Yp O.aL k) (by omega);have wr:IntKind.i64.wrap ((((O.aL.take k).countP dG:Nat):Int)+1)=(((O.aL.take k).countP dG+1:Nat):Int):=al (by omega);rw[YV,Lc hk];unfold dJ rT rN rO;dsimp only;rw[GW (by simp;omega),bN bp.pv O.aL k hk,al (show k<9223372036854775807 by omega)];simp only[aa,rX,pU,hc 1 (by decide),hc 2 (by decide),hc 3 (by decide),hc 4 (by decide),hc 7 (by decide),aI];by_cases hr:O.aL[k].cL=true
  ·have c:=Vt (T:=T) h hk hr hb;have c1:lH (BQ T N q O.aL k) 1 k=1:=by rw[c 1 (by decide)];simp
   have c2:lH (BQ T N q O.aL k) 2 k=1:=by rw[c 2 (by decide)];simp
   have c3:lH (BQ T N q O.aL k) 3 k=if O.aL[k].stay=true then 0 else 1:=by rw[c 3 (by decide)];simp
   have c4:lH (BQ T N q O.aL k) 4 k=if GH O.aL k=true then 0 else 1:=by rw[c 4 (by decide)];simp
   have c7:lH (BQ T N q O.aL k) 7 k=0:=by rw[c 7 (by decide)];simp
   have hrb:dG O.aL[k]= !O.aL[k].stay:=by unfold dG;rw[hr,aj3]
   rw[hrb,c1,c2,c3,c4,c7,show(((1:Nat):Int) !=1)=false from rfl,show(((0:Nat):Int) !=0)=false from rfl];simp only[hr,cond_false,cond_true,aa,cQ,IS,S3,aj3];cases hs:O.aL[k].stay<;>cases hx:GH O.aL k<;>simp only[aji,ajC,cQ,IS,S3,w1r,w0r,w1a,w0a,wr]<;>rfl
  ·have wF:O.aL[k].cL=false:=by simpa using hr
   have c:=Vs (T:=T) h hk wF;have c1:lH (BQ T N q O.aL k) 1 k=0:=by rw[c 1];simp
   have c2:lH (BQ T N q O.aL k) 2 k=0:=by rw[c 2];simp
   have c3:lH (BQ T N q O.aL k) 3 k=0:=by rw[c 3];simp
   have c4:lH (BQ T N q O.aL k) 4 k=0:=by rw[c 4];simp
   have c7:lH (BQ T N q O.aL k) 7 k=1:=by rw[c 7];simp
   have hrb:dG O.aL[k]=false:=by unfold dG;rw[wF,akQ]
   rw[hrb,c1,c2,c3,c4,c7,show(((1:Nat):Int) !=1)=false from rfl,show(((0:Nat):Int) !=0)=false from rfl];simp only[wF,cond_false,cond_true,aa,cQ,IS,S3,akQ,w0r,w0a];rfl
 ·unfold dJ rT rN rO;dsimp only;rw[No (by simp),ajZ,ab7 h];rw[show((((O.aL.countP dG:Nat):Int)) !=((O.aL.countP dG:Nat):Int))=false by simp];simp only[cond_false,aa,BY];rw[aj2 (by omega),No (by decide)];have:=NP (T:=T) (N:=N) (q:=q) (O:=O) h hn ht he;rw[BY,BY]at this;exact this
end
theorem NQ(T:ak)(N:ae)(q:gm)(O:A7)(hT:T.Ok)(hN:N.Ok)(hq:q.Ok)(hO:O.Ok):gb [FC T N q O]=some (.bool true):=by
 rw[Ld,Lf];obtain⟨v,hv,hl⟩:=NO T N O hN;rw[hv];cases v with
 |true=>rfl
 |false=>
  obtain⟨hF,hp,Vk⟩:=hl rfl;have aey:=Ss (T:=T) (N:=N) (q:=q) (O:=O) hN (by omega) Vk;rw[NK (q:=q) hT hF hN (by omega) hO Vk];by_cases h0:(xt T N q O).2=0
  ·have wa:xt T N q O=(pV T N q O,0)∧GI N q O.aL∧O.aL.any (np T N)=false∧O.j9.length≤8:=by
    unfold xt at h0⊢;split at h0
    ·contradiction
    ·rename_i h1;rw[No h1];split at h0
     ·contradiction
     ·rename_i h2;rw[No h2];split at h0
      ·cases h0
      ·rename_i h3;rw[No h3];split at h0
       ·cases h0
       ·rename_i h4;rw[No h4];have YS:(nr N q O.aL).2=0:=by simpa using h2
        obtain⟨hJ,Kv⟩:=NG (q:=q) hN (by omega) Vk YS;have ht:=(NJ Kv).1;have Zw:okB N q O=true:=by simpa using h3
        have Tw:(kr N O.aL).l=O.j9:=by unfold okB at Zw;simp only[OF,AT]at Zw;exact Zw.2
        rw[Tw]at ht;exact⟨rfl,hJ,by simpa using h4,ht⟩
   obtain⟨hR,hJ,Pb,ht⟩:=wa;rw[hR]at aey⊢;unfold I9;simp only[aa,aB,cQ,S3,t2,ajf,ajh,aS,aI];rw[No (by decide)];exact Le hJ Pb aey ht Lf
  ·generalize xt T N q O=R at*;unfold I9;simp only[aa,aB,cQ,S3,t2,ajf,ajh,aS,aI];rw[GW (by simpa using h0)]
end Go.Ab.Tt
