import Derived.Test.YtoaknfoobjnjgaaGreatNbP1
import Derived.Test.YtoaknfoobjnjgaaGreatNkP2
set_option linter.all false
namespace Go.Ab.Tt
set_option maxRecDepth 100000
set_option maxHeartbeats 4000000
theorem bAI(n:Int):Ab.asInt .i64 (.int .i64 n)=some n:=rfl
theorem bAS(z:Nat)(es:List PV):ak z (.rs z es)=some es:=by simp[ak]
theorem bt2(a b:PV):cz 2 (.aV [a,b])=some [a,b]:=rfl
theorem bt3(a b c:PV):cz 3 (.aV [a,b,c])=some [a,b,c]:=rfl
structure ade(N:ay):Prop where
 stops:N.stops.length≤10000
 ae:N.ae.length≤10000
 runs:N.runs.length≤10000
 ar:N.ar.length≤10000
 paths:N.paths.length≤10000
 av:N.av.length≤10000
 calls:∀r∈N.runs,r.calls.length≤10000
theorem B1(N:ay)(h:ade N):gE [N.pv]=some N.pv:=by
 simp only[gE,vB,BQ,BR,BS,BT,BU,BV,BW,BX,BZ,B0,U,HU _ (show(N.stops.map Stop.pv).length≤10000 by rw[By];exact h.stops),Fk _ (show(N.ae.map az.pv).length≤10000 by rw[By];exact h.ae),Kv _ (show(N.runs.map aX.pv).length≤10000 by rw[By];exact h.runs),HV _ (show(N.ar.map aD.pv).length≤10000 by rw[By];exact h.ar),zk _ (show(N.paths.map Path.pv).length≤10000 by rw[By];exact h.paths),bAS,By];have hr:=h.runs;refine bh (fun k=>((N.runs.length:Int),(k:Int),N.stops.map Stop.pv,N.ae.map az.pv,N.runs.map aX.pv,N.ar.map aD.pv,N.paths.map Path.pv,N.av.map aS.pv,N.aQ,N.within,N.cap,0,0,0,N.av.map aS.pv,N.aQ,N.within,N.cap,N.stops.map Stop.pv,N.ae.map az.pv,mix aX.vi aX.pv N.runs k,N.ar.map aD.pv,N.paths.map Path.pv,())) N.runs.length (fun k hk rec=>?_) (fun rec=>?_) (by unfold rounds;omega) (by rfl)
 ·unfold qk;dsimp only;have hc:=h.calls _ (agZ hk);have e7:ak 5 (cell N.runs[k].pv 7)=some (N.runs[k].calls.map ai.pv):=rfl;have uy:(mix aX.vi aX.pv N.runs k).set k (aX.vi N.runs[k])=mix aX.vi aX.pv N.runs (k+1):=Tn _ _ _ _ hk;have e8:(if 8=1 then PV.jr 5 (N.runs[k].calls.map ai.pv)else PV.agg (cell N.runs[k].pv 0::cell N.runs[k].pv 1::cell N.runs[k].pv 2::cell N.runs[k].pv 3::cell N.runs[k].pv 4::cell N.runs[k].pv 5::cell N.runs[k].pv 6::PV.jr 5 (N.runs[k].calls.map ai.pv)::over [] []))=aX.vi N.runs[k]:=rfl;rw[BY (by simp;omega),BY (Md _ _ _ _ hk)];simp only[agY,To _ _ _ _ hk,U,e7,HW _ (show(N.runs[k].calls.map ai.pv).length≤10000 by simp_all),bAS,BY (Md aX.vi aX.pv _ _ hk),e8,uy,ah (show k<9223372036854775807 by omega)]
 ·unfold qk;dsimp only;rw[IT (by simp)];simp only[Bi _ (show(N.av.map aS.pv).length≤10000 by rw[By];exact h.av),U,bAS,Tp,xF];rfl
section
variable {T:ao}
theorem zl(hV:dE T):T.stops.length≤64∧Sound T.paths T.stops.length∧(qH T.paths T.stops.length).2=0∧T.paths.length≤512:=by have h0:(fP T.stops).2=0:=hV 0 (by omega);have h8:(qH T.paths T.stops.length).2=0:=hV 8 (by omega);grind [wK,qH,C6]
theorem Rp(hV:dE T)(jq:T.Ok):lG [.rs 4 (T.paths.map Path.pv),.int .i64 (T.stops.length:Int)]=some (.aV [.rs 4 ((dm T.paths T.stops.length).map Path.pv),.int .i64 0]):=by obtain⟨pU,hs,h8,anm⟩:=zl hV;have hmx:maxLen=9223372036854775807:=rfl;have hp:=Kw T.paths T.stops.length (by omega);have alX:∀a b:Int,cz 2 (res a b)=some [.int .i64 a,.int .i64 b]:=fun a b=>rfl;simp only[lG,tH,bAS,bAI,U];rw[IT (by simp;omega),hp];simp only[U,alX,aki,amr,bAI,h8];rw[IT (by simp),IT (show¬(0:Int)>(T.stops.length:Int) by omega),(En pU (by omega) hs).1];rfl
end
def noN:PV:=.agg [.rs 0 [],.rs 0 [],.rs 0 [],.rs 0 [],.rs 0 [],.rs 0 [],.int .i64 0,.int .i64 0,.int .i64 0]
section
variable {T:ao}
theorem OK(hV:dE T)(jq:T.Ok)(hT:vA T){l:List aX}(hk:∀r∈l,fh T r=true)(hl:l.length≤1024)(hn:(ba T l l.length).length≤1024):(xG T l).Ok∧ade (xG T l):=by
 have hmx:maxLen=9223372036854775807:=rfl;obtain⟨pU,hs,_,_⟩:=zl hV;have ak2:T.ae.length≤64:=by have h1:(ec T.ae).2=0:=hV 1 (by omega);grind [ec]
 have alY:T.av.length≤16:=by have h9:(cX T.av T.aQ T.within T.cap).2=0:=hV 9 (by omega);unfold cX at h9;grind
 have Kx:∀r∈l,r.Ok∧r.calls.length≤32:=fun r hr=>by
  obtain⟨hd,i,k,x,cs,hx,er,Jk,hki⟩:=C7 hV (hk r hr);obtain⟨m1,m2,m3⟩:=Ky hV hx;have WR:=(ry _).1 hd;have I7:=(IN.1 hx).1;have ht:=hT.aj;have ob:=instI_len T.bm (by have:=hT.bm;omega) i;have YY:=jq.aj.2 x (amq hx);have e5:r.calls=cs.map (B2 (jM r.day)):=congrArg aX.calls er;have hlen:r.calls.length≤32:=by rw[e5,By];exact Jk.most
  obtain⟨_,s0,s1⟩:=Me hd;refine⟨⟨?_,(eY _).2 (by omega),?_,?_,?_,by omega,fun c hc=>?_⟩,hlen⟩
  ·rw[show r.aZ=i from congrArg aX.aZ er];exact(eY _).2 (by omega)
  ·rw[show r.inst=k from congrArg aX.inst er];exact(eY _).2 (by omega)
  ·rw[show r.id=x.id from congrArg aX.id er];exact YY.id
  ·rw[show r.aY=x.aY from congrArg aX.aY er];exact(eY _).2 (by omega)
  ·rw[e5]at hc;obtain⟨y,hy,rfl⟩:=anG.1 hc;obtain⟨j,hj⟩:=anI.1 hy;have hyc:=Jk.call j y hj;have w1:(B2 (jM r.day) y).arr=y.arr+jM r.day:=bp (by omega) (by omega);have w2:(B2 (jM r.day) y).dep=y.dep+jM r.day:=bp (by omega) (by omega);exact⟨(eY _).2 (by show _≤y.stop∧y.stop≤_;omega),(eY _).2 (by omega),(eY _).2 (by omega)⟩
 have afR:∀x∈ba T l l.length,x.Ok:=fun x hx=>by obtain⟨a,b,r,q,i,j,c,d,xa,xb,_,la,lb,_,xi,xj,rc,qd,_⟩:=(Tr hV hk hx).ends;have YZ:=(IN.1 la).1;have SB:=(IN.1 lb).1;have hi1:=(IN.1 rc).1;have hj1:=(IN.1 qd).1;have h1:=(Kx r (amq la)).2;have h2:=(Kx q (amq lb)).2;exact⟨(eY _).2 (by omega),(eY _).2 (by omega),(eY _).2 (by omega),(eY _).2 (by omega)⟩
 have Hg:=C8 T.paths T.stops.length pU;have afS:∀p∈dm T.paths T.stops.length,p.Ok:=fun p hp=>by have:=xH hs p hp;exact⟨(eY _).2 (by omega),(eY _).2 (by omega),(eY _).2 (by omega)⟩
 refine⟨⟨jq.stops,jq.ae,⟨by show l.length≤_;omega,fun r hr=>(Kx r hr).1⟩,⟨by show(ba T l l.length).length≤_;omega,afR⟩,⟨by show(dm T.paths T.stops.length).length≤_;omega,afS⟩,jq.av,jq.aQ,jq.within,jq.cap⟩,⟨by show T.stops.length≤_;omega,by show T.ae.length≤_;omega,by show l.length≤_;omega,by show(ba T l l.length).length≤_;omega,by show(dm T.paths T.stops.length).length≤_;omega,by show T.av.length≤_;omega,fun r hr=>by have:=(Kx r hr).2;omega⟩⟩
end
theorem OL{T:ao}{a b:Int}(ha:rz a=true)(hb:rz b=true){n:Nat}(hn:a+n≤b+1):Mf T (bU T a n)=if(ba T (bU T a n) (bU T a n).length).length>1024 then tI [] 5 else tI (ba T (bU T a n) (bU T a n).length) 0:=by grind [Mf,Rq]
theorem OM(T:ao)(hT:vA T)(jq:T.Ok)(a b:Int):∃l e,ml [T.pv,.int .i64 a,.int .i64 b]=some (Mg l e)∧(e=0→dE T∧rz a=true∧rz b=true∧a≤b∧b-a<8∧l=bU T a (b-a+1).toNat∧l.length≤1024)∧(e≠0→l=[]):=by
 obtain⟨p,i,e,hw,hv⟩:=Fl T;have hp:=HX T jq hT.small;rw[hw]at hp;simp only[ml,uU,Y0,Y1,Y2,Y3,Y4,Y5,Y6,Y7,Y8,Y9,Za,HY,HZ,H3,ak,asInt,IS,U,ttE,hp,vC,cz,alx,anx,Nat.reduceAdd,aki,amr,gd,uV,asBool,aT];by_cases he:e=0
 ·subst he;simp only[anR,ag0,tc,PS];by_cases hd:(!rz a|| !rz b||decide (b<a))=true
  ·simp only[hd,IS];exact⟨[],11,rfl,(fun h=>by omega),fun _=>rfl⟩
  ·simp only[hd,PS];simp only[anH,anT,te,ap8,Bool.not_eq_false]at hd;obtain⟨⟨ha,hb⟩,tt⟩:=hd;have hda:=(ry a).1 ha;have hdb:=(ry b).1 hb;rw[bp (show-9223372036854775808≤b-a by omega) (by omega)];by_cases h8:b-a≥8
   ·simp only[h8,anR,IS];exact⟨[],5,rfl,(fun h=>by omega),fun _=>rfl⟩
   ·obtain⟨n,hn⟩:∃n:Nat,(b-a+1).toNat=n:=⟨_,rfl⟩;have hdp:=VG T hT jq a n hda.1 (by omega) b (by omega);simp only[h8,anJ,tc,PS,hdp,U];obtain⟨m,e,hme,hm,hm0⟩:=VH (bU T a n);rw[hme];refine⟨m,e,?_,fun h=>?_,hm0⟩
    ·rfl
    simp_all
 ·simp only[he,anJ,anM,IS];exact⟨[],e,rfl,(fun h=>absurd h he),fun _=>rfl⟩
theorem OJ(T:ao)(hT:vA T)(jq:T.Ok)(a b:Int):∃(e:Int)(N:ay),gD [T.pv,.int .i64 a,.int .i64 b]=some (.aV [if e=0 then N.pv else noN,.int .i64 e])∧(e=0→N.Ok∧ade N∧dZ N=(0,0,0)∧N.paths.length≤8192∧N.runs.length≤1024∧N.ar.length≤1024∧∀r∈N.runs,r.calls.length≤40):=by
 obtain⟨p,i,e0,hw,hv⟩:=Fl T;have Vc:=HX T jq hT.small;rw[hw]at Vc;obtain⟨l,e,h1,h3,h4⟩:=OM T hT jq a b;have hN:gD [T.pv,.int .i64 a,.int .i64 b]=some (if e0≠0 then .aV [noN,.int .i64 e0]else if e≠0 then .aV [noN,.int .i64 e]else if(ba T l l.length).length>1024 then .aV [noN,.int .i64 5]else .aV [(xG T l).pv,.int .i64 0]):=by
  simp only[gD,vD,Y0,Y1,Y2,Y3,Y4,Y5,Y6,Y7,Y8,Y9,Za,HY,HZ,H3,bAS,bAI,U,ttE,Vc,vC,bt3,aki,amr,h1,Mg,bt2];by_cases z0:e0=0
  ·rw[IT (show¬(e0 !=0)=true by simp[z0]),IT (show¬e0≠0 by omega)];by_cases z1:e=0
   ·obtain⟨hV,ha,hb,tt,bK,hl,VI⟩:=h3 z1;rw[IT (show¬(e !=0)=true by simp[z1]),IT (show¬e≠0 by omega)];have afT:∀r∈l,r.calls.length≤40:=fun r hr=>by grind [zm]
    have hn:a+((b-a+1).toNat:Int)≤b+1:=by omega
    have hk:∀r∈l,fh T r=true:=fun r hr=>by grind [B3]
    have hlp:=Rr T hT jq l VI afT p i e0 Vc;rw[BY z0]at hlp;have hlr:=OL (T:=T) ha hb hn;rw[←hl]at hlr;rw[hlp,hlr];by_cases vE:(ba T l l.length).length>1024
    ·rw[BY vE,BY vE];rfl
    ·rw[IT vE,IT vE];obtain⟨bo,bf⟩:=OK hV jq hT hk VI (by omega);simp only[tI,bt2,U,aki,amr,bAS,bAI,By,(Rp hV jq),show((0:Int) !=0)=false from rfl,tc,PS];have qB:=B1 _ bf;have pQ:(xG T l).pv=.agg [.rs 4 (T.stops.map Stop.pv),.rs 3 (T.ae.map az.pv),.rs 8 (l.map aX.pv),.rs 5 ((ba T l l.length).map aD.pv),.rs 4 ((dm T.paths T.stops.length).map Path.pv),.rs 6 (T.av.map aS.pv),.int .i64 T.aQ,.int .i64 T.within,.int .i64 T.cap]:=rfl;rw[←pQ,qB];rfl
   ·rw[BY (show(e !=0)=true by simpa using z1),BY (show e≠0 from z1)];rfl
  ·rw[BY (show(e0 !=0)=true by simpa using z0),BY (show e0≠0 from z0)];rfl
 have hee:e0≠0→e=e0:=fun z0=>by simp only[ml,uU,Y0,Y1,Y2,Y3,Y4,Y5,Y6,Y7,Y8,Y9,Za,HY,HZ,H3,bAS,bAI,U,ttE,Vc,vC,bt3,aki,amr]at h1;rw[BY (show(e0 !=0)=true by simpa using z0)]at h1;simp only[Mg,tb,PV.aV.injEq,aon,PV.int.injEq,true_and,aqX]at h1;omega
 by_cases z1:e=0
 ·obtain⟨hV,ha,hb,tt,bK,hl,VI⟩:=h3 z1;have z0:e0=0:=aqd fun z0=>z0 (by have:=hee z0;omega);rw[IT (show¬e0≠0 by omega),IT (show¬e≠0 by omega)]at hN;have afT:∀r∈l,r.calls.length≤40:=fun r hr=>by grind [zm]
  have hn:a+((b-a+1).toNat:Int)≤b+1:=by omega
  have hk:∀r∈l,fh T r=true:=fun r hr=>by grind [B3]
  have ahZ:l.Pairwise fun r s=>r.key≠s.key:=by rw[hl];exact Bj T a _
  by_cases vE:(ba T l l.length).length>1024
  ·rw[BY vE]at hN;exact⟨5,xG T [],by rw[IT (by omega)];exact hN,fun h=>by omega⟩
  ·rw[IT vE]at hN;obtain⟨bo,bf⟩:=OK hV jq hT hk VI (by omega);have Hg:=C8 T.paths T.stops.length (zl hV).1;exact⟨0,xG T l,by rw[BY rfl];exact hN,fun _=>⟨bo,bf,VJ hV hk ahZ VI (by omega),by show(dm T.paths T.stops.length).length≤_;omega,VI,by show(ba T l l.length).length≤_;omega,afT⟩⟩
 ·refine⟨e,xG T [],?_,fun h=>absurd h z1⟩;rw[IT z1,hN];by_cases z0:e0=0
  ·rw[IT (show¬e0≠0 by omega),BY (show e≠0 from z1)]
  ·rw[BY (show e0≠0 from z0),hee z0]
end Go.Ab.Tt
