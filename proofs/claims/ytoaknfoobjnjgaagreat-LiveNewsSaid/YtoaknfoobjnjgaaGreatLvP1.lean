import Derived.Test.YtoaknfoobjnjgaaGreatNbP1
import Derived.Test.YtoaknfoobjnjgaaGreatNkP2
namespace Go.Ab.Tt
set_option maxRecDepth 100000
set_option maxHeartbeats 4000000
set_option linter.all false
theorem bAI(n:Int):Ab.asInt .i64 (.int .i64 n)=some n:=rfl
theorem Sy(z:Nat)(es:List PV):ah z (.rs z es)=some es:=by simp[ah]
theorem bt2(a b:PV):bN 2 (.aI [a,b])=some [a,b]:=rfl
theorem bt3(a b c:PV):bN 3 (.aI [a,b,c])=some [a,b,c]:=rfl
structure PE(N:aW):Prop where
 stops:N.stops.length≤10000
 ao:N.ao.length≤10000
 runs:N.runs.length≤10000
 br:N.br.length≤10000
 paths:N.paths.length≤10000
 aP:N.aP.length≤10000
 calls:∀r∈N.runs,r.calls.length≤10000
theorem DD(N:aW)(h:PE N):eh [N.pv]=some N.pv:=by
 simp only[eh,xf,KO,KP,KQ,KS,KT,KU,KV,KW,KX,KY,U,Sz _ (show(N.stops.map Stop.pv).length≤10000 by rw[te];exact h.stops),PF _ (show(N.ao.map aQ.pv).length≤10000 by rw[te];exact h.ao),Xn _ (show(N.runs.map bg.pv).length≤10000 by rw[te];exact h.runs),SA _ (show(N.br.map aR.pv).length≤10000 by rw[te];exact h.br),JC _ (show(N.paths.map Path.pv).length≤10000 by rw[te];exact h.paths),Sy,te];have hr:=h.runs;refine aM (fun k=>((N.runs.length:Int),(k:Int),N.stops.map Stop.pv,N.ao.map aQ.pv,N.runs.map bg.pv,N.br.map aR.pv,N.paths.map Path.pv,N.aP.map bp.pv,N.bE,N.within,N.cap,0,0,0,N.aP.map bp.pv,N.bE,N.within,N.cap,N.stops.map Stop.pv,N.ao.map aQ.pv,mix bg.TO bg.pv N.runs k,N.br.map aR.pv,N.paths.map Path.pv,())) N.runs.length (fun k hk rec=>?_) (fun rec=>?_) (by unfold rounds;omega) (by rfl)
 ·unfold qI;dsimp only;have hc:=h.calls _ (an7 hk);have e7:ah 5 (cell N.runs[k].pv 7)=some (N.runs[k].calls.map aJ.pv):=rfl;have sx:(mix bg.TO bg.pv N.runs k).set k (bg.TO N.runs[k])=mix bg.TO bg.pv N.runs (k+1):=adZ _ _ _ _ hk;have e8:(if 8=1 then PV.qg 5 (N.runs[k].calls.map aJ.pv)else PV.agg (cell N.runs[k].pv 0::cell N.runs[k].pv 1::cell N.runs[k].pv 2::cell N.runs[k].pv 3::cell N.runs[k].pv 4::cell N.runs[k].pv 5::cell N.runs[k].pv 6::PV.qg 5 (N.runs[k].calls.map aJ.pv)::over [] []))=bg.TO N.runs[k]:=rfl;rw[No (by simp;omega),No (aap _ _ _ _ hk)];simp only[an9,ad0 _ _ _ _ hk,U,e7,SB _ (show(N.runs[k].calls.map aJ.pv).length≤10000 by simp_all),Sy,No (aap bg.TO bg.pv _ _ hk),e8,sx,ag (show k<9223372036854775807 by omega)]
 ·unfold qI;dsimp only;rw[QU (by simp)];simp only[KZ _ (show(N.aP.map bp.pv).length≤10000 by rw[te];exact h.aP),U,Sy,ad1,SC];rfl
section
variable {T:aj}
theorem Be(hV:cz T):T.stops.length≤64∧Sound T.paths T.stops.length∧(lA T.paths T.stops.length).2=0∧T.paths.length≤512:=by have h0:(jC T.stops).2=0:=hV 0 (by omega);have h8:(lA T.paths T.stops.length).2=0:=hV 8 (by omega);grind [L5,lA,JD]
theorem PG{l:List Path}{n:Nat}(hn:n≤64)(hl:l.length≤4096)(h:Sound l n):jO [.rs 4 (l.map Path.pv),.int .i64 n]=some (.rs 4 ((dS l n).map Path.pv)):=by have:=Nw.SD (l.map toFp) n hn (by simp_all) (fun p hp=>by obtain⟨q,hq,rfl⟩:=aoi.1 hp;have:=h q hq;simp only[toFp];omega);rw[PH h,←Nw.F6,DE _ (Nw.JE n _ _)]at this;exact this
theorem JF(hV:cz T)(gg:T.Ok):lB [.rs 4 (T.paths.map Path.pv),.int .i64 (T.stops.length:Int)]=some (.aI [.rs 4 ((dS T.paths T.stops.length).map Path.pv),.int .i64 0])∧q7 [.rs 4 (T.paths.map Path.pv),.int .i64 (T.stops.length:Int)]=some (.aI [.rs 4 ((dS T.paths T.stops.length).map Path.pv),.int .i64 0]):=by
 obtain⟨kH,hs,h8,anX⟩:=Be hV;have hmx:maxLen=9223372036854775807:=rfl;have hp:=L6 T.paths T.stops.length (by omega);have hr:=PI T.paths T.stops.length (by omega);have ai5:∀a b:Int,bN 2 (res a b)=some [.int .i64 a,.int .i64 b]:=fun a b=>rfl;constructor
 ·simp only[lB,uK,Sy,bAI,U];rw[QU (by simp;omega),hp];simp only[U,ai5,aev,ali,bAI,h8];rw[QU (by simp),QU (show¬(0:Int)>(T.stops.length:Int) by omega),L7 kH (by omega) hs];rfl
 ·simp only[q7,Bf,Sy,bAI,U];rw[QU (by simp;omega),hr];simp only[U,ai5,aev,ali,bAI,h8];rw[QU (by simp),PG kH (by omega) hs];rfl
end
def noN:PV:=.agg [.rs 0 [],.rs 0 [],.rs 0 [],.rs 0 [],.rs 0 [],.rs 0 [],.int .i64 0,.int .i64 0,.int .i64 0]
section
variable {T:aj}
theorem PJ(hV:cz T)(gg:T.Ok)(hT:ot T){l:List bg}(hk:∀r∈l,cN T r=true)(hl:l.length≤1024)(hn:(aN T l l.length).length≤1024):(xg T l).Ok∧PE (xg T l):=by
 have hmx:maxLen=9223372036854775807:=rfl;obtain⟨kH,hs,_,_⟩:=Be hV;have al1:T.ao.length≤64:=by have h1:(gQ T.ao).2=0:=hV 1 (by omega);grind [gQ]
 have amO:T.aP.length≤16:=by have h9:(kn T.aP T.bE T.within T.cap).2=0:=hV 9 (by omega);unfold kn at h9;grind
 have Ux:∀r∈l,r.Ok∧r.calls.length≤32:=fun r hr=>by
  obtain⟨hd,i,k,x,cs,hx,er,M7,hki⟩:=ER hV (hk r hr);obtain⟨m1,m2,m3⟩:=L8 hV hx;have hd':=(rR _).1 hd;have I0:=(IN.1 hx).1;have ht:=hT.ae;have k8:=instI_len T.aU (by have:=hT.aU;omega) i;have SE:=gg.ae.2 x (an4 hx);have e5:r.calls=cs.map (yC (fP r.day)):=congrArg bg.calls er;have hlen:r.calls.length≤32:=by rw[e5,te];exact M7.most
  obtain⟨_,s0,s1⟩:=HZ hd;refine⟨⟨?_,(dU _).2 (by omega),?_,?_,?_,by omega,fun c hc=>?_⟩,hlen⟩
  ·rw[show r.bn=i from congrArg bg.bn er];exact(dU _).2 (by omega)
  ·rw[show r.inst=k from congrArg bg.inst er];exact(dU _).2 (by omega)
  ·rw[show r.id=x.id from congrArg bg.id er];exact SE.id
  ·rw[show r.bX=x.bX from congrArg bg.bX er];exact(dU _).2 (by omega)
  ·rw[e5]at hc;obtain⟨y,hy,rfl⟩:=aoi.1 hc;obtain⟨j,hj⟩:=aoh.1 hy;have hyc:=M7.call j y hj;have w1:(yC (fP r.day) y).arr=y.arr+fP r.day:=aY (by omega) (by omega);have w2:(yC (fP r.day) y).dep=y.dep+fP r.day:=aY (by omega) (by omega);exact⟨(dU _).2 (by show _≤y.stop∧y.stop≤_;omega),(dU _).2 (by omega),(dU _).2 (by omega)⟩
 have agk:∀x∈aN T l l.length,x.Ok:=fun x hx=>by obtain⟨a,b,r,q,i,j,c,d,xa,xb,_,la,lb,_,xi,xj,rc,qd,_⟩:=(Uy hV hk hx).ends;have ha1:=(IN.1 la).1;have Rb:=(IN.1 lb).1;have hi1:=(IN.1 rc).1;have hj1:=(IN.1 qd).1;have h1:=(Ux r (an4 la)).2;have h2:=(Ux q (an4 lb)).2;exact⟨(dU _).2 (by omega),(dU _).2 (by omega),(dU _).2 (by omega),(dU _).2 (by omega)⟩
 have I9:=JG T.paths T.stops.length kH;have agl:∀p∈dS T.paths T.stops.length,p.Ok:=fun p hp=>by have:=zl hs p hp;exact⟨(dU _).2 (by omega),(dU _).2 (by omega),(dU _).2 (by omega)⟩
 refine⟨⟨gg.stops,gg.ao,⟨by show l.length≤_;omega,fun r hr=>(Ux r hr).1⟩,⟨by show(aN T l l.length).length≤_;omega,agk⟩,⟨by show(dS T.paths T.stops.length).length≤_;omega,agl⟩,gg.aP,gg.bE,gg.within,gg.cap⟩,⟨by show T.stops.length≤_;omega,by show T.ao.length≤_;omega,by show l.length≤_;omega,by show(aN T l l.length).length≤_;omega,by show(dS T.paths T.stops.length).length≤_;omega,by show T.aP.length≤_;omega,fun r hr=>by have:=(Ux r hr).2;omega⟩⟩
end
theorem Hh{T:aj}{a b:Int}(ha:lC a=true)(hb:lC b=true){n:Nat}(hn:a+n≤b+1):F7 T (bx T a n)=if(aN T (bx T a n) (bx T a n).length).length>1024 then im [] 5 else im (aN T (bx T a n) (bx T a n).length) 0:=by grind [F7,SF]
theorem SG(T:aj)(hT:ot T)(gg:T.Ok)(a b:Int):∃(e:Int)(N:aW),jP [T.pv,.int .i64 a,.int .i64 b]=some (.aI [if e=0 then N.pv else noN,.int .i64 e])∧jV [T.pv,.int .i64 a,.int .i64 b]=some (.aI [if e=0 then N.pv else noN,.int .i64 e])∧(e=0→N.Ok∧PE N∧zm N=(0,0,0)∧N.paths.length≤8192∧N.runs.length≤1024∧N.br.length≤1024∧∀r∈N.runs,r.calls.length≤40):=by
 obtain⟨p,i,e0,hw,hv⟩:=Hi T;have R0:=JH T gg hT.small;have W6:=L9 T gg hT.small;rw[hw]at R0 W6;obtain⟨l,e,h1,h2,h3,h4⟩:=PK T hT gg a b;have hN:jP [T.pv,.int .i64 a,.int .i64 b]=some (if e0≠0 then .aI [noN,.int .i64 e0]else if e≠0 then .aI [noN,.int .i64 e]else if(aN T l l.length).length>1024 then .aI [noN,.int .i64 5]else .aI [(xg T l).pv,.int .i64 0]):=by
  simp only[jP,xh,NC,ND,NF,NG,NH,NI,NJ,NK,NL,NM,NN,zn,zo,zp,Sy,bAI,U,Ri,R0,oX,bt3,aev,ali,h1,F8,bt2];by_cases z0:e0=0
  ·rw[QU (show¬(e0 !=0)=true by simp[z0]),QU (show¬e0≠0 by omega)];by_cases z1:e=0
   ·obtain⟨hV,ha,hb,sn,bF,hl,PL⟩:=h3 z1;rw[QU (show¬(e !=0)=true by simp[z1]),QU (show¬e≠0 by omega)];have aaq:∀r∈l,r.calls.length≤40:=fun r hr=>by grind [uL]
    have hn:a+((b-a+1).toNat:Int)≤b+1:=by omega
    have hk:∀r∈l,cN T r=true:=fun r hr=>by grind [DF]
    have hlp:=SH T hT gg l PL aaq p i e0 R0;rw[No z0]at hlp;have hlr:=Hh (T:=T) ha hb hn;rw[←hl]at hlr;rw[hlp,hlr];by_cases HH:(aN T l l.length).length>1024
    ·rw[No HH,No HH];rfl
    ·rw[QU HH,QU HH];obtain⟨bo,bf⟩:=PJ hV gg hT hk PL (by omega);simp only[im,bt2,U,aev,ali,Sy,bAI,te,(JF hV gg).1,show((0:Int) !=0)=false from rfl,AI,OF];have qn:=DD _ bf;have ow:(xg T l).pv=.agg [.rs 4 (T.stops.map Stop.pv),.rs 3 (T.ao.map aQ.pv),.rs 8 (l.map bg.pv),.rs 5 ((aN T l l.length).map aR.pv),.rs 4 ((dS T.paths T.stops.length).map Path.pv),.rs 6 (T.aP.map bp.pv),.int .i64 T.bE,.int .i64 T.within,.int .i64 T.cap]:=rfl;rw[←ow,qn];rfl
   ·rw[No (show(e !=0)=true by simpa using z1),No (show e≠0 from z1)];rfl
  ·rw[No (show(e0 !=0)=true by simpa using z0),No (show e0≠0 from z0)];rfl
 have hee:e0≠0→e=e0:=fun z0=>by simp only[my,wb,NC,ND,NF,NG,NH,NI,NJ,NK,NL,NM,NN,zn,zo,zp,Sy,bAI,U,Ri,R0,oX,bt3,aev,ali]at h1;rw[No (show(e0 !=0)=true by simpa using z0)]at h1;simp only[F8,tb,PV.aI.injEq,ao6,PV.int.injEq,true_and,ark]at h1;omega
 have hB:jV [T.pv,.int .i64 a,.int .i64 b]=some (if e≠0 then .aI [noN,.int .i64 e]else if(aN T l l.length).length>1024 then .aI [noN,.int .i64 5]else .aI [(xg T l).pv,.int .i64 0]):=by
  simp only[jV,Bg,NC,ND,NF,NG,NH,NI,NJ,NK,NL,NM,NN,zn,zo,zp,Sy,bAI,U,Ri,h2,F8,bt2,aev,ali];by_cases z1:e=0
  ·obtain⟨hV,ha,hb,sn,bF,hl,PL⟩:=h3 z1;have z0:e0=0:=ao1 fun z0=>z0 (by have:=hee z0;omega);rw[QU (show¬(e !=0)=true by simp[z1]),QU (show¬e≠0 by omega)];have aaq:∀r∈l,r.calls.length≤40:=fun r hr=>by grind [uL]
   have hn:a+((b-a+1).toNat:Int)≤b+1:=by omega
   have ai6:=Xo T hT gg l PL aaq p i e0 W6 hv;rw[No z0]at ai6;have hlr:=Hh (T:=T) ha hb hn;rw[←hl]at hlr;rw[ai6,hlr];by_cases HH:(aN T l l.length).length>1024
   ·rw[No HH,No HH];rfl
   ·rw[QU HH,QU HH];simp only[im,bt2,U,aev,ali,Sy,bAI,te,(JF hV gg).2,show((0:Int) !=0)=false from rfl,AI,OF];rfl
  ·rw[No (show(e !=0)=true by simpa using z1),No (show e≠0 from z1)];rfl
 by_cases z1:e=0
 ·obtain⟨hV,ha,hb,sn,bF,hl,PL⟩:=h3 z1;have z0:e0=0:=ao1 fun z0=>z0 (by have:=hee z0;omega);rw[QU (show¬e0≠0 by omega),QU (show¬e≠0 by omega)]at hN;rw[QU (show¬e≠0 by omega)]at hB;have aaq:∀r∈l,r.calls.length≤40:=fun r hr=>by grind [uL]
  have hn:a+((b-a+1).toNat:Int)≤b+1:=by omega
  have hk:∀r∈l,cN T r=true:=fun r hr=>by grind [DF]
  have ai7:l.Pairwise fun r s=>r.key≠s.key:=by rw[hl];exact Da T a _
  by_cases HH:(aN T l l.length).length>1024
  ·rw[No HH]at hN hB;exact⟨5,xg T [],by rw[QU (by omega)];exact hN,by rw[QU (by omega)];exact hB,fun h=>by omega⟩
  ·rw[QU HH]at hN hB;obtain⟨bo,bf⟩:=PJ hV gg hT hk PL (by omega);have I9:=JG T.paths T.stops.length (Be hV).1;exact⟨0,xg T l,by rw[No rfl];exact hN,by rw[No rfl];exact hB,fun _=>⟨bo,bf,Xp hV hk ai7 PL (by omega),by show(dS T.paths T.stops.length).length≤_;omega,PL,by show(aN T l l.length).length≤_;omega,aaq⟩⟩
 ·rw[No (show e≠0 from z1)]at hB;refine⟨e,xg T [],?_,by rw[QU z1];exact hB,fun h=>absurd h z1⟩;rw[QU z1,hN];by_cases z0:e0=0
  ·rw[QU (show¬e0≠0 by omega),No (show e≠0 from z1)]
  ·rw[No (show e0≠0 from z0),hee z0]
theorem vQ(a b:List aJ)(ha:a.length≤maxLen):eR [.rs 5 (a.map aJ.pv),.rs 5 (b.map aJ.pv)]=some (.bool (decide (a=b))):=by
 have hm:=ar;simp only[eR,jD,ah,BY,U,te];by_cases h:a.length=b.length
 ·rw[QU (by rw[we];simp[h])];refine(aB (fun k=>(a.map aJ.pv,b.map aJ.pv,(a.length:Int),(k:Int),())) a.length (fun k=>if a[k]?=b[k]? then none else some (some (PV.bool false))) (fun k hk rec=>?_) (fin:=some (PV.bool true)) (fun rec=>?_) (by have:=aF;omega) rfl).trans ?_
  ·have h1:decide ((k:Int)<(a.length:Int))=true:=by simp;omega
   have qo:k<b.length:=by omega
   unfold gB;dsimp only;try rw[te]
   rw[No h1,af,af,AT,AT,ta hk,ta qo];simp only[IS,U];rw[No ⟨rfl,rfl⟩,aJ.peq,ag (by omega)];by_cases he:a[k]=b[k]
   ·simp[he,bC]
   ·simp[he,bC]
  ·unfold gB;dsimp only;rw[QU (by simp)]
  ·exact(tG a b h (some (PV.bool false)) (some (PV.bool true))).trans NO
 ·rw[No (by rw[we];simp[h])];have:a≠b:=fun e=>h (by rw[e]);simp[this]
def CN(A B:aW)(k:Nat):Bool:=decide (A.runs[k]?≠B.runs[k]?)
def ES(A B:aW)(n:Nat):List Nat:=(List.range n).filter (CN A B)
theorem Ma(A B:aW)(k:Nat):ES A B (k+1)=if CN A B k=true then ES A B k++[k]else ES A B k:=by unfold ES;rw[aoQ,List.filter_append];by_cases h:CN A B k=true<;>simp[h]
theorem PM(A B:aW)(k:Nat):(ES A B k).length≤k:=by unfold ES;exact aov (apV _ _) (by simp)
def qq(k:Nat):PV:=.int .i64 k
def mx(A B:aW):Nat:=max A.runs.length B.runs.length
theorem Xq(x y:bg)(hx:x.calls.length≤maxLen):oY [x.pv,y.pv]=some (.bool (decide (x=y))):=by have hc:=vQ x.calls y.calls hx;simp only[oY,zq,SI,ET,EU,NP,SJ,SK,Xr,Xs,EV,U];simp only[asInt,aZ,asBool,ah,BY,U,hc,bI,aT,cZ,fb,Uz];generalize decide (x.bn=y.bn)=a1;generalize decide (x.day=y.day)=a2;generalize decide (x.inst=y.inst)=a3;generalize decide (x.id=y.id)=a4;generalize decide (x.bX=y.bX)=a5;generalize decide (x.Bh=y.Bh)=a7;generalize decide (x.calls=y.calls)=a8;generalize decide (x.free=y.free)=a6;cases a1<;>cases a2<;>cases a3<;>cases a4<;>rfl
theorem UA(er:List PV)(h:er.length≤3000)(x:PV):(er++[x]).length*8≤ab∧0<8:=by
 refine⟨?_,by decide⟩;rw[aob,aqh];have:30000≤ab:=by decide
 omega
theorem NQ(A B:aW)(hA:A.runs.length≤3000∧∀x∈A.runs,x.calls.length≤maxLen)(hB:B.runs.length≤3000):gR [A.pv,B.pv]=some (.rs 1 ((ES A B (mx A B)).map qq)):=by
 have hrn:3003<rounds:=by decide
 simp only[gR,sC,KO,KP,KQ,KS,KT,KU,KV,KW,KX,KY,U,te];refine aM (fun k=>(((mx A B:Nat):Int),(k:Int),A.stops.map Stop.pv,A.ao.map aQ.pv,A.runs.map bg.pv,A.br.map aR.pv,A.paths.map Path.pv,A.aP.map bp.pv,A.bE,A.within,A.cap,B.stops.map Stop.pv,B.ao.map aQ.pv,B.runs.map bg.pv,B.br.map aR.pv,B.paths.map Path.pv,B.aP.map bp.pv,B.bE,B.within,B.cap,(ES A B k).map qq,())) (mx A B) (fun k hk rec=>?_) (fun rec=>?_) (by unfold mx;omega) ?_
 ·have hl:=PM A B k;have hm:k<3000:=by unfold mx at hk;omega
  have bw:((ES A B k).map qq++[PV.int .i64 (k:Int)]).length*8≤ab∧0<8:=UA _ (by simp;omega) _;have bU:∀x:bg,PV.agg [cell x.pv 0,cell x.pv 1,cell x.pv 2,cell x.pv 3,cell x.pv 4,cell x.pv 5,cell x.pv 6,cell x.pv 7]=x.pv:=aar;unfold nq;dsimp only;rw[No (by rw[tc];omega)];simp only[te,aT,af,AT,ag (show k<9223372036854775807 by omega),Ma];by_cases ha:k<A.runs.length
  ·by_cases hb:k<B.runs.length
   ·have hs:=Xq A.runs[k] B.runs[k] (hA.2 _ (an7 ha));rw[show(decide ((k:Int)≥(A.runs.length:Int))||decide ((k:Int)≥(B.runs.length:Int)))=false by rw[aph (by omega),aph (by omega)];rfl];simp only[U,cond_false,ta ha,ta hb,IS,aar,hs,asBool];have hd:CN A B k= !decide (A.runs[k]=B.runs[k]):=by unfold CN;rw[ta ha,ta hb];simp
    rw[hd];by_cases he:A.runs[k]=B.runs[k]
    ·simp[he]
    ·simp only[he,aoo,aoj,BY,No bw,aos];rfl
   ·have hd:CN A B k=true:=by unfold CN;rw[ta ha,aoY (by omega)];simp
    rw[show(decide ((k:Int)≥(A.runs.length:Int))||decide ((k:Int)≥(B.runs.length:Int)))=true by rw[apf (show(k:Int)≥(B.runs.length:Int) by omega)];simp,hd];simp only[U,cond_true,BY,No bw,aos];rfl
  ·have hd:CN A B k=true:=by
    unfold CN;have hb:k<B.runs.length:=by unfold mx at hk;omega
    rw[ta hb,aoY (by omega)];simp
   rw[show(decide ((k:Int)≥(A.runs.length:Int))||decide ((k:Int)≥(B.runs.length:Int)))=true by rw[apf (show(k:Int)≥(A.runs.length:Int) by omega)];simp,hd];simp only[U,cond_true,BY,No bw,aos];rfl
 ·unfold nq;dsimp only;rw[QU (by simp)]
 ·have:(if(B.runs.length:Int)>(A.runs.length:Int)then(B.runs.length:Int)else(A.runs.length:Int))=((mx A B:Nat):Int):=by unfold mx;split<;>omega
  rw[this];rfl
theorem aas(l:List bg)(k:Nat)(h:k<l.length):List.drop k (List.take (k+1) (l.map bg.pv))=[l[k]].map bg.pv:=by rw[←aqq,←List.map_drop,aom h,List.drop_append_of_le_length (by simp;omega),aqS (by simp;omega)];rfl
theorem PN(A B:aW)(hA:A.runs.length≤3000∧∀x∈A.runs,x.calls.length≤maxLen)(hB:B.runs.length≤3000):gG [A.pv,B.pv]=some (.rs 1 ((ES A B (mx A B)).map qq)):=by
 have hrn:3003<rounds:=by decide
 have Pv:3000≤maxLen:=by decide
 simp only[gG,xl,KO,KP,KQ,KS,KT,KU,KV,KW,KX,KY,U];refine aM (fun k=>((k:Int),A.stops.map Stop.pv,A.ao.map aQ.pv,A.runs.map bg.pv,A.br.map aR.pv,A.paths.map Path.pv,A.aP.map bp.pv,A.bE,A.within,A.cap,B.stops.map Stop.pv,B.ao.map aQ.pv,B.runs.map bg.pv,B.br.map aR.pv,B.paths.map Path.pv,B.aP.map bp.pv,B.bE,B.within,B.cap,(ES A B k).map qq,())) (mx A B) (fun k hk rec=>?_) (fun rec=>?_) (by unfold mx;omega) rfl
 ·have hl:=PM A B k;have hm:k<3000:=by unfold mx at hk;omega
  have hwk:IntKind.i64.wrap ((k:Int)+1)=((k+1:Nat):Int):=ag (by omega);have bw:((ES A B k).map qq++[PV.int .i64 (k:Int)]).length*8≤ab∧0<8:=UA _ (by simp;omega) _;have Rc:(decide ((k:Int)<(A.runs.length:Int))||decide ((k:Int)<(B.runs.length:Int)))=true:=by
   unfold mx at hk;by_cases ha:k<A.runs.length
   ·rw[apf (show(k:Int)<(A.runs.length:Int) by omega)];rfl
   ·rw[apf (show(k:Int)<(B.runs.length:Int) by omega)];simp
  unfold qJ;dsimp only;simp only[te,aT,U,Rc,BY,hwk,Ma];by_cases ha:k<A.runs.length
  ·by_cases hb:k<B.runs.length
   ·rw[show(decide ((k:Int)≥(A.runs.length:Int))||decide ((k:Int)≥(B.runs.length:Int)))=false by rw[aph (by omega),aph (by omega)];rfl];have hs:=rS [A.runs[k]] [B.runs[k]] (by simp;omega) (fun x hx=>by simp only[apg]at hx;subst hx;exact hA.2 _ (an7 ha));rw[No (show 0≤(k:Int)∧(k:Int)≤((k+1:Nat):Int)∧((k+1:Nat):Int)≤(A.runs.length:Int)∧True∧8≠0 by refine⟨by omega,by omega,by omega,trivial,by decide⟩),No (show 0≤(k:Int)∧(k:Int)≤((k+1:Nat):Int)∧((k+1:Nat):Int)≤(B.runs.length:Int)∧True∧8≠0 by refine⟨by omega,by omega,by omega,trivial,by decide⟩)];rw[an9,an9,aas _ _ ha,aas _ _ hb,hs];simp only[U,asBool,cond_false];have hd:CN A B k= !decide ([A.runs[k]]=[B.runs[k]]):=by unfold CN;rw[ta ha,ta hb];simp
    rw[hd];by_cases he:A.runs[k]=B.runs[k]
    ·simp[he]
    ·have bU:decide ([A.runs[k]]=[B.runs[k]])=false:=by simp[he]
     simp only[bU,aoj,BY,No bw,aos];rfl
   ·have hd:CN A B k=true:=by unfold CN;rw[ta ha,aoY (by omega)];simp
    rw[show(decide ((k:Int)≥(A.runs.length:Int))||decide ((k:Int)≥(B.runs.length:Int)))=true by rw[apf (show(k:Int)≥(B.runs.length:Int) by omega)];simp,hd];simp only[U,cond_true,BY,No bw,aos];rfl
  ·have hd:CN A B k=true:=by
    unfold CN;have hb:k<B.runs.length:=by unfold mx at hk;omega
    rw[ta hb,aoY (by omega)];simp
   rw[show(decide ((k:Int)≥(A.runs.length:Int))||decide ((k:Int)≥(B.runs.length:Int)))=true by rw[apf (show(k:Int)≥(A.runs.length:Int) by omega)];simp,hd];simp only[U,cond_true,BY,No bw,aos];rfl
 ·unfold qJ;dsimp only;have Rc:(decide (((mx A B:Nat):Int)<(A.runs.length:Int))||decide (((mx A B:Nat):Int)<(B.runs.length:Int)))=false:=by unfold mx;rw[aph (by omega),aph (by omega)];rfl
  simp only[te,aT,U,Rc,AI,OF]
theorem once{S R:Type}{body:S→(S→Option R)→Option R}{s:S}{r:Option R}(h:∀rec,body s rec=r):aV.run body s=r:=by show dH body (18446744073709551615+1) s=r;rw[dH,h]
theorem Cw{n:Nat}(h:n≤10000):n<rounds:=by
 have:10003<rounds:=by decide
 omega
theorem PO(N:aW):ES N N (mx N N)=[]:=by unfold ES CN;simp
theorem all_nil(N:aW)(h:N.Ok)(hf:PE N)(hp:N.paths.length≤8192)(hv:zm N=(0,0,0)):jW [N.pv,.rs 13 []]=some (.aI [N.pv,.rs 1 []]):=by have Ra:=SL N h hp;have qn:=DD N hf;simp only[jW,Bd,KO,KP,KQ,KS,KT,KU,KV,KW,KX,KY,U,agm,qn,Ra,hv,EW,bt3,aev,ali,bAI];rfl
theorem PQ(N:aW):rT [N.pv,.rs 13 []]=some (.aI [N.pv,.rs 1 []]):=by simp only[rT,F5,KO,KP,KQ,KS,KT,KU,KV,KW,KX,KY,U,agm]
def SM:PV:=.agg [.bool false,.int .i64 0,.bool false,.int .i64 0]
def SN:PV:=.agg [.int .i64 (-1),.int .i64 0]
def aat(s:Nat)(p:Int):PV:=.rp [.rs 4 (List.replicate s SM),.int .i64 p,.rs 13 []]
def Mb(N:aW)(s:Nat)(p:Int):PV:=.rp [aat s p,.int .i64 s,.rs 4 (N.stops.map Stop.pv),.rs 3 (N.ao.map aQ.pv),.rs 8 (N.runs.map bg.pv),.rs 5 (N.br.map aR.pv),.rs 4 (N.paths.map Path.pv),.rs 6 (N.aP.map bp.pv),.int .i64 N.bE,.int .i64 N.within,.int .i64 N.cap,.int .i64 0]
def UB(N:aW)(s:Nat)(p:Int):PV:=.agg [.rs 4 (N.stops.map Stop.pv),.rs 3 (N.ao.map aQ.pv),.rs 8 (N.runs.map bg.pv),.rs 5 (N.br.map aR.pv),.rs 4 (N.paths.map Path.pv),.rs 6 (N.aP.map bp.pv),.int .i64 N.bE,.int .i64 N.within,.int .i64 N.cap,.int .i64 p,.rs 2 (List.replicate s SN),.rs 0 [],.int .i64 0]
theorem bA0(z:Nat):ah z (.rs 0 [])=some []:=by simp[ah]
theorem bs{α β:Type}{o:Option α}{a:α}{f:α→Option β}(h:o=some a):o.bind f=f a:=by rw[h];rfl
theorem UC{R:Type}{n:Nat}{p:PV}{cs:List PV}{a:Option R}{b:PV→Option R}(hp:p=.rp cs)(hn:n≤cs.length):dp n p a b=b (.agg cs):=by subst hp;show(if n≤cs.length then b (.agg cs)else none)=_;rw[No hn]
theorem PR{α:Type}{c:Bool}{a b:α}(h:c=true):(bif c then a else b)=a:=by rw[h];rfl
theorem SO(s:Nat)(p:Int):fe [aat s p,.int .i64 0]=some (.rs 13 []):=by
 unfold fe nr;refine(UC rfl (by exact aoa _)).trans ?_;iterate 4 refine(bs rfl).trans ?_
 refine once fun rec=>?_;unfold qt;dsimp only;rw[QU (by simp)];refine once fun rec=>?_;unfold qu;dsimp only;rw[QU (by simp)]
theorem JI(s:Nat)(p:Int):oZ [.agg [.int .i64 p,.rs 2 (List.replicate s SN),.rs 13 []],.int .i64 0]=some (.rs 13 []):=by
 unfold oZ zr;iterate 5 refine(bs rfl).trans ?_
 refine once fun rec=>?_;unfold Al;dsimp only;rw[QU (by simp)]
theorem SP{s k:Nat}(hk:k<s)(p:Int):dJ [aat s p,.int .i64 k,.int .i64 0]=some (.bool true):=by
 have he:ff [aat s p,.int .i64 k]=some (.bool true):=by
  unfold ff nu;refine(UC rfl (by exact aoa _)).trans ?_;iterate 4 refine(bs rfl).trans ?_
  rw[apf (show(k:Int)≥0 by omega),aoI,apf (show(k:Int)<(s:Int) by omega)];rfl
 unfold dJ nv;refine(UC rfl (by exact aoa _)).trans ?_;iterate 5 refine(bs rfl).trans ?_
 refine(bs he).trans ?_;refine(bs rfl).trans ?_;refine(bs (a:=true) ((PR rfl).trans ?_)).trans rfl;try dsimp only
 rw[af,apM,No hk];rfl
theorem JJ{s k:Nat}(hk:k<s)(p:Int):kQ [.agg [.int .i64 p,.rs 2 (List.replicate s SN),.rs 13 []],.int .i64 k,.int .i64 0]=some (.bool true):=by
 unfold kQ zs;iterate 6 refine(bs rfl).trans ?_
 rw[aph (show¬(k:Int)<0 by omega),aoI,aph (show¬(k:Int)≥(s:Int) by omega)];refine(bs (a:=false) rfl).trans ?_;try dsimp only
 rw[QU (by decide),af,apM,No hk];rfl
theorem Bi(k:Nat):(List.range (k+1)).map qq=(List.range k).map qq++[qq k]:=by rw[aoQ,aos];rfl
def nZ(N:aW)(s:Nat)(p:Int):PV:=.agg [aat s p,.int .i64 s,.rs 4 (N.stops.map Stop.pv),.rs 3 (N.ao.map aQ.pv),.rs 8 (N.runs.map bg.pv),.rs 5 (N.br.map aR.pv),.rs 4 (N.paths.map Path.pv),.rs 6 (N.aP.map bp.pv),.int .i64 N.bE,.int .i64 N.within,.int .i64 N.cap,.int .i64 0]
theorem SQ(N:aW)(s:Nat)(hs:s≤8)(p:Int):eL [Mb N s p]=some (.rs 1 ((List.range s).map qq)):=by
 unfold eL qK;refine(UC rfl (by exact aoa _)).trans ?_;refine(UC (cs:=[.rs 4 (List.replicate s SM),.int .i64 p,.rs 13 []]) rfl (by exact aoa _)).trans ?_;iterate 11 refine(bs rfl).trans ?_
 refine aM (fun k=>(nZ N s p,(s:Int),(k:Int),(List.range k).map qq,())) s (fun k hk rec=>?_) (fun rec=>?_) (Cw (by omega)) rfl
 ·unfold iA;dsimp only;rw[No (by rw[tc];omega)];refine(UC (cs:=[.rs 4 (List.replicate s SM),.int .i64 p,.rs 13 []]) rfl (by exact aoa _)).trans ?_;refine(bs (a:=0) rfl).trans ?_;refine(bs (SP hk p)).trans ?_;refine(bs rfl).trans ?_;rw[No rfl,No (UA _ (by simp;omega) _),ag (show k<9223372036854775807 by omega),Bi];rfl
 ·unfold iA;dsimp only;rw[QU (by simp)]
theorem JK(N:aW)(s:Nat)(hs:s≤8)(p:Int):iY [UB N s p]=some (.rs 1 ((List.range s).map qq)):=by
 unfold iY zt;iterate 14 refine(bs rfl).trans ?_
 refine aM (fun k=>((k:Int),N.stops.map Stop.pv,N.ao.map aQ.pv,N.runs.map bg.pv,N.br.map aR.pv,N.paths.map Path.pv,N.aP.map bp.pv,N.bE,N.within,N.cap,p,List.replicate s SN,[],0,(List.range k).map qq,())) s (fun k hk rec=>?_) (fun rec=>?_) (Cw (by omega)) rfl
 ·unfold sD;dsimp only;rw[No (by rw[tc,aoI];omega)];refine(bs (JJ hk p)).trans ?_;refine(bs rfl).trans ?_;rw[No rfl,No (UA _ (by simp;omega) _),ag (show k<9223372036854775807 by omega),Bi];rfl
 ·unfold sD;dsimp only;rw[QU (by simp)]
theorem Mc(l:List Nat)(hl:l.length≤10000):da [.rs 1 (l.map qq),.rs 1 (l.map qq)]=some (.bool true):=by
 simp only[da,uM,Sy,U];rw[QU (by simp)];refine aM (fun k=>(l.map qq,l.map qq,(k:Int),())) l.length (fun k hk rec=>?_) (fun rec=>?_) (Cw hl) rfl
 ·unfold pc;dsimp only;rw[No (by rw[tc,te];omega),af,AT,ta hk];iterate 4 refine(bs rfl).trans ?_
  rw[QU (by simp),ag (show k<9223372036854775807 by omega)]
 ·unfold pc;dsimp only;rw[QU (by simp)]
theorem Hj(N:aW)(s:Nat)(p:Int)(h:N.Ok)(hf:PE N)(hp:N.paths.length≤8192)(hv:zm N=(0,0,0)):cD [Mb N s p]=some N.pv:=by
 unfold cD pd;refine(UC rfl (by exact aoa _)).trans ?_;refine(UC (cs:=[.rs 4 (List.replicate s SM),.int .i64 p,.rs 13 []]) rfl (by exact aoa _)).trans ?_;iterate 11 refine(bs rfl).trans ?_
 refine(bs (SO s p)).trans ?_;refine(bs rfl).trans ?_;refine(bs (all_nil N h hf hp hv)).trans ?_;rfl
theorem HI(N:aW)(s:Nat)(p:Int):gH [UB N s p]=some N.pv:=by
 unfold gH xm;iterate 14 refine(bs rfl).trans ?_
 refine(bs (JI s p)).trans ?_;refine(bs rfl).trans ?_;refine(bs (PQ N)).trans ?_;rfl
theorem K0(N:aW)(s:Nat)(p:Int)(hf:PE N):dr [Mb N s p]=some N.pv:=by
 unfold dr mb;refine(UC rfl (by exact aoa _)).trans ?_;refine(UC (cs:=[.rs 4 (List.replicate s SM),.int .i64 p,.rs 13 []]) rfl (by exact aoa _)).trans ?_;iterate 11 refine(bs rfl).trans ?_
 refine(bs (DD N hf)).trans ?_;rfl
theorem PS(N:aW)(s:Nat)(p:Int)(h:N.Ok)(hf:PE N)(hp:N.paths.length≤8192)(hv:zm N=(0,0,0))(hr:N.runs.length≤1024)(hc:∀r∈N.runs,r.calls.length≤40):ec [Mb N s p]=some (.rs 1 (([]:List Nat).map qq)):=by
 have Pv:40≤maxLen:=by decide
 have YJ:=NQ N N ⟨by omega,fun r hr=>by have:=hc r hr;omega⟩ (by omega);rw[PO]at YJ;unfold ec pe;refine(UC rfl (by exact aoa _)).trans ?_;refine(UC (cs:=[.rs 4 (List.replicate s SM),.int .i64 p,.rs 13 []]) rfl (by exact aoa _)).trans ?_;iterate 11 refine(bs rfl).trans ?_
 refine(bs (Hj N s p h hf hp hv)).trans ?_;refine(bs rfl).trans ?_;refine(bs YJ).trans ?_;rfl
theorem ad2(N:aW)(s:Nat)(p:Int):jQ [Mb N s p]=some (.int .i64 0):=rfl
theorem aau(N:aW)(s:Nat)(hs:s≤8)(p:Int)(h:N.Ok)(hf:PE N)(hp:N.paths.length≤8192)(hv:zm N=(0,0,0))(hr:N.runs.length≤1024)(hc:∀r∈N.runs,r.calls.length≤40):tH [Mb N s p,UB N s p]=some (.bool true):=by
 have Pv:40≤maxLen:=by decide
 have e1:=Xt N N h;rw[aav]at e1;have YJ:=PN N N ⟨by omega,fun r hr=>by have:=hc r hr;omega⟩ (by omega);rw[PO]at YJ;unfold tH DG;refine(UC rfl (by exact aoa _)).trans ?_;refine(UC (cs:=[.rs 4 (List.replicate s SM),.int .i64 p,.rs 13 []]) rfl (by exact aoa _)).trans ?_;iterate 25 refine(bs rfl).trans ?_
 refine(bs (HI N s p)).trans ?_;refine(bs rfl).trans ?_;refine(bs (ad2 N s p)).trans ?_;refine(bs rfl).trans ?_;refine(bs (a:=true) ((PR rfl).trans ?_)).trans ?_
 ·refine(bs (K0 N s p hf)).trans ?_;refine(bs rfl).trans ?_;refine(bs e1).trans ?_;rfl
 refine(bs (a:=true) ((PR rfl).trans ?_)).trans ?_
 ·refine(bs (Hj N s p h hf hp hv)).trans ?_;refine(bs rfl).trans ?_;refine(bs e1).trans ?_;rfl
 refine(bs (a:=true) ((PR rfl).trans ?_)).trans ?_
 ·refine(bs (PS N s p h hf hp hv hr hc)).trans ?_;refine(bs (Sy 1 _)).trans ?_;refine(bs YJ).trans ?_;refine(bs (Sy 1 _)).trans ?_;refine(bs (Mc [] (by simp))).trans ?_;rfl
 refine(bs (a:=true) ((PR rfl).trans ?_)).trans ?_
 ·refine(bs (SQ N s hs p)).trans ?_;refine(bs (Sy 1 _)).trans ?_;refine(bs (JK N s hs p)).trans ?_;refine(bs (Sy 1 _)).trans ?_;refine(bs (Mc _ (by simp;omega))).trans ?_;rfl
 rfl
def sPV(T:aj)(a b s p:Int):PV:=.agg [.rs 4 (T.stops.map Stop.pv),.rs 3 (T.ao.map aQ.pv),.rs 10 (T.dK.map oB.pv),.rs 3 (T.mc.map sE.pv),.rs 5 (T.ae.map bj.pv),.rs 4 (T.aU.map ba.pv),.rs 2 (T.cw.map gC.pv),.rs 3 (T.bM.map gD.pv),.rs 4 (T.paths.map Path.pv),.rs 6 (T.aP.map bp.pv),.int .i64 T.bE,.int .i64 T.within,.int .i64 T.cap,.int .i64 a,.int .i64 b,.int .i64 s,.int .i64 p]
theorem Bj(c a b:Bool):(bif c then some a else some b)=some (bif c then a else b):=by cases c<;>rfl
theorem Xu(T:aj)(a b s p:Int):∃c,xn [sPV T a b s p,.rs 0 []]=some (.bool c)∧(c=false→ot T):=by
 obtain⟨c,hc,hf⟩:=aaw T;have key:∀r:Bool,(if r=true then some (PV.bool true)else aV.run uN ([],0,()))=some (.bool r):=fun r=>by
  cases r with
  |true=>rfl
  |false=>rw[QU (by decide)];refine once fun rec=>?_;unfold uN;dsimp only;rw[QU (by simp)]
 obtain⟨d,hd⟩:∃d:Bool,((bif decide (b≥a)then some (decide (a≥0))else some false).bind fun r22=>(bif r22 then some (decide (b≤36524))else some false).bind fun r23=>(bif r23 then some (decide (IntKind.i64.wrap (b-a)>2))else some false).bind fun r24=>(bif r24 then some (decide (IntKind.i64.wrap (b-a)<8))else some false).bind fun r25=>some r25)=some d:=by simp only[Bj,U];exact⟨_,rfl⟩
 cases c with
 |false=>
  refine⟨true,?_,fun h=>by cases h⟩;show n9 aV (sPV T a b s p) (.rs 0 [])=_;unfold n9;iterate 18 refine(bs rfl).trans ?_
  refine(bs (bA0 15)).trans ?_;refine(bs hc).trans ?_;rfl
 |true=>
  refine⟨d,?_,fun _=>hf rfl⟩;show n9 aV (sPV T a b s p) (.rs 0 [])=_;unfold n9;iterate 18 refine(bs rfl).trans ?_
  refine(bs (bA0 15)).trans ?_;refine(bs hc).trans ?_;refine(bs rfl).trans ?_;refine(bs (a:=false) rfl).trans ?_;refine(bs (a:=d) hd).trans ?_;exact key d
def ai8(s:Nat)(p:Int):PV:=.agg [.int .i64 p,.rs 2 (List.replicate s SN),.rs 0 []]
def afe:PV:=.agg [.int .i64 0,.rs 0 [],.rs 0 []]
theorem Xv(s p:Int):Bk [.int .i64 s,.int .i64 p]=some (if s<1∨8<s then .aI [afe,.int .i64 36]else if p<0∨86400<p then .aI [afe,.int .i64 2]else .aI [ai8 s.toNat p,.int .i64 0]):=by
 show Cx aV (.int .i64 s) (.int .i64 p)=_;unfold Cx;iterate 2 refine(bs rfl).trans ?_
 rw[Bj,U];by_cases h1:s<1∨8<s
 ·rw[No (show(bif decide (s<1)then true else decide (s>8))=true by rcases h1 with h|h<;>simp[h]),No h1];rfl
 ·rw[QU (show¬(bif decide (s<1)then true else decide (s>8))=true by simp;omega),QU h1,Bj,U];by_cases h2:p<0∨86400<p
  ·rw[No (show(bif decide (p<0)then true else decide (p>86400))=true by rcases h2 with h|h<;>simp[h]),No h2];rfl
  ·rw[QU (show¬(bif decide (p<0)then true else decide (p>86400))=true by simp;omega),QU h2];obtain⟨n,rfl⟩:∃n:Nat,s=n:=⟨s.toNat,by omega⟩;refine aM (fun k=>((n:Int),(k:Int),0,p,List.replicate k SN,())) n (fun k hk rec=>?_) (fun rec=>?_) (Cw (by omega)) rfl
   ·unfold zu;dsimp only;rw[No (by rw[tc];omega),No (show(List.replicate k SN++[PV.agg [.int .i64 (-1),.int .i64 0]]).length*16≤ab∧0<16 from⟨by
     rw[aob,aoI];have:30000≤ab:=by decide
     simp only[aqh];omega,by decide⟩),ag (show k<9223372036854775807 by omega)]
    rw[aqp];rfl
   ·unfold zu;dsimp only;rw[QU (by simp)];rfl
def SR:PV:=.agg [.rs 0 [],.rs 0 [],.rs 0 [],.rs 0 [],.rs 0 [],.rs 0 [],.int .i64 0,.int .i64 0,.int .i64 0,.int .i64 0,.rs 0 [],.rs 0 [],.int .i64 0]
theorem Xw{T:aj}{a b s p e:Int}{N:aW}(hB:jV [T.pv,.int .i64 a,.int .i64 b]=some (.aI [if e=0 then N.pv else noN,.int .i64 e])):oa [T.pv,.int .i64 a,.int .i64 b,.int .i64 s,.int .i64 p]=some (if e≠0 then .aI [SR,.int .i64 e]else if s<1∨8<s then .aI [SR,.int .i64 36]else if p<0∨86400<p then .aI [SR,.int .i64 2]else .aI [UB N s.toNat p,.int .i64 0]):=by
 show Cy aV T.pv (.int .i64 a) (.int .i64 b) (.int .i64 s) (.int .i64 p)=_;unfold Cy;iterate 18 refine(bs rfl).trans ?_
 refine(bs hB).trans ?_;refine(bs (bt2 _ _)).trans ?_;by_cases he:e=0
 ·subst he;rw[No rfl,QU (show¬(0:Int)≠0 by simp)];iterate 2 refine(bs rfl).trans ?_
  rw[QU (show¬((0:Int) !=0)=true by decide)];refine(bs (Xv s p)).trans ?_;by_cases h1:s<1∨8<s
  ·rw[No h1,No h1];rfl
  ·rw[QU h1,QU h1];by_cases h2:p<0∨86400<p
   ·rw[No h2,No h2];rfl
   ·rw[QU h2,QU h2];rfl
 ·rw[QU he,No he];iterate 2 refine(bs rfl).trans ?_
  rw[No (show(e !=0)=true by simpa using he)];rfl
theorem PT:bW []=some (.bool true):=rfl
theorem aax(T:aj)(gg:T.Ok)(a b s p:Int):qL [sPV T a b s p]=some (.bool true):=by
 obtain⟨c,hc,hf⟩:=Xu T a b s p;show pf aV (sPV T a b s p)=_;unfold pf;iterate 18 refine(bs rfl).trans ?_
 refine(bs hc).trans ?_;refine(bs rfl).trans ?_;cases c with
 |true=>rw[No rfl];refine(bs PT).trans ?_;rfl
 |false=>
  rw[QU (by decide)];obtain⟨e,N,h1,h2,h3⟩:=SG T (hf rfl) gg a b;have hr:=Xw (s:=s) (p:=p) h2;refine(bs h1).trans ?_;refine(bs (bt2 _ _)).trans ?_;have hA:Ab.asAgg 9 (([if e=0 then N.pv else noN,PV.int .i64 e]:List PV).getD 0 .bad)=some ():=by show Ab.asAgg 9 (if e=0 then N.pv else noN)=some ();split<;>rfl
  refine(bs hA).trans ?_;refine(bs (a:=e) rfl).trans ?_;by_cases he:e=0
  ·subst he;obtain⟨k1,k2,k3,k4,k5,k6,k7⟩:=h3 rfl;rw[QU (show¬((0:Int) !=0)=true by decide),Bj,U];rw[QU (show¬(0:Int)≠0 by simp)]at hr;by_cases g1:s<1∨8<s
   ·rw[No (show(bif decide (s<1)then true else decide (s>8))=true by rcases g1 with h|h<;>simp[h])];rw[No g1]at hr;refine(bs hr).trans ?_;iterate 3 refine(bs rfl).trans ?_
    refine(bs (a:=false) rfl).trans ?_;rw[QU (by decide),PT];rfl
   ·rw[QU (show¬(bif decide (s<1)then true else decide (s>8))=true by simp;omega),Bj,U];rw[QU g1]at hr;by_cases g2:p<0∨86400<p
    ·rw[No (show(bif decide (p<0)then true else decide (p>86400))=true by rcases g2 with h|h<;>simp[h])];rw[No g2]at hr;refine(bs hr).trans ?_;iterate 3 refine(bs rfl).trans ?_
     refine(bs (a:=false) rfl).trans ?_;rw[QU (by decide),PT];rfl
    ·rw[QU (show¬(bif decide (p<0)then true else decide (p>86400))=true by simp;omega)];rw[QU g2]at hr;obtain⟨n,rfl⟩:∃n:Nat,s=n:=⟨s.toNat,by omega⟩;rw[No (show 0≤(n:Int)∧(n:Int)≤(n:Int)∧((n:Int)).toNat*32≤ab∧0<32∧0<4 by
      have:30000≤ab:=by decide
      refine⟨by omega,by omega,by omega,by decide,by decide⟩)]
     refine(bs hr).trans ?_;iterate 3 refine(bs rfl).trans ?_
     refine(bs (a:=false) rfl).trans ?_;rw[QU (by decide)];refine(bs (a:=true) ?_).trans ?_
     ·refine(bs (aau N n (by omega) p k1 k2 k4 k3 k5 k7)).trans ?_;rfl
     ·rw[show(bif true then(bW []).bind fun r60=>(Ab.asBool r60).bind fun b61=>some b61 else some false)=some true by rw[PT];rfl];rfl
  ·rw[No (show(e !=0)=true by simpa using he)];rw[No he]at hr;refine(bs hr).trans ?_;iterate 3 refine(bs rfl).trans ?_
   refine(bs (a:=false) ?_).trans ?_
   ·show(bif e !=e then some true else some (!(true==(e !=0))))=some false;have h1:(e !=e)=false:=by simp
    have h2:(e !=0)=true:=by simpa using he
    rw[h1,h2];rfl
   ·rw[QU (by decide),PT];rfl
end Go.Ab.Tt
