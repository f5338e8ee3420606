import Derived.Test.YtanikidijjaohaaGreatFbP2
namespace Go.Ab.Tt
set_option maxRecDepth 100000
set_option linter.unusedVariables false
set_option linter.unusedSimpArgs false
theorem q8.aT{N:ai}(h:q8 N):(∀p∈N.aT,Ux p)∧N.aT.length≤16:=by
 have h1:=h.parts.2.2;unfold db at h1;split at h1
 ·cases h1
 ·split at h1
  ·cases h1
  ·rename_i _ hle;refine⟨fun p hp=>?_,by omega⟩;obtain⟨k,hk,rfl⟩:=ahT hp;have:=(nm _ _).1 h1 k hk;unfold Cb at this;rw[AS hk]at this;simp only at this;split at this
   ·cases this
   ·split at this
    ·cases this
    ·split at this
     ·cases this
     ·rename_i hb;unfold ub wi at hb;simp only[afk,agS,ajV,Bool.not_eq_false,T2,No]at hb;exact⟨⟨by omega,by omega⟩,⟨by omega,by omega⟩,by omega,by omega⟩
section
variable {N:ai} {q:lf} {l:List cA}
theorem RD(h:q8 N)(hg:xq N l):∀m k out,k+m=l.length→Jo l k out→∀y∈jb N (l.drop k) out,AA y:=by
 intro m;induction m with
 |zero=>intro k out e hi;rw[show k=l.length by omega,ahe];exact hi.ok
 |succ m ih=>
  intro k out e hi;have hk:k<l.length:=by omega
  rw[jj hk];exact ih (k+1) _ (by omega) (yy h hg hk hi)
theorem DZ(h:q8 N)(hg:xq N l):∀y∈jb N l [],AA y:=by have:=RD h hg l.length 0 [] (by omega) ⟨by simp,fun y hy=>by simp at hy,fun hh=>by cases hh⟩;simpa using this
theorem NR{P:List aF}{d w c:Int}(Yw:P.length≤maxLen∧∀y∈P,aF.Ok y)(hf:(db P d w c).2=0){rs:List Rd}(hn:8<rs.length):fi [dc P d w c,.rs 4 (rs.map Rd.pv)]=some (.bn [.int .i64 0,.rs 4 [],.int .i64 33]):=by
 have hv:iB [dc P d w c,.rs 4 (rs.map Rd.pv)]=some (.int .i64 33):=by simp only[iB,tM,xr,xt,xv,xw,xx,aS,U,DV,yz P d w c Yw,T0,hf];simp[res,cO,Ab.asInt];omega
 simp only[fi,tR,xr,xt,xv,xw,xx,aS,U,DV,hv,aI];rw[BY (by decide)]
open Classical in
noncomputable def oY(N:ai)(l:List cA):Int:=if 8<(jb N l []).length then 33 else if zq N.aT (jb N l []) 0 then 0 else 34
theorem UD:PV.agg [.rs 6 (N.aT.map aF.pv),.int .i64 N.bw,.int .i64 N.within,.int .i64 N.cap]=dc N.aT N.bw N.within N.cap:=rfl
theorem t2(a b:PV):cO 2 (.bn [a,b])=some [a,b]:=rfl
theorem t3(a b c:PV):cO 3 (.bn [a,b,c])=some [a,b,c]:=rfl
theorem g5(a b c d e:PV):asAgg 5 (.agg [a,b,c,d,e])=some ():=rfl
theorem W2(h:q8 N)(hg:xq N l)(hl:l.length≤1000000)(ho:∀x∈l,x.Ok):∃a b c d e ts,jW [N.pv,q.pv,BN l]=some (.bn [.agg [.int .i64 a,.int .i64 b,.int .i64 c,.int .i64 d,.int .i64 e],.rs 4 ts,.int .i64 (oY N l)]):=by
 obtain⟨hP,NM⟩:=h.aT;have UE:=DZ h hg;have Yw:N.aT.length≤maxLen∧∀y∈N.aT,aF.Ok y:=⟨h.ok.aT.1,h.ok.aT.2⟩;have hf:=h.parts.2.2;simp only[jW,tS,jr,js,jt,ju,jw,jx,jy,jz,jB,jC,uD,vH,vI,vJ,vK,vL,vM,vN,vO,vP,vQ,jA,j0,U,nY,jF,Uu h hg hl,t2,agL,agH,aS,aI,UD,T0];rw[IN (by decide)];by_cases hn:8<(jb N l []).length
 ·rw[NR Yw hf hn];simp only[U,t3,agL,agH,aS,aI];rw[BY (by decide)];unfold oY;rw[BY hn];exact⟨_,_,_,_,_,_,rfl⟩
 ·obtain⟨p1,p2⟩:=UB (d:=N.bw) (w:=N.within) (c:=N.cap) Yw hf hP NM (show(jb N l []).length≤8 by omega) UE;by_cases hk:zq N.aT (jb N l []) 0
  ·obtain⟨v,ts,hv⟩:=p1 hk;rw[hv];simp only[U,t3,agL,agH,aS,aI,Jm l hl ho];rw[IN (by decide)];unfold oY;rw[IN hn,BY hk];by_cases hz:0<l.length
   ·rw[BY (by simp;omega),show aM (l.map cA.pv) 0=_ from cj cA.pv l 0 hz,br (by omega) (by omega),show(l.length:Int)-1=((l.length-1:Nat):Int) by omega,cj cA.pv l (l.length-1) (by omega)];simp only[U,iy,iA,iH,iI,iJ,iK,iL,iM,iN,gY];exact⟨_,_,_,_,_,_,rfl⟩
   ·rw[IN (by simpa using hz)];exact⟨_,_,_,_,_,_,rfl⟩
  ·rw[p2 hk];simp only[U,t3,agL,agH,aS,aI];rw[BY (by decide)];unfold oY;rw[IN hn,IN hk];exact⟨_,_,_,_,_,_,rfl⟩
theorem UF(h:q8 N)(hg:xq N l)(hl:l.length≤1000000)(ho:∀x∈l,x.Ok):∃a b c d e ts,mq [N.pv,q.pv,BN l]=some (.bn [.agg [.int .i64 a,.int .i64 b,.int .i64 c,.int .i64 d,.int .i64 e],.rs 4 ts,.int .i64 (oY N l)]):=by
 obtain⟨hP,NM⟩:=h.aT;have UE:=DZ h hg;simp only[mq,yq,jr,js,jt,ju,jw,jx,jy,jz,jB,jC,uD,vH,vI,vJ,vK,vL,vM,vN,vO,vP,vQ,jA,j0,U,nY,jF,Rw h hg hl,t2,agL,agH,aS,aI,UD,T0];rw[IN (by decide)];by_cases hn:8<(jb N l []).length
 ·rw[BY (by simp;omega)];unfold oY;rw[BY hn];exact⟨_,_,_,_,_,_,rfl⟩
 ·rw[IN (by simp;omega)];obtain⟨v,ts,b,hb,hv⟩:=RC (d:=N.bw) (w:=N.within) (c:=N.cap) hP NM (show(jb N l []).length≤8 by omega) UE;rw[hv];simp only[U,t3,agL,agH,aS,aI,aB];by_cases hk:zq N.aT (jb N l []) 0
  ·obtain⟨v',QL⟩:=Jv N.aT N.bw N.within N.cap v;rw[IN (by simp[hb.2 hk]),QL];simp only[U,aI,F8 l hl ho];unfold oY;rw[IN hn,BY hk];by_cases hz:0<l.length
   ·rw[BY (by simp;omega),show aM (l.map cA.pv) 0=_ from cj cA.pv l 0 hz,br (by omega) (by omega),show(l.length:Int)-1=((l.length-1:Nat):Int) by omega,cj cA.pv l (l.length-1) (by omega)];simp only[U,iy,iA,iH,iI,iJ,iK,iL,iM,iN,gY];exact⟨_,_,_,_,_,_,rfl⟩
   ·rw[IN (by simpa using hz)];exact⟨_,_,_,_,_,_,rfl⟩
  ·have ZE:b=false:=by
    cases e:b with
    |false=>rfl
    |true=>exact absurd (hb.1 e) hk
   rw[BY (by simp[ZE])];unfold oY;rw[IN hn,IN hk];exact⟨_,_,_,_,_,_,rfl⟩
end
section
variable {N:ai} {q:lf} {l:List cA}
noncomputable def wV(N:ai)(q:lf)(l:List cA):Int:=match l[l.length-1]? with
 |none=>0
 |some x=>if(x.dst !=q.dst)=true then 24 else if(q.back&&decide (x.arr>q.time))=true then 10 else if decide ((l.countP mi:Int)>q.cH)=true then 33 else if decide (Jk l 0>q.walk)=true then 32 else oY N l
theorem D2{k:Nat}(h:k<l.length):(((l.take (k+1)).countP mi:Nat):Int)=if mi l[k]=true then(((l.take k).countP mi:Nat):Int)+1 else(((l.take k).countP mi:Nat):Int):=by rw[ag0 h,List.countP_append,aiz,List.countP_nil];split<;>simp
theorem count_le(k:Nat):(l.take k).countP mi≤k:=ahl aiv (by rw[ahu];omega)
theorem aab(h:q8 N)(hg:xq N l)(hl:l.length≤1000000)(ho:∀x∈l,x.Ok)(hz:0<l.length):jX [N.pv,q.pv,BN l]=some (.int .i64 (wV N q l)):=by
 have hi:aM (l.map cA.pv) (IntKind.i64.wrap ((l.length:Int)-1))=some (l[l.length-1]'(by omega)).pv:=by rw[br (by omega) (by omega),show(l.length:Int)-1=((l.length-1:Nat):Int) by omega,cj cA.pv l (l.length-1) (by omega)]
 have he:wV N q l=(let x:=l[l.length-1]'(by omega);if(x.dst !=q.dst)=true then 24 else if(q.back&&decide (x.arr>q.time))=true then 10 else if decide ((l.countP mi:Int)>q.cH)=true then 33 else if decide (Jk l 0>q.walk)=true then 32 else oY N l):=by unfold wV;rw[AS (show l.length-1<l.length by omega)]
 rw[he];simp only[jX,tH,jr,js,jt,ju,jw,jx,jy,jz,jB,jC,uD,vH,vI,vJ,vK,vL,vM,vN,vO,vP,vQ,jA,j0,U,T0,hi];generalize l[l.length-1]'(by omega)=x;refine nZ (fun k(_:Unit)=>((((l.take k).countP mi:Nat):Int),l.map cA.pv,(l.length:Int),(k:Int),N.stops.map Stop.pv,N.av.map aG.pv,N.runs.map dH.pv,N.aL.map bh.pv,N.paths.map Path.pv,N.aT.map aF.pv,N.bw,N.within,N.cap,q.src,q.dst,q.time,q.back,q.cH,q.walk,q.free,q.uC,q.bM,q.B8,l.map cA.pv,cell x.pv 0,cell x.pv 1,cell x.pv 2,cell x.pv 3,cell x.pv 4,cell x.pv 5,cell x.pv 6,cell x.pv 7,cell x.pv 8,())) (fun _ _=>some (PV.int .i64 (if(x.dst !=q.dst)=true then 24 else if(q.back&&decide (x.arr>q.time))=true then 10 else if decide ((l.countP mi:Int)>q.cH)=true then 33 else if decide (Jk l 0>q.walk)=true then 32 else oY N l))) l.length (fun k hk e rec fq=>?_) (fun e rec=>?_) (by unfold rounds;omega) () (by simp)
 ·have hc:=count_le (l:=l) k;have hr:=fq ();rw[D2 hk]at hr;unfold oQ;dsimp only;rw[BY (by simp;omega),cj cA.pv l k hk];simp only[U,iy,iA,iH,iI,iJ,iK,iL,iM,iN,gY,aY,ah (show k<9223372036854775807 by omega)];have hb:(l[k].dr&& !l[k].stay)=mi l[k]:=rfl;rw[hb];cases hx:mi l[k]with
  |true=>rw[hx,BY rfl]at hr;rw[BY rfl,br (by omega) (by omega)];exact hr
  |false=>rw[hx,IN (by simp)]at hr;rw[IN (by simp)];exact hr
 ·obtain⟨a,b,c,d,f,ts,UG⟩:=W2 (q:=q) h hg hl ho;unfold oQ;dsimp only;rw[IN (by simp),aht];simp only[U,iy,iA,iH,iI,iJ,iK,iL,iM,iN,gY,aY,DF,nY,jF,Jm l hl ho,aI,UG,t3,g5,agL,agH,aS];cases(x.dst !=q.dst)<;>cases(q.back&&decide (x.arr>q.time))<;>cases decide ((l.countP mi:Int)>q.cH)<;>cases decide (Jk l 0>q.walk)<;>rfl
theorem W3(h:q8 N)(hg:xq N l)(hl:l.length≤1000000)(ho:∀x∈l,x.Ok)(hz:0<l.length):ob [N.pv,q.pv,BN l]=some (.int .i64 (wV N q l)):=by
 have hi:aM (l.map cA.pv) (IntKind.i64.wrap ((l.length:Int)-1))=some (l[l.length-1]'(by omega)).pv:=by rw[br (by omega) (by omega),show(l.length:Int)-1=((l.length-1:Nat):Int) by omega,cj cA.pv l (l.length-1) (by omega)]
 have he:wV N q l=(let x:=l[l.length-1]'(by omega);if(x.dst !=q.dst)=true then 24 else if(q.back&&decide (x.arr>q.time))=true then 10 else if decide ((l.countP mi:Int)>q.cH)=true then 33 else if decide (Jk l 0>q.walk)=true then 32 else oY N l):=by unfold wV;rw[AS (show l.length-1<l.length by omega)]
 have main:bx.run (po) (0,0,N.stops.map Stop.pv,N.av.map aG.pv,N.runs.map dH.pv,N.aL.map bh.pv,N.paths.map Path.pv,N.aT.map aF.pv,N.bw,N.within,N.cap,q.src,q.dst,q.time,q.back,q.cH,q.walk,q.free,q.uC,q.bM,q.B8,l.map cA.pv,())=some (PV.int .i64 (if decide ((l.countP mi:Int)>q.cH)=true then 33 else if decide (Jk l 0>q.walk)=true then 32 else oY N l)):=by
  refine nZ (fun k(_:Unit)=>((((l.take k).countP mi:Nat):Int),(k:Int),N.stops.map Stop.pv,N.av.map aG.pv,N.runs.map dH.pv,N.aL.map bh.pv,N.paths.map Path.pv,N.aT.map aF.pv,N.bw,N.within,N.cap,q.src,q.dst,q.time,q.back,q.cH,q.walk,q.free,q.uC,q.bM,q.B8,l.map cA.pv,())) (fun _ _=>some (PV.int .i64 (if decide ((l.countP mi:Int)>q.cH)=true then 33 else if decide (Jk l 0>q.walk)=true then 32 else oY N l))) l.length (fun k hk e rec fq=>?_) (fun e rec=>?_) (by unfold rounds;omega) () (by simp)
  ·have hc:=count_le (l:=l) k;have hr:=fq ();rw[D2 hk]at hr;unfold po;dsimp only;rw[BY (by simp;omega),cj cA.pv l k hk];simp only[U,iy,iA,iH,iI,iJ,iK,iL,iM,iN,gY,aY,ah (show k<9223372036854775807 by omega)];have hb:(l[k].dr&& !l[k].stay)=mi l[k]:=rfl;rw[hb];cases hx:mi l[k]with
   |true=>rw[hx,BY rfl]at hr;rw[BY rfl,br (by omega) (by omega)];exact hr
   |false=>rw[hx,IN (by simp)]at hr;rw[IN (by simp)];exact hr
  ·obtain⟨a,b,c,d,f,ts,UG⟩:=UF (q:=q) h hg hl ho;unfold po;dsimp only;rw[IN (by simp),aht];simp only[U,DF,nY,jF,F8 l hl ho,aI,UG,t3,g5,agL,agH,aS];cases decide ((l.countP mi:Int)>q.cH)<;>cases decide (Jk l 0>q.walk)<;>rfl
 rw[he];simp only[ob,As,jr,js,jt,ju,jw,jx,jy,jz,jB,jC,uD,vH,vI,vJ,vK,vL,vM,vN,vO,vP,vQ,jA,j0,U,T0,hi,main,iy,iA,iH,iI,iJ,iK,iL,iM,iN,gY,aY];generalize l[l.length-1]'(by omega)=x;cases(x.dst !=q.dst)<;>cases(q.back&&decide (x.arr>q.time))<;>rfl
theorem P5(hf:sX N q l=0):xq N l:=by
 have hp:=DQ.1 hf;have PC:∀k(h:k<l.length),np N q l[k]=0:=fun k hk=>by
  have:=hp k hk;unfold eT at this;rw[AS hk]at this;simp only at this;split at this
  ·assumption
  ·contradiction
 refine⟨fun k hk=>?_,fun k hk=>?_,fun k hk hs=>?_⟩
 ·have:=PC k hk;unfold np at this;split at this
  ·cases this
  ·rename_i hh;simpa using hh
 ·have:=PC k hk;unfold np at this;split at this
  ·cases this
  ·split at this
   ·cases this
   ·rename_i hh;simpa using hh
 ·have h1:=hp k hk;unfold eT at h1;rw[AS hk]at h1;simp only[PC k hk,T1]at h1;cases k with
  |zero=>
   rw[BY rfl]at h1;have:tX N q l l[0]≠0:=by
    unfold tX;rw[hs];split
    ·decide
    ·rw[BY rfl];decide
   rw[IN this]at h1;exact absurd h1 this
  |succ j=>
   refine⟨j,Nat.lt_of_succ_lt hk,rfl,?_⟩;have Ad:j<l.length:=by omega
   rw[IN (show¬(j+1=0) by omega),show j+1-1=j by omega,AS Ad]at h1;simp only at h1;cases hr:l[j].dr with
   |true=>rfl
   |false=>
    exfalso;have hj:ur N l[j] l[j+1]≠0:=by
     unfold ur;split
     ·decide
     ·split
      ·decide
      ·rw[BY (by simp[hs,hr])];decide
    rw[IN hj,IN hj]at h1;exact hj h1
noncomputable def mr(N:ai)(q:lf)(l:List cA):Int×Int:=
 if uq N q=0 then(if l.length=0 then(if(q.src !=q.dst)=true then(0,24)else(0,0))else if sX N q l=0 then(if wV N q l=0 then(0,0)else((l.length:Int)-1,wV N q l))else((F7 N q l:Int),sX N q l))
 else(0,uq N q)
theorem UH{N:ai}{q:lf}(hN:N.Ok)(hp:N.paths.length≤4096)(h:uq N q=0):q8 N∧Yp N.stops.length q=true:=by
 unfold uq at h;split at h
 ·rename_i hr;refine⟨⟨hN,hp,hr⟩,?_⟩;split at h
  ·assumption
  ·cases h
 ·cases h
theorem W4{n:Int}{q:lf}(h:Yp n q=true):(q.B8&&q.back)=false:=by unfold Yp at h;simp only[T2]at h;exact agS _▸h.2
end
section
variable {N:ai} {q:lf} {l:List cA}
theorem D3(hN:N.Ok)(hp:N.paths.length≤4096)(hl:l.length≤1000000)(ho:∀x∈l,x.Ok):cy [N.pv,q.pv,BN l]=some (.bn [.int .i64 (mr N q l).1,.int .i64 (mr N q l).2]):=by
 have hm:=bf;simp only[cy,mb,jr,js,jt,ju,jw,jx,jy,jz,jB,jC,uD,vH,vI,vJ,vK,vL,vM,vN,vO,vP,vQ,jA,j0,U,nY,DF,jF,WE N q hN hp,aI,T0];unfold mr;by_cases hc:uq N q=0
 ·obtain⟨hv,hq⟩:=UH hN hp hc;rw[IN (by simp[hc]),BY hc];by_cases hz:l.length=0
  ·rw[BY (by simpa using hz),BY hz];by_cases hd:(q.src !=q.dst)=true
   ·rw[BY hd,BY hd]
   ·rw[IN hd,IN hd]
  ·have Fm:l.length≤maxLen:=by unfold maxLen;omega
   rw[IN (by simpa using hz),IN hz,WN hv Fm];simp only[U,t2,agL,agH,aI];by_cases hf:sX N q l=0
   ·rw[IN (by simp[hf]),BY hf,aab hv (P5 hf) hl ho (by omega)];simp only[U,aI];by_cases he:wV N q l=0
    ·rw[IN (by simp[he]),BY he]
    ·rw[BY (by simpa using he),IN he,br (by omega) (by omega)]
   ·rw[BY (by simpa using hf),IN hf]
 ·rw[BY (by simpa using hc),IN hc]
theorem W5(hN:N.Ok)(hp:N.paths.length≤4096)(hl:l.length≤1000000)(ho:∀x∈l,x.Ok):kR [N.pv,q.pv,BN l]=some (.bn [.int .i64 (mr N q l).1,.int .i64 (mr N q l).2]):=by
 have hm:=bf;simp only[kR,vn,jr,js,jt,ju,jw,jx,jy,jz,jB,jC,uD,vH,vI,vJ,vK,vL,vM,vN,vO,vP,vQ,jA,j0,U,nY,DF,ZZ N q hN hp,aI,T0];unfold mr;by_cases hc:uq N q=0
 ·obtain⟨hv,hq⟩:=UH hN hp hc;rw[IN (by simp[hc]),BY hc];by_cases hz:l.length=0
  ·rw[BY (by simpa using hz),BY hz];by_cases hd:(q.src !=q.dst)=true
   ·rw[BY hd,BY hd]
   ·rw[IN hd,IN hd]
  ·have Fm:l.length≤maxLen:=by unfold maxLen;omega
   rw[IN (by simpa using hz),IN hz];refine(kL (fun j(_:Unit)=>((j:Int),N.stops.map Stop.pv,N.av.map aG.pv,N.runs.map dH.pv,N.aL.map bh.pv,N.paths.map Path.pv,N.aT.map aF.pv,N.bw,N.within,N.cap,q.src,q.dst,q.time,q.back,q.cH,q.walk,q.free,q.uC,q.bM,q.B8,l.map cA.pv,())) (fun j _=>if Uq (eT N q l) l.length (F6 (eT N q l) (l.length-j) j)=0 then some (PV.bn [.int .i64 (if wV N q l=0 then((0:Int),(0:Int))else((l.length:Int)-1,wV N q l)).1,.int .i64 (if wV N q l=0 then((0:Int),(0:Int))else((l.length:Int)-1,wV N q l)).2])else some (PV.bn [.int .i64 ((F6 (eT N q l) (l.length-j) j:Nat):Int),.int .i64 (Uq (eT N q l) l.length (F6 (eT N q l) (l.length-j) j))])) (fun j _=>∀i,i<j→eT N q l i=0) l.length (fun j hj e rec hi fq=>?_) (fun e rec hi=>?_) (by unfold rounds;omega) () (fun i hi=>by omega) rfl).trans ?_
   ·unfold qD;dsimp only;rw[BY (by simp;omega)];simp only[nY,DF,jF,Z3 hv hj Fm (W4 hq),U,aI,ah (show j<9223372036854775807 by omega),Ji _ hj];by_cases h0:eT N q l j=0
    ·rw[IN (by simp[h0]),BY h0];exact fq () fun i mT=>by
      by_cases e:i=j
      ·rw[e];exact h0
      ·exact hi i (by omega)
    ·have e1:Uq (eT N q l) l.length j=eT N q l j:=by unfold Uq;rw[BY hj]
     rw[BY (by simpa using h0),IN h0,e1,IN h0]
   ·have e1:Uq (eT N q l) l.length (F6 (eT N q l) (l.length-l.length) l.length)=0:=by rw[aiO];simp only[F6,Uq,ajU,Xq]
    rw[e1,BY rfl];have hf:sX N q l=0:=DQ.2 hi;unfold qD;dsimp only;rw[IN (by simp)];simp only[nY,DF,jF,W3 hv (P5 hf) hl ho (show 0<l.length by omega),U,aI,T0];by_cases he:wV N q l=0
    ·rw[IN (by simp[he]),BY he]
    ·rw[BY (by simpa using he),IN he,br (by omega) (by omega)]
   ·rw[aiC];show(if sX N q l=0 then _ else some (PV.bn [.int .i64 (F7 N q l:Int),.int .i64 (sX N q l)]))=_;by_cases hf:sX N q l=0
    ·rw[BY hf,BY hf]
    ·rw[IN hf,IN hf]
 ·rw[BY (by simpa using hc),IN hc]
end
section
variable {N:ai} {q:lf} {l:List cA}
theorem UI(N:ai)(p:PV)(es:List PV)(hA:asAgg 1 p=some ())(hS:aQ 9 (cell p 0)=some es):∃b,kS [N.pv,p]=some (.bool b)∧(b=true→N.paths.length≤200∧es.length≤20):=by
 simp only[kS,vt,jr,js,jt,ju,jw,jx,jy,jz,jB,jC,hA,hS,U,aZ,T0];split
 ·exact⟨false,rfl,fun h=>by cases h⟩
 ·rename_i hc;simp only[afk,No,ajV]at hc;refine⟨N.runs.all fun r=> !decide ((r.calls.length:Int)>40),?_,fun _=>by omega⟩;refine nZ (fun j(_:Unit)=>((N.runs.length:Int),(j:Int),N.stops.map Stop.pv,N.av.map aG.pv,N.runs.map dH.pv,N.aL.map bh.pv,N.paths.map Path.pv,N.aT.map aF.pv,N.bw,N.within,N.cap,())) (fun j _=>some (PV.bool ((N.runs.drop j).all fun r=> !decide ((r.calls.length:Int)>40)))) N.runs.length (fun j hj e rec fq=>?_) (fun e rec=>?_) (by unfold rounds;omega) () rfl
  ·unfold qE;dsimp only;rw[BY (by simp;omega),cj dH.pv N.runs j hj,jj hj];simp only[U,zn,aS,T0,ah (show j<9223372036854775807 by omega),fq (),aiZ];by_cases h:decide ((N.runs[j].calls.length:Int)>40)=true
   ·rw[BY h,h];rfl
   ·rw[IN h,Bool.eq_false_iff.2 h];rfl
  ·unfold qE;dsimp only;rw[IN (by simp),ahe];rfl
end
def xN(k:List bh):ai:=⟨[⟨[65],0,false,0⟩,⟨[66],0,false,120⟩,⟨[67],0,false,0⟩],[⟨[82],0,false⟩],[⟨0,0,0,[116],0,false,false,[⟨0,100,100,true,false⟩,⟨1,200,200,false,true⟩]⟩,⟨0,0,0,[117],0,false,false,[⟨1,260,260,true,false⟩,⟨2,400,400,false,true⟩]⟩],k,[],[⟨[112],150,1,1,0,1⟩],0,0,0⟩
def xQ:lf:=⟨0,2,0,false,2,0,false,false,0,false⟩
def xL:List cA:=[⟨true,0,0,1,0,1,100,200,false⟩,⟨true,1,0,1,1,2,260,400,false⟩]
def xP(k:List bh):PV:=.agg [.rs 4 ((xN k).stops.map Stop.pv),.rs 3 ((xN k).av.map aG.pv),.rs 8 ((xN k).runs.map dH.pv),.rs 5 (k.map bh.pv),.rs 0 [],.rs 6 ((xN k).aT.map aF.pv),.int .i64 0,.int .i64 0,.int .i64 0]
theorem Bz(p:PV)(N:ai)(q:lf)(l:List cA)(hA:asAgg 9 p=some ())(h0:aQ 4 (cell p 0)=some (N.stops.map Stop.pv))(h1:aQ 3 (cell p 1)=some (N.av.map aG.pv))(h2:aQ 8 (cell p 2)=some (N.runs.map dH.pv))(h3:aQ 5 (cell p 3)=some (N.aL.map bh.pv))(h4:aQ 4 (cell p 4)=some (N.paths.map Path.pv))(h5:aQ 6 (cell p 5)=some (N.aT.map aF.pv))(h6:Ab.asInt .i64 (cell p 6)=some N.bw)(h7:Ab.asInt .i64 (cell p 7)=some N.within)(h8:Ab.asInt .i64 (cell p 8)=some N.cap):cy [p,q.pv,BN l]=cy [N.pv,q.pv,BN l]:=by simp only[cy,mb,hA,h0,h1,h2,h3,h4,h5,h6,h7,h8,jr,js,jt,ju,jw,jx,jy,jz,jB,jC,U]
theorem Yx{k:List bh}(hk:k.length≤1)(ho:∀y∈k,y.Ok):(xN k).Ok where
 stops:=⟨(by decide:3≤maxLen),fun y hy=>by simp only[xN,afh,ahK,ai8]at hy;rcases hy with rfl|rfl|rfl<;>exact⟨by decide,by decide,by decide⟩⟩
 av:=⟨(by decide:1≤maxLen),fun y hy=>by simp only[xN,afh,ahK,ai8]at hy;subst hy;exact⟨by decide,by decide⟩⟩
 runs:=⟨(by decide:2≤maxLen),fun y hy=>by
  simp only[xN,afh,ahK,ai8]at hy;rcases hy with rfl|rfl
  all_goals refine⟨by decide,by decide,by decide,by decide,by decide,by decide,fun z hz=>?_⟩;simp only[afh,ahK,ai8]at hz;rcases hz with rfl|rfl<;>exact⟨by decide,by decide,by decide⟩⟩
 aL:=⟨ahl hk (by decide),ho⟩
 paths:=⟨by simp[xN],fun y hy=>by simp[xN]at hy⟩
 aT:=⟨(by decide:1≤maxLen),fun y hy=>by simp only[xN,afh,ahK,ai8]at hy;subst hy;exact⟨by decide,by decide,by decide,by decide,by decide,by decide⟩⟩
 bw:=by show lT 0;decide
 within:=by show lT 0;decide
 cap:=by show lT 0;decide
theorem Yy:∀x∈xL,x.Ok:=fun x hx=>by simp only[xL,afh,ahK,ai8]at hx;rcases hx with rfl|rfl<;>exact⟨by decide,by decide,by decide,by decide,by decide,by decide,by decide⟩
deriving instance DecidableEq for Rd
theorem aac:oY (xN [⟨0,1,1,0,false⟩]) xL=0:=by
 have hr:jb (xN [⟨0,1,1,0,false⟩]) xL []=[⟨100,200,1,1⟩,⟨260,400,1,1⟩]:=by decide+kernel
 unfold oY;rw[hr,IN (by decide),BY];exact .step 0 0 (by decide) (by decide) (.step 1 1 (by decide) (by decide) .fin (by decide+kernel)) (by decide+kernel)
theorem x_a:mr (xN []) xQ xL=(1,28):=by
 have h1:uq (xN []) xQ=0:=by decide+kernel
 have h2:sX (xN []) xQ xL=28:=by decide+kernel
 have h3:F7 (xN []) xQ xL=1:=by decide+kernel
 unfold mr;rw[BY h1,IN (by decide),h2,h3,IN (by decide)];rfl
theorem x_b:mr (xN [⟨0,1,1,0,false⟩]) xQ xL=(0,0):=by
 have h1:uq (xN [⟨0,1,1,0,false⟩]) xQ=0:=by decide+kernel
 have h2:sX (xN [⟨0,1,1,0,false⟩]) xQ xL=0:=by decide+kernel
 have h3:wV (xN [⟨0,1,1,0,false⟩]) xQ xL=0:=by unfold wV;rw[show xL[xL.length-1]?=some ⟨true,1,0,1,1,2,260,400,false⟩from rfl];simp only;rw[IN (by decide),IN (by decide),IN (by decide),IN (by decide),aac]
 unfold mr;rw[BY h1,IN (by decide),BY h2,BY h3]
theorem Gd(k:List bh)(p:PV)(hp:aQ 5 p=some (k.map bh.pv)):gT [p]=some (.bn [xP k,xQ.pv,BN xL]):=by simp only[gT,tT,hp,U];rfl
theorem UJ:dz []=some (.bool true):=by have e1:=Bz (xP []) (xN []) xQ xL rfl rfl rfl rfl rfl rfl rfl rfl rfl rfl;have e2:=Bz (xP [⟨0,1,1,0,false⟩]) (xN [⟨0,1,1,0,false⟩]) xQ xL rfl rfl rfl rfl rfl rfl rfl rfl rfl rfl;have c1:=D3 (q:=xQ) (l:=xL) (Yx (k:=[]) (by decide) (fun y hy=>by cases hy)) (by decide) (by decide) Yy;have c2:=D3 (q:=xQ) (l:=xL) (Yx (k:=[⟨0,1,1,0,false⟩]) (by decide) (fun y hy=>by simp only[afh,ahK,ai8]at hy;subst hy;exact⟨by decide,by decide,by decide,by decide⟩)) (by decide) (by decide) Yy;rw[←e1,x_a]at c1;rw[←e2,x_b]at c2;have h1:=Gd [] (.rs 0 []) rfl;have h2:=Gd [⟨0,1,1,0,false⟩] (.rs 5 [.agg [.int .i64 0,.int .i64 1,.int .i64 1,.int .i64 0,.bool false]]) rfl;have pE:∀k,PV.agg [cell (xP k) 0,cell (xP k) 1,cell (xP k) 2,cell (xP k) 3,cell (xP k) 4,cell (xP k) 5,cell (xP k) 6,cell (xP k) 7,cell (xP k) 8]=xP k:=fun k=>rfl;have jE:PV.agg [cell (BN xL) 0]=BN xL:=rfl;have pA:∀k,asAgg 9 (xP k)=some ():=fun k=>rfl;simp only[dz,lB,h1,h2,U,t3,t2,agL,agH,pA,uD,jA,pE,ae0,jE,c1,c2,aI];rfl
theorem RE(N:ai)(q:lf)(l:List cA)(hN:N.Ok)(_:q.Ok)(hol:l.length≤maxLen∧∀x∈l,x.Ok):ec [N.pv,q.pv,BN l]=some (.bool true):=by
 have ho:=hol.2;obtain⟨b,hb,hs⟩:=UI N (BN l) (l.map cA.pv) rfl rfl;simp only[ec,kA,jr,js,jt,ju,jw,jx,jy,jz,jB,jC,uD,vH,vI,vJ,vK,vL,vM,vN,vO,vP,vQ,jA,j0,U,nY,DF,jF,hb,aB,UJ];cases b with
 |false=>rfl
 |true=>obtain⟨h1,h2⟩:=hs rfl;rw[T0]at h2;simp only[D3 hN (show N.paths.length≤4096 by omega) (show l.length≤1000000 by omega) ho,W5 hN (show N.paths.length≤4096 by omega) (show l.length≤1000000 by omega) ho,U,t2,agL,agH,aI];rw[IN (by decide),show((mr N q l).1==(mr N q l).1)=true by simp,show((mr N q l).2==(mr N q l).2)=true by simp];rfl
end Go.Ab.Tt
