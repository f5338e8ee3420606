import Derived.Test.YtanikidijjaohaaGreatFbP2
namespace Go.Ab.Tt
set_option maxRecDepth 100000
set_option linter.unusedVariables false
set_option linter.unusedSimpArgs false
theorem jI.aL{N:ab}(h:jI N):(∀p∈N.aL,XX p)∧N.aL.length≤16:=by
 have h1:=h.parts.2.2;unfold du at h1;split at h1
 ·cases h1
 ·split at h1
  ·cases h1
  ·rename_i _ hle;refine⟨fun p hp=>?_,by omega⟩;obtain⟨k,hk,rfl⟩:=akn hp;have:=(kH _ _).1 h1 k hk;unfold Es at this;rw[AI hk]at this;simp only at this;split at this
   ·cases this
   ·split at this
    ·cases this
    ·split at this
     ·cases this
     ·rename_i hb;unfold wg wi at hb;simp only[ajA,ajF,amD,amu,T1,I5]at hb;exact⟨⟨by omega,by omega⟩,⟨by omega,by omega⟩,by omega,by omega⟩
section
variable {N:ab} {q:gZ} {l:List aT}
theorem UT(h:jI N)(hg:zy N l):∀m k out,k+m=l.length→Mc l k out→∀y∈j2 N (l.drop k) out,Cz y:=by
 intro m;induction m with
 |zero=>intro k out e hi;rw[show k=l.length by omega,ajS];exact hi.ok
 |succ m ih=>
  intro k out e hi;have hk:k<l.length:=by omega
  rw[dv hk];exact ih (k+1) _ (by omega) (Av h hg hk hi)
theorem Gp(h:jI N)(hg:zy N l):∀y∈j2 N l [],Cz y:=by have:=UT h hg l.length 0 [] (by omega) ⟨by simp,fun y hy=>by simp at hy,fun hh=>by cases hh⟩;simpa using this
theorem QQ{P:List aA}{d w c:Int}(hPo:P.length≤maxLen∧∀y∈P,aA.Ok y)(hf:(du P d w c).2=0){rs:List Rd}(hn:8<rs.length):fI [dw P d w c,.rs 4 (rs.map Rd.pv)]=some (.bu [.int .i64 0,.rs 4 [],.int .i64 33]):=by
 have hv:jC [dw P d w c,.rs 4 (rs.map Rd.pv)]=some (.int .i64 33):=by simp only[jC,vN,zz,zA,zB,zC,zD,aS,U,Gk,Aw P d w c hPo,OF,hf];simp[res,cZ,Ab.asInt];omega
 simp only[fI,vS,zz,zA,zB,zC,zD,aS,U,Gk,hv,aI];rw[BK (by decide)]
open Classical in
noncomputable def qT(N:ab)(l:List aT):Int:=if 8<(j2 N l []).length then 33 else if Bn N.aL (j2 N l []) 0 then 0 else 34
theorem X8:PV.agg [.rs 6 (N.aL.map aA.pv),.int .i64 N.bk,.int .i64 N.within,.int .i64 N.cap]=dw N.aL N.bk N.within N.cap:=rfl
theorem t2(a b:PV):cZ 2 (.bu [a,b])=some [a,b]:=rfl
theorem t3(a b c:PV):cZ 3 (.bu [a,b,c])=some [a,b,c]:=rfl
theorem g5(a b c d e:PV):asAgg 5 (.agg [a,b,c,d,e])=some ():=rfl
theorem aax(h:jI N)(hg:zy N l)(hl:l.length≤1000000)(ho:∀x∈l,x.Ok):∃a b c d e ts,kN [N.pv,q.pv,fP l]=some (.bu [.agg [.int .i64 a,.int .i64 b,.int .i64 c,.int .i64 d,.int .i64 e],.rs 4 ts,.int .i64 (qT N l)]):=by
 obtain⟨hP,QL⟩:=h.aL;have X9:=Gp h hg;have hPo:N.aL.length≤maxLen∧∀y∈N.aL,aA.Ok y:=⟨h.ok.aL.1,h.ok.aL.2⟩;have hf:=h.parts.2.2;simp only[kN,vT,gw,gx,gy,gz,gA,gB,gC,gD,gE,gF,pJ,qt,qu,qv,qw,qx,qy,qz,qA,qB,qC,jA,j0,U,jj,jF,XU h hg hl,t2,ajE,ajD,aS,aI,X8,OF];rw[IN (by decide)];by_cases hn:8<(j2 N l []).length
 ·rw[QQ hPo hf hn];simp only[U,t3,ajE,ajD,aS,aI];rw[BK (by decide)];unfold qT;rw[BK hn];exact⟨_,_,_,_,_,_,rfl⟩
 ·obtain⟨p1,p2⟩:=X6 (d:=N.bk) (w:=N.within) (c:=N.cap) hPo hf hP QL (show(j2 N l []).length≤8 by omega) X9;by_cases hk:Bn N.aL (j2 N l []) 0
  ·obtain⟨v,ts,hv⟩:=p1 hk;rw[hv];simp only[U,t3,ajE,ajD,aS,aI,Ma l hl ho];rw[IN (by decide)];unfold qT;rw[IN hn,BK hk];by_cases hz:0<l.length
   ·rw[BK (by simp;omega),show aD (l.map aT.pv) 0=_ from bA aT.pv l 0 hz,bE (by omega) (by omega),show(l.length:Int)-1=((l.length-1:Nat):Int) by omega,bA aT.pv l (l.length-1) (by omega)];simp only[U,iR,gS,iS,iT,jg,jh,iC,iD,gT,gU];exact⟨_,_,_,_,_,_,rfl⟩
   ·rw[IN (by simpa using hz)];exact⟨_,_,_,_,_,_,rfl⟩
  ·rw[p2 hk];simp only[U,t3,ajE,ajD,aS,aI];rw[BK (by decide)];unfold qT;rw[IN hn,IN hk];exact⟨_,_,_,_,_,_,rfl⟩
theorem Ya(h:jI N)(hg:zy N l)(hl:l.length≤1000000)(ho:∀x∈l,x.Ok):∃a b c d e ts,nE [N.pv,q.pv,fP l]=some (.bu [.agg [.int .i64 a,.int .i64 b,.int .i64 c,.int .i64 d,.int .i64 e],.rs 4 ts,.int .i64 (qT N l)]):=by
 obtain⟨hP,QL⟩:=h.aL;have X9:=Gp h hg;simp only[nE,An,gw,gx,gy,gz,gA,gB,gC,gD,gE,gF,pJ,qt,qu,qv,qw,qx,qy,qz,qA,qB,qC,jA,j0,U,jj,jF,UM h hg hl,t2,ajE,ajD,aS,aI,X8,OF];rw[IN (by decide)];by_cases hn:8<(j2 N l []).length
 ·rw[BK (by simp;omega)];unfold qT;rw[BK hn];exact⟨_,_,_,_,_,_,rfl⟩
 ·rw[IN (by simp;omega)];obtain⟨v,ts,b,hb,hv⟩:=US (d:=N.bk) (w:=N.within) (c:=N.cap) hP QL (show(j2 N l []).length≤8 by omega) X9;rw[hv];simp only[U,t3,ajE,ajD,aS,aI,aB];by_cases hk:Bn N.aL (j2 N l []) 0
  ·obtain⟨v',T3⟩:=Mj N.aL N.bk N.within N.cap v;rw[IN (by simp[hb.2 hk]),T3];simp only[U,aI,Cu l hl ho];unfold qT;rw[IN hn,BK hk];by_cases hz:0<l.length
   ·rw[BK (by simp;omega),show aD (l.map aT.pv) 0=_ from bA aT.pv l 0 hz,bE (by omega) (by omega),show(l.length:Int)-1=((l.length-1:Nat):Int) by omega,bA aT.pv l (l.length-1) (by omega)];simp only[U,iR,gS,iS,iT,jg,jh,iC,iD,gT,gU];exact⟨_,_,_,_,_,_,rfl⟩
   ·rw[IN (by simpa using hz)];exact⟨_,_,_,_,_,_,rfl⟩
  ·have hbf:b=false:=by
    cases e:b with
    |false=>rfl
    |true=>exact absurd (hb.1 e) hk
   rw[BK (by simp[hbf])];unfold qT;rw[IN hn,IN hk];exact⟨_,_,_,_,_,_,rfl⟩
end
section
variable {N:ab} {q:gZ} {l:List aT}
noncomputable def wO(N:ab)(q:gZ)(l:List aT):Int:=match l[l.length-1]? with
 |none=>0
 |some x=>if(x.dst !=q.dst)=true then 24 else if(q.back&&decide (x.arr>q.time))=true then 10 else if decide ((l.countP bl:Int)>q.bQ)=true then 33 else if decide (KY l 0>q.walk)=true then 32 else qT N l
theorem Ax{k:Nat}(h:k<l.length):(((l.take (k+1)).countP bl:Nat):Int)=if bl l[k]=true then(((l.take k).countP bl:Nat):Int)+1 else(((l.take k).countP bl:Nat):Int):=by rw[ajM h,alf,akq,al5];split<;>simp
theorem count_le(k:Nat):(l.take k).countP bl≤k:=ajP aly (by rw[akt];omega)
theorem acw(h:jI N)(hg:zy N l)(hl:l.length≤1000000)(ho:∀x∈l,x.Ok)(hz:0<l.length):kO [N.pv,q.pv,fP l]=some (.int .i64 (wO N q l)):=by
 have hi:aD (l.map aT.pv) (IntKind.i64.wrap ((l.length:Int)-1))=some (l[l.length-1]'(by omega)).pv:=by rw[bE (by omega) (by omega),show(l.length:Int)-1=((l.length-1:Nat):Int) by omega,bA aT.pv l (l.length-1) (by omega)]
 have he:wO N q l=(let x:=l[l.length-1]'(by omega);if(x.dst !=q.dst)=true then 24 else if(q.back&&decide (x.arr>q.time))=true then 10 else if decide ((l.countP bl:Int)>q.bQ)=true then 33 else if decide (KY l 0>q.walk)=true then 32 else qT N l):=by unfold wO;rw[AI (show l.length-1<l.length by omega)]
 rw[he];simp only[kO,vG,gw,gx,gy,gz,gA,gB,gC,gD,gE,gF,pJ,qt,qu,qv,qw,qx,qy,qz,qA,qB,qC,jA,j0,U,OF,hi];generalize l[l.length-1]'(by omega)=x;refine kJ (fun k(_:Unit)=>((((l.take k).countP bl:Nat):Int),l.map aT.pv,(l.length:Int),(k:Int),N.stops.map Stop.pv,N.aj.map ay.pv,N.runs.map da.pv,N.au.map ba.pv,N.paths.map Path.pv,N.aL.map aA.pv,N.bk,N.within,N.cap,q.src,q.dst,q.time,q.back,q.bQ,q.walk,q.free,q.qq,q.bK,q.vW,l.map aT.pv,cell x.pv 0,cell x.pv 1,cell x.pv 2,cell x.pv 3,cell x.pv 4,cell x.pv 5,cell x.pv 6,cell x.pv 7,cell x.pv 8,())) (fun _ _=>some (PV.int .i64 (if(x.dst !=q.dst)=true then 24 else if(q.back&&decide (x.arr>q.time))=true then 10 else if decide ((l.countP bl:Int)>q.bQ)=true then 33 else if decide (KY l 0>q.walk)=true then 32 else qT N l))) l.length (fun k hk e rec cA=>?_) (fun e rec=>?_) (by unfold rounds;omega) () (by simp)
 ·have hc:=count_le (l:=l) k;have hr:=cA ();rw[Ax hk]at hr;unfold qJ;dsimp only;rw[BK (by simp;omega),bA aT.pv l k hk];simp only[U,iR,gS,iS,iT,jg,jh,iC,iD,gT,gU,bf,ag (show k<9223372036854775807 by omega)];have hb:(l[k].bJ&& !l[k].stay)=bl l[k]:=rfl;rw[hb];cases hx:bl l[k]with
  |true=>rw[hx,BK rfl]at hr;rw[BK rfl,bE (by omega) (by omega)];exact hr
  |false=>rw[hx,IN (by simp)]at hr;rw[IN (by simp)];exact hr
 ·obtain⟨a,b,c,d,f,ts,Yb⟩:=aax (q:=q) h hg hl ho;unfold qJ;dsimp only;rw[IN (by simp),akh];simp only[U,iR,gS,iS,iT,jg,jh,iC,iD,gT,gU,bf,vX,jj,jF,Ma l hl ho,aI,Yb,t3,g5,ajE,ajD,aS];cases(x.dst !=q.dst)<;>cases(q.back&&decide (x.arr>q.time))<;>cases decide ((l.countP bl:Int)>q.bQ)<;>cases decide (KY l 0>q.walk)<;>rfl
theorem aay(h:jI N)(hg:zy N l)(hl:l.length≤1000000)(ho:∀x∈l,x.Ok)(hz:0<l.length):pM [N.pv,q.pv,fP l]=some (.int .i64 (wO N q l)):=by
 have hi:aD (l.map aT.pv) (IntKind.i64.wrap ((l.length:Int)-1))=some (l[l.length-1]'(by omega)).pv:=by rw[bE (by omega) (by omega),show(l.length:Int)-1=((l.length-1:Nat):Int) by omega,bA aT.pv l (l.length-1) (by omega)]
 have he:wO N q l=(let x:=l[l.length-1]'(by omega);if(x.dst !=q.dst)=true then 24 else if(q.back&&decide (x.arr>q.time))=true then 10 else if decide ((l.countP bl:Int)>q.bQ)=true then 33 else if decide (KY l 0>q.walk)=true then 32 else qT N l):=by unfold wO;rw[AI (show l.length-1<l.length by omega)]
 have main:bn.run (q9) (0,0,N.stops.map Stop.pv,N.aj.map ay.pv,N.runs.map da.pv,N.au.map ba.pv,N.paths.map Path.pv,N.aL.map aA.pv,N.bk,N.within,N.cap,q.src,q.dst,q.time,q.back,q.bQ,q.walk,q.free,q.qq,q.bK,q.vW,l.map aT.pv,())=some (PV.int .i64 (if decide ((l.countP bl:Int)>q.bQ)=true then 33 else if decide (KY l 0>q.walk)=true then 32 else qT N l)):=by
  refine kJ (fun k(_:Unit)=>((((l.take k).countP bl:Nat):Int),(k:Int),N.stops.map Stop.pv,N.aj.map ay.pv,N.runs.map da.pv,N.au.map ba.pv,N.paths.map Path.pv,N.aL.map aA.pv,N.bk,N.within,N.cap,q.src,q.dst,q.time,q.back,q.bQ,q.walk,q.free,q.qq,q.bK,q.vW,l.map aT.pv,())) (fun _ _=>some (PV.int .i64 (if decide ((l.countP bl:Int)>q.bQ)=true then 33 else if decide (KY l 0>q.walk)=true then 32 else qT N l))) l.length (fun k hk e rec cA=>?_) (fun e rec=>?_) (by unfold rounds;omega) () (by simp)
  ·have hc:=count_le (l:=l) k;have hr:=cA ();rw[Ax hk]at hr;unfold q9;dsimp only;rw[BK (by simp;omega),bA aT.pv l k hk];simp only[U,iR,gS,iS,iT,jg,jh,iC,iD,gT,gU,bf,ag (show k<9223372036854775807 by omega)];have hb:(l[k].bJ&& !l[k].stay)=bl l[k]:=rfl;rw[hb];cases hx:bl l[k]with
   |true=>rw[hx,BK rfl]at hr;rw[BK rfl,bE (by omega) (by omega)];exact hr
   |false=>rw[hx,IN (by simp)]at hr;rw[IN (by simp)];exact hr
  ·obtain⟨a,b,c,d,f,ts,Yb⟩:=Ya (q:=q) h hg hl ho;unfold q9;dsimp only;rw[IN (by simp),akh];simp only[U,vX,jj,jF,Cu l hl ho,aI,Yb,t3,g5,ajE,ajD,aS];cases decide ((l.countP bl:Int)>q.bQ)<;>cases decide (KY l 0>q.walk)<;>rfl
 rw[he];simp only[pM,Cq,gw,gx,gy,gz,gA,gB,gC,gD,gE,gF,pJ,qt,qu,qv,qw,qx,qy,qz,qA,qB,qC,jA,j0,U,OF,hi,main,iR,gS,iS,iT,jg,jh,iC,iD,gT,gU,bf];generalize l[l.length-1]'(by omega)=x;cases(x.dst !=q.dst)<;>cases(q.back&&decide (x.arr>q.time))<;>rfl
theorem Te(hf:sw N q l=0):zy N l:=by
 have hp:=Au.1 hf;have Ob:∀k(h:k<l.length),oQ N q l[k]=0:=fun k hk=>by
  have:=hp k hk;unfold cn at this;rw[AI hk]at this;simp only at this;split at this
  ·assumption
  ·contradiction
 refine⟨fun k hk=>?_,fun k hk=>?_,fun k hk hs=>?_⟩
 ·have:=Ob k hk;unfold oQ at this;split at this
  ·cases this
  ·rename_i hh;simpa using hh
 ·have:=Ob k hk;unfold oQ at this;split at this
  ·cases this
  ·split at this
   ·cases this
   ·rename_i hh;simpa using hh
 ·have h1:=hp k hk;unfold cn at h1;rw[AI hk]at h1;simp only[Ob k hk,aaV]at h1;cases k with
  |zero=>
   rw[BK rfl]at h1;have:wa N q l l[0]≠0:=by
    unfold wa;rw[hs];split
    ·decide
    ·rw[BK rfl];decide
   rw[IN this]at h1;exact absurd h1 this
  |succ j=>
   refine⟨j,Nat.lt_of_succ_lt hk,rfl,?_⟩;have Ca:j<l.length:=by omega
   rw[IN (show¬(j+1=0) by omega),show j+1-1=j by omega,AI Ca]at h1;simp only at h1;cases hr:l[j].bJ with
   |true=>rfl
   |false=>
    exfalso;have hj:oA N l[j] l[j+1]≠0:=by
     unfold oA;split
     ·decide
     ·split
      ·decide
      ·rw[BK (by simp[hs,hr])];decide
    rw[IN hj,IN hj]at h1;exact hj h1
noncomputable def lG(N:ab)(q:gZ)(l:List aT):Int×Int:=
 if oz N q=0 then(if l.length=0 then(if(q.src !=q.dst)=true then(0,24)else(0,0))else if sw N q l=0 then(if wO N q l=0 then(0,0)else((l.length:Int)-1,wO N q l))else((Bl N q l:Int),sw N q l))
 else(0,oz N q)
theorem Kg{N:ab}{q:gZ}(hN:N.Ok)(hp:N.paths.length≤4096)(h:oz N q=0):jI N∧qOk N.stops.length q=true:=by
 unfold oz at h;split at h
 ·rename_i hr;refine⟨⟨hN,hp,hr⟩,?_⟩;split at h
  ·assumption
  ·cases h
 ·cases h
theorem Tf{n:Int}{q:gZ}(h:qOk n q=true):(q.vW&&q.back)=false:=by unfold qOk at h;simp only[T1]at h;exact ajF _▸h.2
end
section
variable {N:ab} {q:gZ} {l:List aT}
theorem Bo(hN:N.Ok)(hp:N.paths.length≤4096)(hl:l.length≤1000000)(ho:∀x∈l,x.Ok):bB [N.pv,q.pv,fP l]=some (.bu [.int .i64 (lG N q l).1,.int .i64 (lG N q l).2]):=by
 have hm:=bg;simp only[bB,kE,gw,gx,gy,gz,gA,gB,gC,gD,gE,gF,pJ,qt,qu,qv,qw,qx,qy,qz,qA,qB,qC,jA,j0,U,jj,vX,jF,SV N q hN hp,aI,OF];unfold lG;by_cases hc:oz N q=0
 ·obtain⟨hv,hq⟩:=Kg hN hp hc;rw[IN (by simp[hc]),BK hc];by_cases hz:l.length=0
  ·rw[BK (by simpa using hz),BK hz];by_cases hd:(q.src !=q.dst)=true
   ·rw[BK hd,BK hd]
   ·rw[IN hd,IN hd]
  ·have HX:l.length≤maxLen:=by unfold maxLen;omega
   rw[IN (by simpa using hz),IN hz,S3 hv HX];simp only[U,t2,ajE,ajD,aI];by_cases hf:sw N q l=0
   ·rw[IN (by simp[hf]),BK hf,acw hv (Te hf) hl ho (by omega)];simp only[U,aI];by_cases he:wO N q l=0
    ·rw[IN (by simp[he]),BK he]
    ·rw[BK (by simpa using he),IN he,bE (by omega) (by omega)]
   ·rw[BK (by simpa using hf),IN hf]
 ·rw[BK (by simpa using hc),IN hc]
theorem aaz(hN:N.Ok)(hp:N.paths.length≤4096)(hl:l.length≤1000000)(ho:∀x∈l,x.Ok):lW [N.pv,q.pv,fP l]=some (.bu [.int .i64 (lG N q l).1,.int .i64 (lG N q l).2]):=by
 have hm:=bg;simp only[lW,xB,gw,gx,gy,gz,gA,gB,gC,gD,gE,gF,pJ,qt,qu,qv,qw,qx,qy,qz,qA,qB,qC,jA,j0,U,jj,vX,XA N q hN hp,aI,OF];unfold lG;by_cases hc:oz N q=0
 ·obtain⟨hv,hq⟩:=Kg hN hp hc;rw[IN (by simp[hc]),BK hc];by_cases hz:l.length=0
  ·rw[BK (by simpa using hz),BK hz];by_cases hd:(q.src !=q.dst)=true
   ·rw[BK hd,BK hd]
   ·rw[IN hd,IN hd]
  ·have HX:l.length≤maxLen:=by unfold maxLen;omega
   rw[IN (by simpa using hz),IN hz];refine(dL (fun j(_:Unit)=>((j:Int),N.stops.map Stop.pv,N.aj.map ay.pv,N.runs.map da.pv,N.au.map ba.pv,N.paths.map Path.pv,N.aL.map aA.pv,N.bk,N.within,N.cap,q.src,q.dst,q.time,q.back,q.bQ,q.walk,q.free,q.qq,q.bK,q.vW,l.map aT.pv,())) (fun j _=>if XQ (cn N q l) l.length (Hl (cn N q l) (l.length-j) j)=0 then some (PV.bu [.int .i64 (if wO N q l=0 then((0:Int),(0:Int))else((l.length:Int)-1,wO N q l)).1,.int .i64 (if wO N q l=0 then((0:Int),(0:Int))else((l.length:Int)-1,wO N q l)).2])else some (PV.bu [.int .i64 ((Hl (cn N q l) (l.length-j) j:Nat):Int),.int .i64 (XQ (cn N q l) l.length (Hl (cn N q l) (l.length-j) j))])) (fun j _=>∀i,i<j→cn N q l i=0) l.length (fun j hj e rec hi cA=>?_) (fun e rec hi=>?_) (by unfold rounds;omega) () (fun i hi=>by omega) rfl).trans ?_
   ·unfold sC;dsimp only;rw[BK (by simp;omega)];simp only[jj,vX,jF,J9 hv hj HX (Tf hq),U,aI,ag (show j<9223372036854775807 by omega),L8 _ hj];by_cases h0:cn N q l j=0
    ·rw[IN (by simp[h0]),BK h0];exact cA () fun i ow=>by
      by_cases e:i=j
      ·rw[e];exact h0
      ·exact hi i (by omega)
    ·have e1:XQ (cn N q l) l.length j=cn N q l j:=by unfold XQ;rw[BK hj]
     rw[BK (by simpa using h0),IN h0,e1,IN h0]
   ·have e1:XQ (cn N q l) l.length (Hl (cn N q l) (l.length-l.length) l.length)=0:=by rw[alm];simp only[Hl,XQ,am2,abG]
    rw[e1,BK rfl];have hf:sw N q l=0:=Au.2 hi;unfold sC;dsimp only;rw[IN (by simp)];simp only[jj,vX,jF,aay hv (Te hf) hl ho (show 0<l.length by omega),U,aI,OF];by_cases he:wO N q l=0
    ·rw[IN (by simp[he]),BK he]
    ·rw[BK (by simpa using he),IN he,bE (by omega) (by omega)]
   ·rw[alC];show(if sw N q l=0 then _ else some (PV.bu [.int .i64 (Bl N q l:Int),.int .i64 (sw N q l)]))=_;by_cases hf:sw N q l=0
    ·rw[BK hf,BK hf]
    ·rw[IN hf,IN hf]
 ·rw[BK (by simpa using hc),IN hc]
end
section
variable {N:ab} {q:gZ} {l:List aT}
theorem Gq(hN:N.Ok)(hp:N.paths.length≤4096)(hl:l.length≤maxLen):cC [N.pv,q.pv,fP l]=some (.int .i64 (if oz N q=0 then(Bl N q l:Int)else 0)):=by
 simp only[cC,mo,gw,gx,gy,gz,gA,gB,gC,gD,gE,gF,pJ,qt,qu,qv,qw,qx,qy,qz,qA,qB,qC,jA,j0,U,jj,vX,jF,SV N q hN hp,aI];by_cases hc:oz N q=0
 ·obtain⟨hv,hq⟩:=Kg hN hp hc;rw[IN (by simp[hc]),BK hc,S3 hv hl];simp only[U,t2,ajE,ajD,aI]
 ·rw[BK (by simpa using hc),IN hc]
end
def xN(k:List ba):ab:=⟨[⟨[65],0,false,0⟩,⟨[66],0,false,120⟩,⟨[67],0,false,0⟩],[⟨[82],0,false⟩],[⟨0,0,0,[116],0,false,false,[⟨0,100,100,true,false⟩,⟨1,200,200,false,true⟩]⟩,⟨0,0,0,[117],0,false,false,[⟨1,260,260,true,false⟩,⟨2,400,400,false,true⟩]⟩],k,[],[⟨[112],150,1,1,0,1⟩],0,0,0⟩
def xQ:gZ:=⟨0,2,0,false,2,0,false,false,0,false⟩
def xL:List aT:=[⟨true,0,0,1,0,1,100,200,false⟩,⟨true,1,0,1,1,2,260,400,false⟩]
def xP(k:List ba):PV:=.agg [.rs 4 ((xN k).stops.map Stop.pv),.rs 3 ((xN k).aj.map ay.pv),.rs 8 ((xN k).runs.map da.pv),.rs 5 (k.map ba.pv),.rs 0 [],.rs 6 ((xN k).aL.map aA.pv),.int .i64 0,.int .i64 0,.int .i64 0]
theorem DJ(p:PV)(N:ab)(q:gZ)(l:List aT)(hA:asAgg 9 p=some ())(h0:aP 4 (cell p 0)=some (N.stops.map Stop.pv))(h1:aP 3 (cell p 1)=some (N.aj.map ay.pv))(h2:aP 8 (cell p 2)=some (N.runs.map da.pv))(h3:aP 5 (cell p 3)=some (N.au.map ba.pv))(h4:aP 4 (cell p 4)=some (N.paths.map Path.pv))(h5:aP 6 (cell p 5)=some (N.aL.map aA.pv))(h6:Ab.asInt .i64 (cell p 6)=some N.bk)(h7:Ab.asInt .i64 (cell p 7)=some N.within)(h8:Ab.asInt .i64 (cell p 8)=some N.cap):bB [p,q.pv,fP l]=bB [N.pv,q.pv,fP l]:=by simp only[bB,kE,hA,h0,h1,h2,h3,h4,h5,h6,h7,h8,gw,gx,gy,gz,gA,gB,gC,gD,gE,gF,U]
theorem abt{k:List ba}(hk:k.length≤1)(ho:∀y∈k,y.Ok):(xN k).Ok where
 stops:=⟨(by decide:3≤maxLen),fun y hy=>by simp only[xN,ah4,akR,amj]at hy;rcases hy with rfl|rfl|rfl<;>exact⟨by decide,by decide,by decide⟩⟩
 aj:=⟨(by decide:1≤maxLen),fun y hy=>by simp only[xN,ah4,akR,amj]at hy;subst hy;exact⟨by decide,by decide⟩⟩
 runs:=⟨(by decide:2≤maxLen),fun y hy=>by
  simp only[xN,ah4,akR,amj]at hy;rcases hy with rfl|rfl
  all_goals refine⟨by decide,by decide,by decide,by decide,by decide,by decide,fun z hz=>?_⟩;simp only[ah4,akR,amj]at hz;rcases hz with rfl|rfl<;>exact⟨by decide,by decide,by decide⟩⟩
 au:=⟨ajP hk (by decide),ho⟩
 paths:=⟨by simp[xN],fun y hy=>by simp[xN]at hy⟩
 aL:=⟨(by decide:1≤maxLen),fun y hy=>by simp only[xN,ah4,akR,amj]at hy;subst hy;exact⟨by decide,by decide,by decide,by decide,by decide,by decide⟩⟩
 bk:=by show lM 0;decide
 within:=by show lM 0;decide
 cap:=by show lM 0;decide
theorem abu:∀x∈xL,x.Ok:=fun x hx=>by simp only[xL,ah4,akR,amj]at hx;rcases hx with rfl|rfl<;>exact⟨by decide,by decide,by decide,by decide,by decide,by decide,by decide⟩
deriving instance DecidableEq for Rd
theorem acx:qT (xN [⟨0,1,1,0,false⟩]) xL=0:=by
 have hr:j2 (xN [⟨0,1,1,0,false⟩]) xL []=[⟨100,200,1,1⟩,⟨260,400,1,1⟩]:=by decide+kernel
 unfold qT;rw[hr,IN (by decide),BK];exact .step 0 0 (by decide) (by decide) (.step 1 1 (by decide) (by decide) .fin (by decide+kernel)) (by decide+kernel)
theorem x_a:lG (xN []) xQ xL=(1,28):=by
 have h1:oz (xN []) xQ=0:=by decide+kernel
 have h2:sw (xN []) xQ xL=28:=by decide+kernel
 have h3:Bl (xN []) xQ xL=1:=by decide+kernel
 unfold lG;rw[BK h1,IN (by decide),h2,h3,IN (by decide)];rfl
theorem x_b:lG (xN [⟨0,1,1,0,false⟩]) xQ xL=(0,0):=by
 have h1:oz (xN [⟨0,1,1,0,false⟩]) xQ=0:=by decide+kernel
 have h2:sw (xN [⟨0,1,1,0,false⟩]) xQ xL=0:=by decide+kernel
 have h3:wO (xN [⟨0,1,1,0,false⟩]) xQ xL=0:=by unfold wO;rw[show xL[xL.length-1]?=some ⟨true,1,0,1,1,2,260,400,false⟩from rfl];simp only;rw[IN (by decide),IN (by decide),IN (by decide),IN (by decide),acx]
 unfold lG;rw[BK h1,IN (by decide),BK h2,BK h3]
theorem IG(k:List ba)(p:PV)(hp:aP 5 p=some (k.map ba.pv)):jb [p]=some (.bu [xP k,xQ.pv,fP xL]):=by simp only[jb,vU,hp,U];rfl
theorem Bp:dM []=some (.bool true):=by have e1:=DJ (xP []) (xN []) xQ xL rfl rfl rfl rfl rfl rfl rfl rfl rfl rfl;have e2:=DJ (xP [⟨0,1,1,0,false⟩]) (xN [⟨0,1,1,0,false⟩]) xQ xL rfl rfl rfl rfl rfl rfl rfl rfl rfl rfl;have c1:=Bo (q:=xQ) (l:=xL) (abt (k:=[]) (by decide) (fun y hy=>by cases hy)) (by decide) (by decide) abu;have c2:=Bo (q:=xQ) (l:=xL) (abt (k:=[⟨0,1,1,0,false⟩]) (by decide) (fun y hy=>by simp only[ah4,akR,amj]at hy;subst hy;exact⟨by decide,by decide,by decide,by decide⟩)) (by decide) (by decide) abu;rw[←e1,x_a]at c1;rw[←e2,x_b]at c2;have h1:=IG [] (.rs 0 []) rfl;have h2:=IG [⟨0,1,1,0,false⟩] (.rs 5 [.agg [.int .i64 0,.int .i64 1,.int .i64 1,.int .i64 0,.bool false]]) rfl;have pE:∀k,PV.agg [cell (xP k) 0,cell (xP k) 1,cell (xP k) 2,cell (xP k) 3,cell (xP k) 4,cell (xP k) 5,cell (xP k) 6,cell (xP k) 7,cell (xP k) 8]=xP k:=fun k=>rfl;have jE:PV.agg [cell (fP xL) 0]=fP xL:=rfl;have pA:∀k,asAgg 9 (xP k)=some ():=fun k=>rfl;simp only[dM,mH,h1,h2,U,t3,t2,ajE,ajD,pA,pJ,jA,pE,ahI,jE,c1,c2,aI];rfl
section
variable {N:ab} {q q':gZ} {l:List aT}
theorem Mm:(lG N q l).2=0↔oz N q=0∧(if l.length=0 then(q.src !=q.dst)=false else sw N q l=0∧wO N q l=0):=by
 unfold lG;by_cases hc:oz N q=0
 ·rw[BK hc];by_cases hz:l.length=0
  ·rw[BK hz,BK hz];cases(q.src !=q.dst)<;>simp[hc]
  ·rw[IN hz,IN hz];by_cases hf:sw N q l=0
   ·rw[BK hf];by_cases he:wO N q l=0
    ·rw[BK he];simp[hc,hf,he]
    ·rw[IN he];simp[hc,hf,he]
   ·rw[IN hf];simp[hc,hf]
 ·rw[IN hc];simp[hc]
end
end Go.Ab.Tt
