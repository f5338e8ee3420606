import Derived.Test.YtmbihgjlollbeaaGreatFdP1
namespace Go.Ab.Tt
set_option maxRecDepth 100000
set_option linter.all false
section
variable {N:ab} {q:gy} {l:List bp}
noncomputable def Oj(N:ab)(q:gy)(l:List bp):Int:=match l[l.length-1]? with
 |none=>0
 |some x=>if(x.dst !=q.dst)=true then 24 else if(q.back&&decide (x.arr>q.time))=true then 10 else if decide ((l.countP l0:Int)>q.cB)=true then 33 else if decide (Oh l 0>q.walk)=true then 32 else tH N l
theorem O6{k:Nat}(h:k<l.length):(((l.take (k+1)).countP l0:Nat):Int)=if l0 l[k]=true then(((l.take k).countP l0:Nat):Int)+1 else(((l.take k).countP l0:Nat):Int):=by grind [List.take_succ_eq_append_getElem]
theorem count_le(k:Nat):(l.take k).countP l0≤k:=akT List.countP_le_length (by grind)
theorem ady(h:uE N)(hg:Bw N l)(hl:l.length≤1000000)(ho:∀x∈l,x.Ok)(hz:0<l.length):iI [N.pv,q.pv,QS l]=some (.int .i64 (Oj N q l)):=by
 have hi:fj (l.map bp.pv) (IntKind.i64.wrap ((l.length:Int)-1))=some (l[l.length-1]'(by omega)).pv:=by grind [aY,bS,bp.pv]
 have he:Oj N q l=(let x:=l[l.length-1]'(by omega);if(x.dst !=q.dst)=true then 24 else if(q.back&&decide (x.arr>q.time))=true then 10 else if decide ((l.countP l0:Int)>q.cB)=true then 33 else if decide (Oh l 0>q.walk)=true then 32 else tH N l):=by grind [Oj,List.getElem?_eq_getElem]
 rw[he];simp only[iI,rA,wK,wL,wM,wN,wO,wP,wQ,wR,wS,wT,Oo,Oq,Ot,Ou,Ov,Ow,Ox,Oy,Oz,OA,OB,jA,j0,U,BY,hi];generalize l[l.length-1]'(by omega)=x;refine BD (fun k(_:Unit)=>((((l.take k).countP l0:Nat):Int),l.map bp.pv,(l.length:Int),(k:Int),N.stops.map Stop.pv,N.au.map aV.pv,N.runs.map dL.pv,N.bj.map bB.pv,N.paths.map Path.pv,N.aP.map aR.pv,N.bX,N.within,N.cap,q.src,q.dst,q.time,q.back,q.cB,q.walk,q.free,q.tw,q.cr,q.JA,l.map bp.pv,cell x.pv 0,cell x.pv 1,cell x.pv 2,cell x.pv 3,cell x.pv 4,cell x.pv 5,cell x.pv 6,cell x.pv 7,cell x.pv 8,())) (fun _ _=>some (PV.int .i64 (if(x.dst !=q.dst)=true then 24 else if(q.back&&decide (x.arr>q.time))=true then 10 else if decide ((l.countP l0:Int)>q.cB)=true then 33 else if decide (Oh l 0>q.walk)=true then 32 else tH N l))) l.length (fun k hk e rec q7=>?_) (fun e rec=>?_) (by unfold rounds;omega) () (by simp)
 ·have hc:=count_le (l:=l) k;have hr:=q7 ();rw[O6 hk]at hr;unfold mj;dsimp only;rw[AI (by simp;omega),bS bp.pv l k hk];simp only[U,sM,rf,rn,re,sF,q9,sE,ri,rj,pX,bF,aj (show k<9223372036854775807 by omega)];have hb:(l[k].dK&& !l[k].stay)=l0 l[k]:=rfl;rw[hb];cases hx:l0 l[k]with
  |true=>rw[hx,AI rfl]at hr;rw[AI rfl,aY (by omega) (by omega)];omega
  |false=>simp_all
 ·obtain⟨a,b,c,d,f,ts,afE⟩:=aa6 (q:=q) h hg hl ho;unfold mj;dsimp only;rw[IS (by simp),alg];simp only[U,sM,rf,rn,re,sF,q9,sE,ri,rj,pX,bF,Ws,DX,jF,L5 l hl ho,aI,afE,t3,g5,ajc,aka,aS];grind
theorem QA(hf:Gf N q l=0):Bw N l:=by
 have hp:=FZ.1 hf;have Jt:∀k(h:k<l.length),sC N q l[k]=0:=fun k hk=>by grind [nF,List.getElem?_eq_getElem]
 refine⟨fun k hk=>?_,fun k hk=>?_,fun k hk hs=>?_⟩
 ·grind [sC]
 ·grind [sC]
 ·have h1:=hp k hk;unfold nF at h1;rw[cN hk]at h1;simp only[Jt k hk,Ko]at h1;cases k with
  |zero=>
   rw[AI rfl]at h1;have:Cz N q l l[0]≠0:=by unfold Cz;grind
   omega
  |succ j=>
   refine⟨j,Nat.lt_of_succ_lt hk,rfl,?_⟩;have Am:j<l.length:=by omega
   rw[IS (show¬(j+1=0) by omega),show j+1-1=j by omega,cN Am]at h1;simp only at h1;cases hr:l[j].dK with
   |true=>rfl
   |false=>
    exfalso;have hj:zU N l[j] l[j+1]≠0:=by unfold zU;grind
    omega
noncomputable def nH(N:ab)(q:gy)(l:List bp):Int×Int:=
 if Gd N q=0 then(if l.length=0 then(if(q.src !=q.dst)=true then(0,24)else(0,0))else if Gf N q l=0 then(if Oj N q l=0 then(0,0)else((l.length:Int)-1,Oj N q l))else((Q2 N q l:Int),Gf N q l))
 else(0,Gd N q)
theorem Wp{N:ab}{q:gy}(hN:N.Ok)(hp:N.paths.length≤4096)(h:Gd N q=0):uE N∧qOk N.stops.length q=true:=by
 unfold Gd at h;split at h
 ·rename_i hr;refine⟨⟨hN,hp,hr⟩,?_⟩;simp_all
 omega
end
section
variable {N:ab} {q:gy} {l:List bp}
theorem Wr(hN:N.Ok)(hp:N.paths.length≤4096)(hl:l.length≤1000000)(ho:∀x∈l,x.Ok):fP [N.pv,q.pv,QS l]=some (.aO [.int .i64 (nH N q l).1,.int .i64 (nH N q l).2]):=by
 have hm:=aT;simp only[fP,nJ,wK,wL,wM,wN,wO,wP,wQ,wR,wS,wT,Oo,Oq,Ot,Ou,Ov,Ow,Ox,Oy,Oz,OA,OB,jA,j0,U,DX,Ws,jF,aaT N q hN hp,aI,BY];unfold nH;by_cases hc:Gd N q=0
 ·obtain⟨hv,hq⟩:=Wp hN hp hc;rw[IS (by simp[hc]),AI hc];by_cases hz:l.length=0
  ·grind
  ·have St:l.length≤maxLen:=by unfold maxLen;omega
   rw[IS (by simpa using hz),IS hz,aa0 hv St];simp only[U,t2,ajc,aka,aI];by_cases hf:Gf N q l=0
   ·rw[IS (by simp[hf]),AI hf,ady hv (QA hf) hl ho (by omega)];simp only[U,aI];by_cases he:Oj N q l=0
    ·simp_all
    ·rw[AI (by simpa using he),IS he,aY (by omega) (by omega)]
   simp_all
 simp_all
end
end Go.Ab.Tt
