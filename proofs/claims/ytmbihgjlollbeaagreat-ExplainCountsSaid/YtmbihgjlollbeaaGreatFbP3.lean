import Derived.Test.YtmbihgjlollbeaaGreatFdP1
namespace Go.Ab.Tt
set_option maxRecDepth 100000
set_option linter.unusedVariables false
set_option linter.unusedSimpArgs false
section
variable {N:ae} {q:gm} {l:List bp}
noncomputable def NH(N:ae)(q:gm)(l:List bp):Int:=match l[l.length-1]? with
 |none=>0
 |some x=>if(x.dst !=q.dst)=true then 24 else if(q.back&&decide (x.arr>q.time))=true then 10 else if decide ((l.countP dG:Int)>q.cB)=true then 33 else if decide (NF l 0>q.walk)=true then 32 else s9 N l
theorem N9{k:Nat}(h:k<l.length):(((l.take (k+1)).countP dG:Nat):Int)=if dG l[k]=true then(((l.take k).countP dG:Nat):Int)+1 else(((l.take k).countP dG:Nat):Int):=by grind [List.take_succ_eq_append_getElem]
theorem count_le(k:Nat):(l.take k).countP dG≤k:=ajQ akc (by grind)
theorem acj(h:wh N)(hg:A4 N l)(hl:l.length≤1000000)(ho:∀x∈l,x.Ok)(hz:0<l.length):iC [N.pv,q.pv,PN l]=some (.int .i64 (NH N q l)):=by
 have hi:fM (l.map bp.pv) (IntKind.i64.wrap ((l.length:Int)-1))=some (l[l.length-1]'(by omega)).pv:=by grind [aY,bN,bp.pv]
 have he:NH N q l=(let x:=l[l.length-1]'(by omega);if(x.dst !=q.dst)=true then 24 else if(q.back&&decide (x.arr>q.time))=true then 10 else if decide ((l.countP dG:Int)>q.cB)=true then 33 else if decide (NF l 0>q.walk)=true then 32 else s9 N l):=by grind [NH,List.getElem?_eq_getElem]
 rw[he];simp only[iC,qP,A8,A9,Ba,Bb,Bc,Bd,Be,Bf,Bg,Bh,Sc,Sd,Se,Sf,Sg,Si,Sj,Sk,Sl,Sn,Sq,jA,j0,aa,BY,hi];generalize l[l.length-1]'(by omega)=x;refine Bk (fun k(_:Unit)=>((((l.take k).countP dG:Nat):Int),l.map bp.pv,(l.length:Int),(k:Int),N.stops.map Stop.pv,N.ar.map aT.pv,N.runs.map ec.pv,N.bj.map bA.pv,N.paths.map Path.pv,N.ba.map aV.pv,N.bY,N.within,N.cap,q.src,q.dst,q.time,q.back,q.cB,q.walk,q.free,q.sO,q.cq,q.I4,l.map bp.pv,cell x.pv 0,cell x.pv 1,cell x.pv 2,cell x.pv 3,cell x.pv 4,cell x.pv 5,cell x.pv 6,cell x.pv 7,cell x.pv 8,())) (fun _ _=>some (PV.int .i64 (if(x.dst !=q.dst)=true then 24 else if(q.back&&decide (x.arr>q.time))=true then 10 else if decide ((l.countP dG:Int)>q.cB)=true then 33 else if decide (NF l 0>q.walk)=true then 32 else s9 N l))) l.length (fun k hk e rec qL=>?_) (fun e rec=>?_) (by unfold rounds;omega) () (by simp)
 ·have hc:=count_le (l:=l) k;have hr:=qL ();rw[N9 hk]at hr;unfold l0;dsimp only;rw[GW (by simp;omega),bN bp.pv l k hk];simp only[aa,tJ,rX,sT,sQ,tG,sP,tF,sR,sS,pU,bE,al (show k<9223372036854775807 by omega)];have hb:(l[k].cL&& !l[k].stay)=dG l[k]:=rfl;rw[hb];cases hx:dG l[k]with
  |true=>rw[hx,GW rfl]at hr;rw[GW rfl,aY (by omega) (by omega)];omega
  |false=>simp_all
 ·obtain⟨a,b,c,d,f,ts,aeF⟩:=ZP (q:=q) h hg hl ho;unfold l0;dsimp only;rw[No (by simp),ajZ];simp only[aa,tJ,rX,sT,sQ,tG,sP,tF,sR,sS,pU,bE,ab5,La,jF,Ll l hl ho,aI,aeF,t3,g5,ajf,ajh,aS];grind
theorem PH(hf:FH N q l=0):A4 N l:=by
 have hp:=Fy.1 hf;have Yo:∀k(h:k<l.length),rW N q l[k]=0:=fun k hk=>by grind [nq,List.getElem?_eq_getElem]
 refine⟨fun k hk=>?_,fun k hk=>?_,fun k hk hs=>?_⟩
 ·grind [rW]
 ·grind [rW]
 ·have h1:=hp k hk;unfold nq at h1;rw[cO hk]at h1;simp only[Yo k hk,IS]at h1;cases k with
  |zero=>
   rw[GW rfl]at h1;have:Ck N q l l[0]≠0:=by unfold Ck;grind
   omega
  |succ j=>
   refine⟨j,Nat.lt_of_succ_lt hk,rfl,?_⟩;have zK:j<l.length:=by omega
   rw[No (show¬(j+1=0) by omega),show j+1-1=j by omega,cO zK]at h1;simp only at h1;cases hr:l[j].cL with
   |true=>rfl
   |false=>
    exfalso;have hj:zr N l[j] l[j+1]≠0:=by unfold zr;grind
    omega
noncomputable def nr(N:ae)(q:gm)(l:List bp):Int×Int:=
 if FE N q=0 then(if l.length=0 then(if(q.src !=q.dst)=true then(0,24)else(0,0))else if FH N q l=0 then(if NH N q l=0 then(0,0)else((l.length:Int)-1,NH N q l))else((PZ N q l:Int),FH N q l))
 else(0,FE N q)
theorem Vl{N:ae}{q:gm}(hN:N.Ok)(hp:N.paths.length≤4096)(h:FE N q=0):wh N∧qOk N.stops.length q=true:=by
 unfold FE at h;split at h
 ·rename_i hr;refine⟨⟨hN,hp,hr⟩,?_⟩;simp_all
 omega
end
section
variable {N:ae} {q:gm} {l:List bp}
theorem Vn(hN:N.Ok)(hp:N.paths.length≤4096)(hl:l.length≤1000000)(ho:∀x∈l,x.Ok):fI [N.pv,q.pv,PN l]=some (.aP [.int .i64 (nr N q l).1,.int .i64 (nr N q l).2]):=by
 have hm:=aQ;simp only[fI,nu,A8,A9,Ba,Bb,Bc,Bd,Be,Bf,Bg,Bh,Sc,Sd,Se,Sf,Sg,Si,Sj,Sk,Sl,Sn,Sq,jA,j0,aa,La,ab5,jF,ZC N q hN hp,aI,BY];unfold nr;by_cases hc:FE N q=0
 ·obtain⟨hv,hq⟩:=Vl hN hp hc;rw[No (by simp[hc]),GW hc];by_cases hz:l.length=0
  ·grind
  ·have Rl:l.length≤maxLen:=by unfold maxLen;omega
   rw[No (by simpa using hz),No hz,ZJ hv Rl];simp only[aa,t2,ajf,ajh,aI];by_cases hf:FH N q l=0
   ·rw[No (by simp[hf]),GW hf,acj hv (PH hf) hl ho (by omega)];simp only[aa,aI];by_cases he:NH N q l=0
    ·simp_all
    ·rw[GW (by simpa using he),No he,aY (by omega) (by omega)]
   simp_all
 simp_all
end
end Go.Ab.Tt
