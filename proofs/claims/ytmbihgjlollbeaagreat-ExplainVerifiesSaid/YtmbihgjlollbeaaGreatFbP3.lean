import Derived.Test.YtmbihgjlollbeaaGreatFdP1
namespace Go.Ab.Tt
set_option maxRecDepth 100000
set_option linter.all false
section
variable {N:an} {q:iI} {l:List bx}
noncomputable def F3(N:an)(q:iI)(l:List bx):Int:=match l[l.length-1]? with
 |none=>0
 |some x=>if(x.dst !=q.dst)=true then 24 else if(q.back&&decide (x.arr>q.time))=true then 10 else if decide ((l.countP gW:Int)>q.b8)=true then 33 else if decide (Nb l 0>q.walk)=true then 32 else rL N l
theorem Mi{k:Nat}(h:k<l.length):(((l.take (k+1)).countP gW:Nat):Int)=if gW l[k]=true then(((l.take k).countP gW:Nat):Int)+1 else(((l.take k).countP gW:Nat):Int):=by grind [List.take_succ_eq_append_getElem]
theorem count_le(k:Nat):(l.take k).countP gW≤k:=asZ List.countP_le_length (by grind)
theorem ajN(h:vS N)(hg:AJ N l)(hl:l.length≤1000000)(ho:∀x∈l,x.Ok)(hz:0<l.length):jO [N.pv,q.pv,Kr l]=some (.int .i64 (F3 N q l)):=by
 have hi:dB (l.map bx.pv) (IntKind.i64.wrap ((l.length:Int)-1))=some (l[l.length-1]'(by omega)).pv:=by grind [aZ,bn,bx.pv]
 have he:F3 N q l=(let x:=l[l.length-1]'(by omega);if(x.dst !=q.dst)=true then 24 else if(q.back&&decide (x.arr>q.time))=true then 10 else if decide ((l.countP gW:Int)>q.b8)=true then 33 else if decide (Nb l 0>q.walk)=true then 32 else rL N l):=by grind [F3,List.getElem?_eq_getElem]
 rw[he];simp only[jO,vo,ku,kv,kx,ky,kz,kA,kB,kC,kD,kE,zs,zt,zu,zw,zx,zy,zz,zA,zB,zC,zD,jA,j0,U,AI,hi];generalize l[l.length-1]'(by omega)=x;refine wQ (fun k(_:Unit)=>((((l.take k).countP gW:Nat):Int),l.map bx.pv,(l.length:Int),(k:Int),N.stops.map Stop.pv,N.aj.map ax.pv,N.runs.map cy.pv,N.aH.map bq.pv,N.paths.map Path.pv,N.aK.map aM.pv,N.bp,N.within,N.cap,q.src,q.dst,q.time,q.back,q.b8,q.walk,q.free,q.rI,q.bQ,q.HU,l.map bx.pv,cell x.pv 0,cell x.pv 1,cell x.pv 2,cell x.pv 3,cell x.pv 4,cell x.pv 5,cell x.pv 6,cell x.pv 7,cell x.pv 8,())) (fun _ _=>some (PV.int .i64 (if(x.dst !=q.dst)=true then 24 else if(q.back&&decide (x.arr>q.time))=true then 10 else if decide ((l.countP gW:Int)>q.b8)=true then 33 else if decide (Nb l 0>q.walk)=true then 32 else rL N l))) l.length (fun k hk e rec iW=>?_) (fun e rec=>?_) (by unfold rounds;omega) () (by simp)
 ·have hc:=count_le (l:=l) k;have hr:=iW ();rw[Mi hk]at hr;unfold od;dsimp only;rw[IN (by simp;omega),bn bx.pv l k hk];simp only[U,mw,jL,lj,lh,ml,lf,mj,ko,kq,iX,aJ,ab (show k<9223372036854775807 by omega)];have hb:(l[k].cu&& !l[k].stay)=gW l[k]:=rfl;rw[hb];cases hx:gW l[k]with
  |true=>rw[hx,IN rfl]at hr;rw[IN rfl,aZ (by omega) (by omega)];omega
  |false=>simp_all
 ·obtain⟨a,b,c,d,f,ts,ad0⟩:=ahC (q:=q) h hg hl ho;unfold od;dsimp only;rw[IS (by simp),asP];simp only[U,mw,jL,lj,lh,ml,lf,mj,ko,kq,iX,aJ,EX,oN,jF,Sq l hl ho,aI,ad0,t3,g5,O6,T1,aS];grind
theorem ahD(h:vS N)(hg:AJ N l)(hl:l.length≤1000000)(ho:∀x∈l,x.Ok)(hz:0<l.length):yJ [N.pv,q.pv,Kr l]=some (.int .i64 (F3 N q l)):=by
 have hi:dB (l.map bx.pv) (IntKind.i64.wrap ((l.length:Int)-1))=some (l[l.length-1]'(by omega)).pv:=by grind [aZ,bn,bx.pv]
 have he:F3 N q l=(let x:=l[l.length-1]'(by omega);if(x.dst !=q.dst)=true then 24 else if(q.back&&decide (x.arr>q.time))=true then 10 else if decide ((l.countP gW:Int)>q.b8)=true then 33 else if decide (Nb l 0>q.walk)=true then 32 else rL N l):=by grind [F3,List.getElem?_eq_getElem]
 have main:bd.run (vv) (0,0,N.stops.map Stop.pv,N.aj.map ax.pv,N.runs.map cy.pv,N.aH.map bq.pv,N.paths.map Path.pv,N.aK.map aM.pv,N.bp,N.within,N.cap,q.src,q.dst,q.time,q.back,q.b8,q.walk,q.free,q.rI,q.bQ,q.HU,l.map bx.pv,())=some (PV.int .i64 (if decide ((l.countP gW:Int)>q.b8)=true then 33 else if decide (Nb l 0>q.walk)=true then 32 else rL N l)):=by
  refine wQ (fun k(_:Unit)=>((((l.take k).countP gW:Nat):Int),(k:Int),N.stops.map Stop.pv,N.aj.map ax.pv,N.runs.map cy.pv,N.aH.map bq.pv,N.paths.map Path.pv,N.aK.map aM.pv,N.bp,N.within,N.cap,q.src,q.dst,q.time,q.back,q.b8,q.walk,q.free,q.rI,q.bQ,q.HU,l.map bx.pv,())) (fun _ _=>some (PV.int .i64 (if decide ((l.countP gW:Int)>q.b8)=true then 33 else if decide (Nb l 0>q.walk)=true then 32 else rL N l))) l.length (fun k hk e rec iW=>?_) (fun e rec=>?_) (by unfold rounds;omega) () (by simp)
  ·have hc:=count_le (l:=l) k;have hr:=iW ();rw[Mi hk]at hr;unfold vv;dsimp only;rw[IN (by simp;omega),bn bx.pv l k hk];simp only[U,mw,jL,lj,lh,ml,lf,mj,ko,kq,iX,aJ,ab (show k<9223372036854775807 by omega)];have hb:(l[k].cu&& !l[k].stay)=gW l[k]:=rfl;rw[hb];cases hx:gW l[k]with
   |true=>rw[hx,IN rfl]at hr;rw[IN rfl,aZ (by omega) (by omega)];omega
   |false=>simp_all
  ·obtain⟨a,b,c,d,f,ts,ad0⟩:=ad1 (q:=q) h hg hl ho;unfold vv;dsimp only;rw[IS (by simp),asP];simp only[U,EX,oN,jF,OJ l hl ho,aI,ad0,t3,g5,O6,T1,aS];grind
 rw[he];simp only[yJ,IK,ku,kv,kx,ky,kz,kA,kB,kC,kD,kE,zs,zt,zu,zw,zx,zy,zz,zA,zB,zC,zD,jA,j0,U,AI,hi,main,mw,jL,lj,lh,ml,lf,mj,ko,kq,iX,aJ];grind
theorem PX(hf:Fl N q l=0):AJ N l:=by
 have hp:=F2.1 hf;have TP:∀k(h:k<l.length),oM N q l[k]=0:=fun k hk=>by grind [eU,List.getElem?_eq_getElem]
 refine⟨fun k hk=>?_,fun k hk=>?_,fun k hk hs=>?_⟩
 ·grind [oM]
 ·grind [oM]
 ·have h1:=hp k hk;unfold eU at h1;rw[cN hk]at h1;simp only[TP k hk,BY]at h1;cases k with
  |zero=>
   rw[IN rfl]at h1;have:Bq N q l l[0]≠0:=by unfold Bq;grind
   omega
  |succ j=>
   refine⟨j,Nat.lt_of_succ_lt hk,rfl,?_⟩;have zj:j<l.length:=by omega
   rw[IS (show¬(j+1=0) by omega),show j+1-1=j by omega,cN zj]at h1;simp only at h1;cases hr:l[j].cu with
   |true=>rfl
   |false=>
    exfalso;have hj:wL N l[j] l[j+1]≠0:=by unfold wL;grind
    omega
noncomputable def iM(N:an)(q:iI)(l:List bx):Int×Int:=
 if Fk N q=0 then(if l.length=0 then(if(q.src !=q.dst)=true then(0,24)else(0,0))else if Fl N q l=0 then(if F3 N q l=0 then(0,0)else((l.length:Int)-1,F3 N q l))else((Sl N q l:Int),Fl N q l))
 else(0,Fk N q)
theorem UT{N:an}{q:iI}(hN:N.Ok)(hp:N.paths.length≤4096)(h:Fk N q=0):vS N∧qOk N.stops.length q=true:=by
 unfold Fk at h;split at h
 ·rename_i hr;refine⟨⟨hN,hp,hr⟩,?_⟩;simp_all
 omega
theorem ahE{n:Int}{q:iI}(h:qOk n q=true):(q.HU&&q.back)=false:=by unfold qOk at h;grind
end
section
variable {N:an} {q:iI} {l:List bx}
theorem adm(hN:N.Ok)(hp:N.paths.length≤4096)(hl:l.length≤1000000)(ho:∀x∈l,x.Ok):gu [N.pv,q.pv,Kr l]=some (.aG [.int .i64 (iM N q l).1,.int .i64 (iM N q l).2]):=by
 have hm:=ai;simp only[gu,qg,ku,kv,kx,ky,kz,kA,kB,kC,kD,kE,zs,zt,zu,zw,zx,zy,zz,zA,zB,zC,zD,jA,j0,U,oN,EX,jF,aho N q hN hp,aI,AI];unfold iM;by_cases hc:Fk N q=0
 ·obtain⟨hv,hq⟩:=UT hN hp hc;rw[IS (by simp[hc]),IN hc];by_cases hz:l.length=0
  ·grind
  ·have TL:l.length≤maxLen:=by unfold maxLen;omega
   rw[IS (by simpa using hz),IS hz,ahv hv TL];simp only[U,t2,O6,T1,aI];by_cases hf:Fl N q l=0
   ·rw[IS (by simp[hf]),IN hf,ajN hv (PX hf) hl ho (by omega)];simp only[U,aI];by_cases he:F3 N q l=0
    ·simp_all
    ·rw[IN (by simpa using he),IS he,aZ (by omega) (by omega)]
   simp_all
 simp_all
theorem ahk(hN:N.Ok)(hp:N.paths.length≤4096)(hl:l.length≤1000000)(ho:∀x∈l,x.Ok):sU [N.pv,q.pv,Kr l]=some (.aG [.int .i64 (iM N q l).1,.int .i64 (iM N q l).2]):=by
 have hm:=ai;simp only[sU,Dk,ku,kv,kx,ky,kz,kA,kB,kC,kD,kE,zs,zt,zu,zw,zx,zy,zz,zA,zB,zC,zD,jA,j0,U,oN,EX,ajH N q hN hp,aI,AI];unfold iM;by_cases hc:Fk N q=0
 ·obtain⟨hv,hq⟩:=UT hN hp hc;rw[IS (by simp[hc]),IN hc];by_cases hz:l.length=0
  ·grind
  ·have TL:l.length≤maxLen:=by unfold maxLen;omega
   rw[IS (by simpa using hz),IS hz];refine(nT (fun j(_:Unit)=>((j:Int),N.stops.map Stop.pv,N.aj.map ax.pv,N.runs.map cy.pv,N.aH.map bq.pv,N.paths.map Path.pv,N.aK.map aM.pv,N.bp,N.within,N.cap,q.src,q.dst,q.time,q.back,q.b8,q.walk,q.free,q.rI,q.bQ,q.HU,l.map bx.pv,())) (fun j _=>if eAt (eU N q l) l.length (OI (eU N q l) (l.length-j) j)=0 then some (PV.aG [.int .i64 (if F3 N q l=0 then((0:Int),(0:Int))else((l.length:Int)-1,F3 N q l)).1,.int .i64 (if F3 N q l=0 then((0:Int),(0:Int))else((l.length:Int)-1,F3 N q l)).2])else some (PV.aG [.int .i64 ((OI (eU N q l) (l.length-j) j:Nat):Int),.int .i64 (eAt (eU N q l) l.length (OI (eU N q l) (l.length-j) j))])) (fun j _=>∀i,i<j→eU N q l i=0) l.length (fun j hj e rec hi iW=>?_) (fun e rec hi=>?_) (by unfold rounds;omega) () (fun i hi=>by omega) rfl).trans ?_
   ·unfold wW;dsimp only;rw[IN (by simp;omega)];simp only[oN,EX,jF,ajJ hv hj TL (ahE hq),U,aI,ab (show j<9223372036854775807 by omega),Sj _ hj];by_cases h0:eU N q l j=0
    ·rw[IS (by simp[h0]),IN h0];exact iW () fun i uP=>by grind
    ·have e1:eAt (eU N q l) l.length j=eU N q l j:=by unfold eAt;omega
     simp_all
   ·have e1:eAt (eU N q l) l.length (OI (eU N q l) (l.length-l.length) l.length)=0:=by simp[aun,OI,eAt,Nat.lt_irrefl,IT]
    rw[e1,IN rfl];have hf:Fl N q l=0:=F2.2 hi;unfold wW;dsimp only;rw[IS (by simp)];simp only[oN,EX,jF,ahD hv (PX hf) hl ho (show 0<l.length by omega),U,aI,AI];by_cases he:F3 N q l=0
    ·simp_all
    ·rw[IN (by simpa using he),IS he,aZ (by omega) (by omega)]
   ·rw[au6];show(if Fl N q l=0 then _ else some (PV.aG [.int .i64 (Sl N q l:Int),.int .i64 (Fl N q l)]))=_;grind
 simp_all
end
end Go.Ab.Tt
