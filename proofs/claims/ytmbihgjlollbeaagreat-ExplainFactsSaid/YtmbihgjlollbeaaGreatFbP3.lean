import Derived.Test.YtmbihgjlollbeaaGreatFdP1
namespace Go.Ab.Tt
set_option maxRecDepth 100000
set_option linter.all false
section
variable {N:an} {q:iJ} {l:List bx}
noncomputable def FY(N:an)(q:iJ)(l:List bx):Int:=match l[l.length-1]? with
 |none=>0
 |some x=>if(x.dst !=q.dst)=true then 24 else if(q.back&&decide (x.arr>q.time))=true then 10 else if decide ((l.countP gV:Int)>q.b9)=true then 33 else if decide (M7 l 0>q.walk)=true then 32 else rJ N l
theorem Md{k:Nat}(h:k<l.length):(((l.take (k+1)).countP gV:Nat):Int)=if gV l[k]=true then(((l.take k).countP gV:Nat):Int)+1 else(((l.take k).countP gV:Nat):Int):=by grind [List.take_succ_eq_append_getElem]
theorem count_le(k:Nat):(l.take k).countP gV≤k:=asT List.countP_le_length (by grind)
theorem ajG(h:vN N)(hg:As N l)(hl:l.length≤1000000)(ho:∀x∈l,x.Ok)(hz:0<l.length):jN [N.pv,q.pv,Kh l]=some (.int .i64 (FY N q l)):=by
 have hi:dA (l.map bx.pv) (IntKind.i64.wrap ((l.length:Int)-1))=some (l[l.length-1]'(by omega)).pv:=by grind [aZ,bp,bx.pv]
 have he:FY N q l=(let x:=l[l.length-1]'(by omega);if(x.dst !=q.dst)=true then 24 else if(q.back&&decide (x.arr>q.time))=true then 10 else if decide ((l.countP gV:Int)>q.b9)=true then 33 else if decide (M7 l 0>q.walk)=true then 32 else rJ N l):=by grind [FY,List.getElem?_eq_getElem]
 rw[he];simp only[jN,vh,lj,ll,lq,lr,lu,lv,lx,ly,lz,lA,Bd,Be,Bf,Bg,Bh,Bi,Bj,Bk,Bl,Bm,Bn,jA,j0,U,AI,hi];generalize l[l.length-1]'(by omega)=x;refine wL (fun k(_:Unit)=>((((l.take k).countP gV:Nat):Int),l.map bx.pv,(l.length:Int),(k:Int),N.stops.map Stop.pv,N.aj.map ax.pv,N.runs.map cy.pv,N.aH.map bq.pv,N.paths.map Path.pv,N.aK.map aM.pv,N.bn,N.within,N.cap,q.src,q.dst,q.time,q.back,q.b9,q.walk,q.free,q.rG,q.bP,q.HQ,l.map bx.pv,cell x.pv 0,cell x.pv 1,cell x.pv 2,cell x.pv 3,cell x.pv 4,cell x.pv 5,cell x.pv 6,cell x.pv 7,cell x.pv 8,())) (fun _ _=>some (PV.int .i64 (if(x.dst !=q.dst)=true then 24 else if(q.back&&decide (x.arr>q.time))=true then 10 else if decide ((l.countP gV:Int)>q.b9)=true then 33 else if decide (M7 l 0>q.walk)=true then 32 else rJ N l))) l.length (fun k hk e rec iV=>?_) (fun e rec=>?_) (by unfold rounds;omega) () (by simp)
 ·have hc:=count_le (l:=l) k;have hr:=iV ();rw[Md hk]at hr;unfold od;dsimp only;rw[IN (by simp;omega),bp bx.pv l k hk];simp only[U,mq,jK,kS,kR,mj,kQ,mi,kj,kn,iW,aJ,ab (show k<9223372036854775807 by omega)];have hb:(l[k].cr&& !l[k].stay)=gV l[k]:=rfl;rw[hb];cases hx:gV l[k]with
  |true=>rw[hx,IN rfl]at hr;rw[IN rfl,aZ (by omega) (by omega)];omega
  |false=>simp_all
 ·obtain⟨a,b,c,d,f,ts,adL⟩:=ahm (q:=q) h hg hl ho;unfold od;dsimp only;rw[IT (by simp),asJ];simp only[U,mq,jK,kS,kR,mj,kQ,mi,kj,kn,iW,aJ,He,pU,jF,Sc l hl ho,aI,adL,t3,g5,abm,ahH,aS];grind
theorem ahn(h:vN N)(hg:As N l)(hl:l.length≤1000000)(ho:∀x∈l,x.Ok)(hz:0<l.length):yE [N.pv,q.pv,Kh l]=some (.int .i64 (FY N q l)):=by
 have hi:dA (l.map bx.pv) (IntKind.i64.wrap ((l.length:Int)-1))=some (l[l.length-1]'(by omega)).pv:=by grind [aZ,bp,bx.pv]
 have he:FY N q l=(let x:=l[l.length-1]'(by omega);if(x.dst !=q.dst)=true then 24 else if(q.back&&decide (x.arr>q.time))=true then 10 else if decide ((l.countP gV:Int)>q.b9)=true then 33 else if decide (M7 l 0>q.walk)=true then 32 else rJ N l):=by grind [FY,List.getElem?_eq_getElem]
 have main:ba.run (vo) (0,0,N.stops.map Stop.pv,N.aj.map ax.pv,N.runs.map cy.pv,N.aH.map bq.pv,N.paths.map Path.pv,N.aK.map aM.pv,N.bn,N.within,N.cap,q.src,q.dst,q.time,q.back,q.b9,q.walk,q.free,q.rG,q.bP,q.HQ,l.map bx.pv,())=some (PV.int .i64 (if decide ((l.countP gV:Int)>q.b9)=true then 33 else if decide (M7 l 0>q.walk)=true then 32 else rJ N l)):=by
  refine wL (fun k(_:Unit)=>((((l.take k).countP gV:Nat):Int),(k:Int),N.stops.map Stop.pv,N.aj.map ax.pv,N.runs.map cy.pv,N.aH.map bq.pv,N.paths.map Path.pv,N.aK.map aM.pv,N.bn,N.within,N.cap,q.src,q.dst,q.time,q.back,q.b9,q.walk,q.free,q.rG,q.bP,q.HQ,l.map bx.pv,())) (fun _ _=>some (PV.int .i64 (if decide ((l.countP gV:Int)>q.b9)=true then 33 else if decide (M7 l 0>q.walk)=true then 32 else rJ N l))) l.length (fun k hk e rec iV=>?_) (fun e rec=>?_) (by unfold rounds;omega) () (by simp)
  ·have hc:=count_le (l:=l) k;have hr:=iV ();rw[Md hk]at hr;unfold vo;dsimp only;rw[IN (by simp;omega),bp bx.pv l k hk];simp only[U,mq,jK,kS,kR,mj,kQ,mi,kj,kn,iW,aJ,ab (show k<9223372036854775807 by omega)];have hb:(l[k].cr&& !l[k].stay)=gV l[k]:=rfl;rw[hb];cases hx:gV l[k]with
   |true=>rw[hx,IN rfl]at hr;rw[IN rfl,aZ (by omega) (by omega)];omega
   |false=>simp_all
  ·obtain⟨a,b,c,d,f,ts,adL⟩:=adM (q:=q) h hg hl ho;unfold vo;dsimp only;rw[IT (by simp),asJ];simp only[U,He,pU,jF,OD l hl ho,aI,adL,t3,g5,abm,ahH,aS];grind
 rw[he];simp only[yE,ID,lj,ll,lq,lr,lu,lv,lx,ly,lz,lA,Bd,Be,Bf,Bg,Bh,Bi,Bj,Bk,Bl,Bm,Bn,jA,j0,U,AI,hi,main,mq,jK,kS,kR,mj,kQ,mi,kj,kn,iW,aJ];grind
theorem PR(hf:Fh N q l=0):As N l:=by
 have hp:=FX.1 hf;have TG:∀k(h:k<l.length),oM N q l[k]=0:=fun k hk=>by grind [eU,List.getElem?_eq_getElem]
 refine⟨fun k hk=>?_,fun k hk=>?_,fun k hk hs=>?_⟩
 ·grind [oM]
 ·grind [oM]
 ·have h1:=hp k hk;unfold eU at h1;rw[cN hk]at h1;simp only[TG k hk,BY]at h1;cases k with
  |zero=>
   rw[IN rfl]at h1;have:Bc N q l l[0]≠0:=by unfold Bc;grind
   omega
  |succ j=>
   refine⟨j,Nat.lt_of_succ_lt hk,rfl,?_⟩;have ze:j<l.length:=by omega
   rw[IT (show¬(j+1=0) by omega),show j+1-1=j by omega,cN ze]at h1;simp only at h1;cases hr:l[j].cr with
   |true=>rfl
   |false=>
    exfalso;have hj:wF N l[j] l[j+1]≠0:=by unfold wF;grind
    omega
noncomputable def iK(N:an)(q:iJ)(l:List bx):Int×Int:=
 if Fg N q=0 then(if l.length=0 then(if(q.src !=q.dst)=true then(0,24)else(0,0))else if Fh N q l=0 then(if FY N q l=0 then(0,0)else((l.length:Int)-1,FY N q l))else((Sa N q l:Int),Fh N q l))
 else(0,Fg N q)
theorem UK{N:an}{q:iJ}(hN:N.Ok)(hp:N.paths.length≤4096)(h:Fg N q=0):vN N∧qOk N.stops.length q=true:=by
 unfold Fg at h;split at h
 ·rename_i hr;refine⟨⟨hN,hp,hr⟩,?_⟩;simp_all
 omega
theorem aho{n:Int}{q:iJ}(h:qOk n q=true):(q.HQ&&q.back)=false:=by unfold qOk at h;grind
end
section
variable {N:an} {q:iJ} {l:List bx}
theorem ade(hN:N.Ok)(hp:N.paths.length≤4096)(hl:l.length≤1000000)(ho:∀x∈l,x.Ok):gq [N.pv,q.pv,Kh l]=some (.aG [.int .i64 (iK N q l).1,.int .i64 (iK N q l).2]):=by
 have hm:=ai;simp only[gq,qd,lj,ll,lq,lr,lu,lv,lx,ly,lz,lA,Bd,Be,Bf,Bg,Bh,Bi,Bj,Bk,Bl,Bm,Bn,jA,j0,U,pU,He,jF,ag8 N q hN hp,aI,AI];unfold iK;by_cases hc:Fg N q=0
 ·obtain⟨hv,hq⟩:=UK hN hp hc;rw[IT (by simp[hc]),IN hc];by_cases hz:l.length=0
  ·grind
  ·have TC:l.length≤maxLen:=by unfold maxLen;omega
   rw[IT (by simpa using hz),IT hz,ahf hv TC];simp only[U,t2,abm,ahH,aI];by_cases hf:Fh N q l=0
   ·rw[IT (by simp[hf]),IN hf,ajG hv (PR hf) hl ho (by omega)];simp only[U,aI];by_cases he:FY N q l=0
    ·simp_all
    ·rw[IN (by simpa using he),IT he,aZ (by omega) (by omega)]
   simp_all
 simp_all
theorem ag5(hN:N.Ok)(hp:N.paths.length≤4096)(hl:l.length≤1000000)(ho:∀x∈l,x.Ok):sP [N.pv,q.pv,Kh l]=some (.aG [.int .i64 (iK N q l).1,.int .i64 (iK N q l).2]):=by
 have hm:=ai;simp only[sP,Dg,lj,ll,lq,lr,lu,lv,lx,ly,lz,lA,Bd,Be,Bf,Bg,Bh,Bi,Bj,Bk,Bl,Bm,Bn,jA,j0,U,pU,He,ajA N q hN hp,aI,AI];unfold iK;by_cases hc:Fg N q=0
 ·obtain⟨hv,hq⟩:=UK hN hp hc;rw[IT (by simp[hc]),IN hc];by_cases hz:l.length=0
  ·grind
  ·have TC:l.length≤maxLen:=by unfold maxLen;omega
   rw[IT (by simpa using hz),IT hz];refine(nT (fun j(_:Unit)=>((j:Int),N.stops.map Stop.pv,N.aj.map ax.pv,N.runs.map cy.pv,N.aH.map bq.pv,N.paths.map Path.pv,N.aK.map aM.pv,N.bn,N.within,N.cap,q.src,q.dst,q.time,q.back,q.b9,q.walk,q.free,q.rG,q.bP,q.HQ,l.map bx.pv,())) (fun j _=>if eAt (eU N q l) l.length (OC (eU N q l) (l.length-j) j)=0 then some (PV.aG [.int .i64 (if FY N q l=0 then((0:Int),(0:Int))else((l.length:Int)-1,FY N q l)).1,.int .i64 (if FY N q l=0 then((0:Int),(0:Int))else((l.length:Int)-1,FY N q l)).2])else some (PV.aG [.int .i64 ((OC (eU N q l) (l.length-j) j:Nat):Int),.int .i64 (eAt (eU N q l) l.length (OC (eU N q l) (l.length-j) j))])) (fun j _=>∀i,i<j→eU N q l i=0) l.length (fun j hj e rec hi iV=>?_) (fun e rec hi=>?_) (by unfold rounds;omega) () (fun i hi=>by omega) rfl).trans ?_
   ·unfold wR;dsimp only;rw[IN (by simp;omega)];simp only[pU,He,jF,ajC hv hj TC (aho hq),U,aI,ab (show j<9223372036854775807 by omega),R8 _ hj];by_cases h0:eU N q l j=0
    ·rw[IT (by simp[h0]),IN h0];exact iV () fun i uI=>by grind
    ·have e1:eAt (eU N q l) l.length j=eU N q l j:=by unfold eAt;omega
     simp_all
   ·have e1:eAt (eU N q l) l.length (OC (eU N q l) (l.length-l.length) l.length)=0:=by simp[aui,OC,eAt,Nat.lt_irrefl,IS]
    rw[e1,IN rfl];have hf:Fh N q l=0:=FX.2 hi;unfold wR;dsimp only;rw[IT (by simp)];simp only[pU,He,jF,ahn hv (PR hf) hl ho (show 0<l.length by omega),U,aI,AI];by_cases he:FY N q l=0
    ·simp_all
    ·rw[IN (by simpa using he),IT he,aZ (by omega) (by omega)]
   ·rw[au3];show(if Fh N q l=0 then _ else some (PV.aG [.int .i64 (Sa N q l:Int),.int .i64 (Fh N q l)]))=_;grind
 simp_all
end
end Go.Ab.Tt
