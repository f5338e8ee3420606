import Derived.Test.YtanikidijjaohaaGreatFbP2
namespace Go.Ab.Tt
set_option maxRecDepth 100000
set_option linter.unusedVariables false
set_option linter.unusedSimpArgs false
theorem rH.aR{N:ag}(h:rH N):(∀p∈N.aR,VC p)∧N.aR.length≤16:=by
 have h1:=h.parts.2.2;unfold dd at h1;split at h1
 ·cases h1
 ·split at h1
  ·cases h1
  ·rename_i _ hle;refine⟨fun p hp=>?_,by omega⟩;obtain⟨k,hk,rfl⟩:=List.getElem_of_mem hp;have:=(nJ _ _).1 h1 k hk;unfold CN at this;rw[List.getElem?_eq_getElem hk]at this;simp only at this;split at this
   ·cases this
   ·split at this
    ·cases this
    ·split at this
     ·cases this
     ·rename_i hb;unfold uJ wi at hb;simp only[Bool.or_eq_true,Bool.not_eq_true',not_or,Bool.not_eq_false,Bool.and_eq_true,decide_eq_true_eq]at hb;exact⟨⟨by omega,by omega⟩,⟨by omega,by omega⟩,by omega,by omega⟩
section
variable {N:ag} {q:jw} {l:List cw}
theorem SB(h:rH N)(hg:B4 N l):∀m k out,k+m=l.length→Kf l k out→∀y∈jx N (l.drop k) out,A8 y:=by
 intro m;induction m with
 |zero=>intro k out e hi;rw[show k=l.length by omega,List.drop_length];exact hi.ok
 |succ m ih=>
  intro k out e hi;have hk:k<l.length:=by omega
  rw[jJ hk];exact ih (k+1) _ (by omega) (yN h hg hk hi)
theorem OD(h:rH N)(hg:B4 N l):∀y∈jx N l [],A8 y:=by have:=SB h hg l.length 0 [] (by omega) ⟨by simp,fun y hy=>by simp at hy,fun hh=>by cases hh⟩;simpa using this
theorem OE{P:List aH}{d w c:Int}(ZA:P.length≤maxLen∧∀y∈P,aH.Ok y)(hf:(dd P d w c).2=0){rs:List Rd}(hn:8<rs.length):fp [df P d w c,.rs 4 (rs.map Rd.pv)]=some (.bt [.int .i64 0,.rs 4 [],.int .i64 33]):=by
 have hv:iZ [df P d w c,.rs 4 (rs.map Rd.pv)]=some (.int .i64 33):=by simp only[iZ,uv,xJ,xK,xM,xO,xR,aS,U,EI,yP P d w c ZA,List.length_map,hf];simp[res,cP,Ab.asInt];omega
 simp only[fp,uA,xJ,xK,xM,xO,xR,aS,U,EI,hv,aI];rw[if_pos (by decide)]
open Classical in
noncomputable def tE(N:ag)(l:List cw):Int:=if 8<(jx N l []).length then 33 else if zO N.aR (jx N l []) 0 then 0 else 34
theorem VJ:PV.agg [.rs 6 (N.aR.map aH.pv),.int .i64 N.bu,.int .i64 N.within,.int .i64 N.cap]=df N.aR N.bu N.within N.cap:=rfl
theorem t2(a b:PV):cP 2 (.bt [a,b])=some [a,b]:=rfl
theorem t3(a b c:PV):cP 3 (.bt [a,b,c])=some [a,b,c]:=rfl
theorem g5(a b c d e:PV):asAgg 5 (.agg [a,b,c,d,e])=some ():=rfl
theorem X7(h:rH N)(hg:B4 N l)(hl:l.length≤1000000)(ho:∀x∈l,x.Ok):∃a b c d e ts,kg [N.pv,q.pv,yJ l]=some (.bt [.agg [.int .i64 a,.int .i64 b,.int .i64 c,.int .i64 d,.int .i64 e],.rs 4 ts,.int .i64 (tE N l)]):=by
 obtain⟨hP,QS⟩:=h.aR;have ZC:=OD h hg;have ZA:N.aR.length≤maxLen∧∀y∈N.aR,aH.Ok y:=⟨h.ok.aR.1,h.ok.aR.2⟩;have hf:=h.parts.2.2;simp only[kg,uB,gL,gM,gN,gO,gP,gQ,gR,gS,gT,gU,pM,qS,qT,qU,qV,qW,qX,qY,qZ,q6,q7,jA,j0,U,l8,jF,Vz h hg hl,t2,List.getD_cons_zero,List.getD_cons_succ,aS,aI,VJ,List.length_map];rw[if_neg (by decide)];by_cases hn:8<(jx N l []).length
 ·rw[OE ZA hf hn];simp only[U,t3,List.getD_cons_zero,List.getD_cons_succ,aS,aI];rw[if_pos (by decide)];unfold tE;rw[if_pos hn];exact⟨_,_,_,_,_,_,rfl⟩
 ·obtain⟨p1,p2⟩:=VH (d:=N.bu) (w:=N.within) (c:=N.cap) ZA hf hP QS (show(jx N l []).length≤8 by omega) ZC;by_cases hk:zO N.aR (jx N l []) 0
  ·obtain⟨v,ts,hv⟩:=p1 hk;rw[hv];simp only[U,t3,List.getD_cons_zero,List.getD_cons_succ,aS,aI,Kc l hl ho];rw[if_neg (by decide)];unfold tE;rw[if_neg hn,if_pos hk];by_cases hz:0<l.length
   ·rw[if_pos (by simp;omega),show aO (l.map cw.pv) 0=_ from cG cw.pv l 0 hz,bF (by omega) (by omega),show(l.length:Int)-1=((l.length-1:Nat):Int) by omega,cG cw.pv l (l.length-1) (by omega)];simp only[U,iE,gK,iR,iS,iT,iU,iV,iW,iX,ir];exact⟨_,_,_,_,_,_,rfl⟩
   ·rw[if_neg (by simpa using hz)];exact⟨_,_,_,_,_,_,rfl⟩
  ·rw[p2 hk];simp only[U,t3,List.getD_cons_zero,List.getD_cons_succ,aS,aI];rw[if_pos (by decide)];unfold tE;rw[if_neg hn,if_neg hk];exact⟨_,_,_,_,_,_,rfl⟩
end
end Go.Ab.Tt
namespace Go.Ab.Tt
set_option maxRecDepth 100000
set_option linter.unusedVariables false
set_option linter.unusedSimpArgs false
section
variable {N:ag} {q:jw} {l:List cw}
noncomputable def Bb(N:ag)(q:jw)(l:List cw):Int:=match l[l.length-1]? with
 |none=>0
 |some x=>if(x.dst !=q.dst)=true then 24 else if(q.back&&decide (x.arr>q.time))=true then 10 else if decide ((l.countP tD:Int)>q.cE)=true then 33 else if decide (QE l 0>q.walk)=true then 32 else tE N l
theorem OG{k:Nat}(h:k<l.length):(((l.take (k+1)).countP tD:Nat):Int)=if tD l[k]=true then(((l.take k).countP tD:Nat):Int)+1 else(((l.take k).countP tD:Nat):Int):=by rw[List.take_succ_eq_append_getElem h,List.countP_append,List.countP_cons,List.countP_nil];split<;>simp
theorem count_le(k:Nat):(l.take k).countP tD≤k:=Nat.le_trans List.countP_le_length (by rw[List.length_take];omega)
theorem aaO(h:rH N)(hg:B4 N l)(hl:l.length≤1000000)(ho:∀x∈l,x.Ok)(hz:0<l.length):kh [N.pv,q.pv,yJ l]=some (.int .i64 (Bb N q l)):=by
 have hi:aO (l.map cw.pv) (IntKind.i64.wrap ((l.length:Int)-1))=some (l[l.length-1]'(by omega)).pv:=by rw[bF (by omega) (by omega),show(l.length:Int)-1=((l.length-1:Nat):Int) by omega,cG cw.pv l (l.length-1) (by omega)]
 have he:Bb N q l=(let x:=l[l.length-1]'(by omega);if(x.dst !=q.dst)=true then 24 else if(q.back&&decide (x.arr>q.time))=true then 10 else if decide ((l.countP tD:Int)>q.cE)=true then 33 else if decide (QE l 0>q.walk)=true then 32 else tE N l):=by unfold Bb;rw[List.getElem?_eq_getElem (show l.length-1<l.length by omega)]
 rw[he];simp only[kh,uk,gL,gM,gN,gO,gP,gQ,gR,gS,gT,gU,pM,qS,qT,qU,qV,qW,qX,qY,qZ,q6,q7,jA,j0,U,List.length_map,hi];generalize l[l.length-1]'(by omega)=x;refine oF (fun k(_:Unit)=>((((l.take k).countP tD:Nat):Int),l.map cw.pv,(l.length:Int),(k:Int),N.stops.map Stop.pv,N.au.map aG.pv,N.runs.map dS.pv,N.aJ.map bg.pv,N.paths.map Path.pv,N.aR.map aH.pv,N.bu,N.within,N.cap,q.src,q.dst,q.time,q.back,q.cE,q.walk,q.free,q.l7,q.bn,q.vk,l.map cw.pv,cell x.pv 0,cell x.pv 1,cell x.pv 2,cell x.pv 3,cell x.pv 4,cell x.pv 5,cell x.pv 6,cell x.pv 7,cell x.pv 8,())) (fun _ _=>some (PV.int .i64 (if(x.dst !=q.dst)=true then 24 else if(q.back&&decide (x.arr>q.time))=true then 10 else if decide ((l.countP tD:Int)>q.cE)=true then 33 else if decide (QE l 0>q.walk)=true then 32 else tE N l))) l.length (fun k hk e rec fM=>?_) (fun e rec=>?_) (by unfold rounds;omega) () (by simp)
 ·have hc:=count_le (l:=l) k;have hr:=fM ();rw[OG hk]at hr;unfold pq;dsimp only;rw[if_pos (by simp;omega),cG cw.pv l k hk];simp only[U,iE,gK,iR,iS,iT,iU,iV,iW,iX,ir,aZ,ai (show k<9223372036854775807 by omega)];have hb:(l[k].dr&& !l[k].stay)=tD l[k]:=rfl;rw[hb];cases hx:tD l[k]with
  |true=>rw[hx,if_pos rfl]at hr;rw[if_pos rfl,bF (by omega) (by omega)];exact hr
  |false=>rw[hx,if_neg (by simp)]at hr;rw[if_neg (by simp)];exact hr
 ·obtain⟨a,b,c,d,f,ts,acj⟩:=X7 (q:=q) h hg hl ho;unfold pq;dsimp only;rw[if_neg (by simp),List.take_length];simp only[U,iE,gK,iR,iS,iT,iU,iV,iW,iX,ir,aZ,yI,l8,jF,Kc l hl ho,aI,acj,t3,g5,List.getD_cons_zero,List.getD_cons_succ,aS];cases(x.dst !=q.dst)<;>cases(q.back&&decide (x.arr>q.time))<;>cases decide ((l.countP tD:Int)>q.cE)<;>cases decide (QE l 0>q.walk)<;>rfl
theorem X8(hf:tC N q l=0):B4 N l:=by
 have hp:=yM.1 hf;have JO:∀k(h:k<l.length),gF N q l[k]=0:=fun k hk=>by
  have:=hp k hk;unfold iY at this;rw[List.getElem?_eq_getElem hk]at this;simp only at this;split at this
  ·assumption
  ·contradiction
 refine⟨fun k hk=>?_,fun k hk=>?_,fun k hk hs=>?_⟩
 ·have:=JO k hk;unfold gF at this;split at this
  ·cases this
  ·rename_i hh;simpa using hh
 ·have:=JO k hk;unfold gF at this;split at this
  ·cases this
  ·split at this
   ·cases this
   ·rename_i hh;simpa using hh
 ·have h1:=hp k hk;unfold iY at h1;rw[List.getElem?_eq_getElem hk]at h1;simp only[JO k hk,if_true]at h1;cases k with
  |zero=>
   rw[if_pos rfl]at h1;have:j5 N q l l[0]≠0:=by
    unfold j5;rw[hs];split
    ·decide
    ·rw[if_pos rfl];decide
   rw[if_neg this]at h1;exact absurd h1 this
  |succ j=>
   refine⟨j,Nat.lt_of_succ_lt hk,rfl,?_⟩;have Al:j<l.length:=by omega
   rw[if_neg (show¬(j+1=0) by omega),show j+1-1=j by omega,List.getElem?_eq_getElem Al]at h1;simp only at h1;cases hr:l[j].dr with
   |true=>rfl
   |false=>
    exfalso;have hj:va N l[j] l[j+1]≠0:=by
     unfold va;split
     ·decide
     ·split
      ·decide
      ·rw[if_pos (by simp[hs,hr])];decide
    rw[if_neg hj,if_neg hj]at h1;exact hj h1
noncomputable def nP(N:ag)(q:jw)(l:List cw):Int×Int:=
 if fZ N q=0 then(if l.length=0 then(if(q.src !=q.dst)=true then(0,24)else(0,0))else if tC N q l=0 then(if Bb N q l=0 then(0,0)else((l.length:Int)-1,Bb N q l))else((zM N q l:Int),tC N q l))
 else(0,fZ N q)
theorem OH{N:ag}{q:jw}(hN:N.Ok)(hp:N.paths.length≤4096)(h:fZ N q=0):rH N∧HX N.stops.length q=true:=by
 unfold fZ at h;split at h
 ·rename_i hr;refine⟨⟨hN,hp,hr⟩,?_⟩;split at h
  ·assumption
  ·cases h
 ·cases h
theorem X9{n:Int}{q:jw}(h:HX n q=true):(q.vk&&q.back)=false:=by unfold HX at h;simp only[Bool.and_eq_true]at h;exact Bool.not_eq_true' _▸h.2
end
end Go.Ab.Tt
namespace Go.Ab.Tt
set_option maxRecDepth 100000
set_option linter.unusedVariables false
set_option linter.unusedSimpArgs false
section
variable {N:ag} {q:jw} {l:List cw}
theorem zP(hN:N.Ok)(hp:N.paths.length≤4096)(hl:l.length≤1000000)(ho:∀x∈l,x.Ok):bp [N.pv,q.pv,yJ l]=some (.bt [.int .i64 (nP N q l).1,.int .i64 (nP N q l).2]):=by
 have hm:=aY;simp only[bp,mA,gL,gM,gN,gO,gP,gQ,gR,gS,gT,gU,pM,qS,qT,qU,qV,qW,qX,qY,qZ,q6,q7,jA,j0,U,l8,yI,jF,CK N q hN hp,aI,List.length_map];unfold nP;by_cases hc:fZ N q=0
 ·obtain⟨hv,hq⟩:=OH hN hp hc;rw[if_neg (by simp[hc]),if_pos hc];by_cases hz:l.length=0
  ·rw[if_pos (by simpa using hz),if_pos hz];by_cases hd:(q.src !=q.dst)=true
   ·rw[if_pos hd,if_pos hd]
   ·rw[if_neg hd,if_neg hd]
  ·have CH:l.length≤maxLen:=by unfold maxLen;omega
   rw[if_neg (by simpa using hz),if_neg hz,QD hv CH];simp only[U,t2,List.getD_cons_zero,List.getD_cons_succ,aI];by_cases hf:tC N q l=0
   ·rw[if_neg (by simp[hf]),if_pos hf,aaO hv (X8 hf) hl ho (by omega)];simp only[U,aI];by_cases he:Bb N q l=0
    ·rw[if_neg (by simp[he]),if_pos he]
    ·rw[if_pos (by simpa using he),if_neg he,bF (by omega) (by omega)]
   ·rw[if_pos (by simpa using hf),if_neg hf]
 ·rw[if_pos (by simpa using hc),if_neg hc]
end
end Go.Ab.Tt
namespace Go.Ab.Tt
set_option maxRecDepth 100000
set_option linter.unusedVariables false
set_option linter.unusedSimpArgs false
section
variable {N:ag} {q:jw} {l:List cw}
theorem OI(hN:N.Ok)(hp:N.paths.length≤4096)(hl:l.length≤maxLen):eX [N.pv,q.pv,yJ l]=some (.int .i64 (if fZ N q=0 then(zM N q l:Int)else 0)):=by
 simp only[eX,pd,gL,gM,gN,gO,gP,gQ,gR,gS,gT,gU,pM,qS,qT,qU,qV,qW,qX,qY,qZ,q6,q7,jA,j0,U,l8,yI,jF,CK N q hN hp,aI];by_cases hc:fZ N q=0
 ·obtain⟨hv,hq⟩:=OH hN hp hc;rw[if_neg (by simp[hc]),if_pos hc,QD hv hl];simp only[U,t2,List.getD_cons_zero,List.getD_cons_succ,aI]
 ·rw[if_pos (by simpa using hc),if_neg hc]
theorem wv(N:ag)(p:PV)(es:List PV)(hA:asAgg 1 p=some ())(hS:aa 9 (cell p 0)=some es):∃b,eG [N.pv,p]=some (.bool b)∧(b=true→N.paths.length≤200∧es.length≤20):=by
 simp only[eG,vY,gL,gM,gN,gO,gP,gQ,gR,gS,gT,gU,hA,hS,U,aW,List.length_map];split
 ·exact⟨false,rfl,fun h=>by cases h⟩
 ·rename_i hc;simp only[Bool.or_eq_true,decide_eq_true_eq,not_or]at hc;refine⟨N.runs.all fun r=> !decide ((r.calls.length:Int)>40),?_,fun _=>by omega⟩;refine oF (fun j(_:Unit)=>((N.runs.length:Int),(j:Int),N.stops.map Stop.pv,N.au.map aG.pv,N.runs.map dS.pv,N.aJ.map bg.pv,N.paths.map Path.pv,N.aR.map aH.pv,N.bu,N.within,N.cap,())) (fun j _=>some (PV.bool ((N.runs.drop j).all fun r=> !decide ((r.calls.length:Int)>40)))) N.runs.length (fun j hj e rec fM=>?_) (fun e rec=>?_) (by unfold rounds;omega) () rfl
  ·unfold rf;dsimp only;rw[if_pos (by simp;omega),cG dS.pv N.runs j hj,jJ hj];simp only[U,zJ,aS,List.length_map,ai (show j<9223372036854775807 by omega),fM (),List.all_cons];by_cases h:decide ((N.runs[j].calls.length:Int)>40)=true
   ·rw[if_pos h,h];rfl
   ·rw[if_neg h,Bool.eq_false_iff.2 h];rfl
  ·unfold rf;dsimp only;rw[if_neg (by simp),List.drop_length];rfl
end
end Go.Ab.Tt
namespace Go.Ab.Tt
set_option maxRecDepth 100000
set_option linter.unusedVariables false
set_option linter.unusedSimpArgs false
def xN(k:List bg):ag:=⟨[⟨[65],0,false,0⟩,⟨[66],0,false,120⟩,⟨[67],0,false,0⟩],[⟨[82],0,false⟩],[⟨0,0,0,[116],0,false,false,[⟨0,100,100,true,false⟩,⟨1,200,200,false,true⟩]⟩,⟨0,0,0,[117],0,false,false,[⟨1,260,260,true,false⟩,⟨2,400,400,false,true⟩]⟩],k,[],[⟨[112],150,1,1,0,1⟩],0,0,0⟩
def xQ:jw:=⟨0,2,0,false,2,0,false,false,0,false⟩
def xL:List cw:=[⟨true,0,0,1,0,1,100,200,false⟩,⟨true,1,0,1,1,2,260,400,false⟩]
def xP(k:List bg):PV:=.agg [.rs 4 ((xN k).stops.map Stop.pv),.rs 3 ((xN k).au.map aG.pv),.rs 8 ((xN k).runs.map dS.pv),.rs 5 (k.map bg.pv),.rs 0 [],.rs 6 ((xN k).aR.map aH.pv),.int .i64 0,.int .i64 0,.int .i64 0]
theorem B5(p:PV)(N:ag)(q:jw)(l:List cw)(hA:asAgg 9 p=some ())(h0:aa 4 (cell p 0)=some (N.stops.map Stop.pv))(h1:aa 3 (cell p 1)=some (N.au.map aG.pv))(h2:aa 8 (cell p 2)=some (N.runs.map dS.pv))(h3:aa 5 (cell p 3)=some (N.aJ.map bg.pv))(h4:aa 4 (cell p 4)=some (N.paths.map Path.pv))(h5:aa 6 (cell p 5)=some (N.aR.map aH.pv))(h6:Ab.asInt .i64 (cell p 6)=some N.bu)(h7:Ab.asInt .i64 (cell p 7)=some N.within)(h8:Ab.asInt .i64 (cell p 8)=some N.cap):bp [p,q.pv,yJ l]=bp [N.pv,q.pv,yJ l]:=by simp only[bp,mA,hA,h0,h1,h2,h3,h4,h5,h6,h7,h8,gL,gM,gN,gO,gP,gQ,gR,gS,gT,gU,U]
theorem ZD{k:List bg}(hk:k.length≤1)(ho:∀y∈k,y.Ok):(xN k).Ok where
 stops:=⟨(by decide:3≤maxLen),fun y hy=>by simp only[xN,List.mem_cons,List.not_mem_nil,or_false]at hy;rcases hy with rfl|rfl|rfl<;>exact⟨by decide,by decide,by decide⟩⟩
 au:=⟨(by decide:1≤maxLen),fun y hy=>by simp only[xN,List.mem_cons,List.not_mem_nil,or_false]at hy;subst hy;exact⟨by decide,by decide⟩⟩
 runs:=⟨(by decide:2≤maxLen),fun y hy=>by
  simp only[xN,List.mem_cons,List.not_mem_nil,or_false]at hy;rcases hy with rfl|rfl
  all_goals refine⟨by decide,by decide,by decide,by decide,by decide,by decide,fun z hz=>?_⟩;simp only[List.mem_cons,List.not_mem_nil,or_false]at hz;rcases hz with rfl|rfl<;>exact⟨by decide,by decide,by decide⟩⟩
 aJ:=⟨Nat.le_trans hk (by decide),ho⟩
 paths:=⟨by simp[xN],fun y hy=>by simp[xN]at hy⟩
 aR:=⟨(by decide:1≤maxLen),fun y hy=>by simp only[xN,List.mem_cons,List.not_mem_nil,or_false]at hy;subst hy;exact⟨by decide,by decide,by decide,by decide,by decide,by decide⟩⟩
 bu:=by show ma 0;decide
 within:=by show ma 0;decide
 cap:=by show ma 0;decide
theorem ZE:∀x∈xL,x.Ok:=fun x hx=>by simp only[xL,List.mem_cons,List.not_mem_nil,or_false]at hx;rcases hx with rfl|rfl<;>exact⟨by decide,by decide,by decide,by decide,by decide,by decide,by decide⟩
deriving instance DecidableEq for Rd
theorem aaP:tE (xN [⟨0,1,1,0,false⟩]) xL=0:=by
 have hr:jx (xN [⟨0,1,1,0,false⟩]) xL []=[⟨100,200,1,1⟩,⟨260,400,1,1⟩]:=by decide+kernel
 unfold tE;rw[hr,if_neg (by decide),if_pos];exact .step 0 0 (by decide) (by decide) (.step 1 1 (by decide) (by decide) .fin (by decide+kernel)) (by decide+kernel)
theorem x_a:nP (xN []) xQ xL=(1,28):=by
 have h1:fZ (xN []) xQ=0:=by decide+kernel
 have h2:tC (xN []) xQ xL=28:=by decide+kernel
 have h3:zM (xN []) xQ xL=1:=by decide+kernel
 unfold nP;rw[if_pos h1,if_neg (by decide),h2,h3,if_neg (by decide)];rfl
theorem x_b:nP (xN [⟨0,1,1,0,false⟩]) xQ xL=(0,0):=by
 have h1:fZ (xN [⟨0,1,1,0,false⟩]) xQ=0:=by decide+kernel
 have h2:tC (xN [⟨0,1,1,0,false⟩]) xQ xL=0:=by decide+kernel
 have h3:Bb (xN [⟨0,1,1,0,false⟩]) xQ xL=0:=by unfold Bb;rw[show xL[xL.length-1]?=some ⟨true,1,0,1,1,2,260,400,false⟩from rfl];simp only;rw[if_neg (by decide),if_neg (by decide),if_neg (by decide),if_neg (by decide),aaP]
 unfold nP;rw[if_pos h1,if_neg (by decide),if_pos h2,if_pos h3]
theorem GX(k:List bg)(p:PV)(hp:aa 5 p=some (k.map bg.pv)):iA [p]=some (.bt [xP k,xQ.pv,yJ xL]):=by simp only[iA,uC,hp,U];rfl
theorem wx:aL []=some (.bool true):=by have e1:=B5 (xP []) (xN []) xQ xL rfl rfl rfl rfl rfl rfl rfl rfl rfl rfl;have e2:=B5 (xP [⟨0,1,1,0,false⟩]) (xN [⟨0,1,1,0,false⟩]) xQ xL rfl rfl rfl rfl rfl rfl rfl rfl rfl rfl;have c1:=zP (q:=xQ) (l:=xL) (ZD (k:=[]) (by decide) (fun y hy=>by cases hy)) (by decide) (by decide) ZE;have c2:=zP (q:=xQ) (l:=xL) (ZD (k:=[⟨0,1,1,0,false⟩]) (by decide) (fun y hy=>by simp only[List.mem_cons,List.not_mem_nil,or_false]at hy;subst hy;exact⟨by decide,by decide,by decide,by decide⟩)) (by decide) (by decide) ZE;rw[←e1,x_a]at c1;rw[←e2,x_b]at c2;have h1:=GX [] (.rs 0 []) rfl;have h2:=GX [⟨0,1,1,0,false⟩] (.rs 5 [.agg [.int .i64 0,.int .i64 1,.int .i64 1,.int .i64 0,.bool false]]) rfl;have pE:∀k,PV.agg [cell (xP k) 0,cell (xP k) 1,cell (xP k) 2,cell (xP k) 3,cell (xP k) 4,cell (xP k) 5,cell (xP k) 6,cell (xP k) 7,cell (xP k) 8]=xP k:=fun k=>rfl;have jE:PV.agg [cell (yJ xL) 0]=yJ xL:=rfl;have pA:∀k,asAgg 9 (xP k)=some ():=fun k=>rfl;simp only[aL,lK,h1,h2,U,t3,t2,List.getD_cons_zero,List.getD_cons_succ,pA,pM,jA,pE,afM,jE,c1,c2,aI];rfl
end Go.Ab.Tt
namespace Go.Ab.Tt
set_option maxRecDepth 100000
set_option linter.unusedVariables false
set_option linter.unusedSimpArgs false
theorem SC(N:ag)(q:jw)(hN:N.Ok)(_:q.Ok):ek [N.pv,q.pv]=some (.bool true):=by
 obtain⟨b,hb,hs⟩:=wv N (PV.agg [.rs 0 []]) [] rfl rfl;simp only[ek,kK,gL,gM,gN,gO,gP,gQ,gR,gS,gT,gU,pM,qS,qT,qU,qV,qW,qX,qY,qZ,q6,q7,U,l8,yI,hb,aB,wx];cases b with
 |false=>rfl
 |true=>have:=(hs rfl).1;simp only[CK N q hN (by omega),Oj N q hN (by omega),U,aI];rw[if_neg (by decide),show(fZ N q==fZ N q)=true by simp];rfl
theorem Ya(N:ag)(q:jw)(x:cw)(hN:N.Ok)(_:q.Ok)(_:x.Ok):fh [N.pv,q.pv,x.pv]=some (.bool true):=by
 obtain⟨b,hb,hs⟩:=wv N (PV.agg [.rs 0 []]) [] rfl rfl;simp only[fh,mB,gL,gM,gN,gO,gP,gQ,gR,gS,gT,gU,pM,qS,qT,qU,qV,qW,qX,qY,qZ,q6,q7,iE,gK,iR,iS,iT,iU,iV,iW,iX,ir,U,l8,yI,Vd,hb,aB,wx];cases b with
 |false=>rfl
 |true=>have:=(hs rfl).1;simp only[Vv N q x hN (by omega),XR N q x hN (by omega),U,aI];rw[if_neg (by decide)];generalize (if fZ N q=0 then gF N q x else fZ N q)=v;rw[show(v==v)=true by simp];rfl
theorem OJ(N:ag)(q:jw)(l:List cw)(hN:N.Ok)(_:q.Ok)(hol:l.length≤maxLen∧∀x∈l,x.Ok):dV [N.pv,q.pv,yJ l]=some (.bool true):=by
 have ho:=hol.2;obtain⟨b,hb,hs⟩:=wv N (yJ l) (l.map cw.pv) rfl rfl;simp only[dV,j1,gL,gM,gN,gO,gP,gQ,gR,gS,gT,gU,pM,qS,qT,qU,qV,qW,qX,qY,qZ,q6,q7,jA,j0,U,l8,yI,jF,hb,aB,wx];cases b with
 |false=>rfl
 |true=>
  obtain⟨h1,h2⟩:=hs rfl;rw[List.length_map]at h2;have CH:l.length≤maxLen:=by unfold maxLen;omega
  simp only[Oj N q hN (show N.paths.length≤4096 by omega),OI (q:=q) hN (show N.paths.length≤4096 by omega) CH,U,aI];rw[if_neg (by decide)];by_cases hc:fZ N q=0
  ·obtain⟨hv,hq⟩:=OH hN (by omega) hc;rw[if_pos (by simpa using hc),Oo hv CH (X9 hq),if_pos hc];simp only[U,aI];rw[show((zM N q l:Int)==(zM N q l:Int))=true by simp];rfl
  ·rw[if_neg (by simpa using hc),if_neg hc];rfl
end Go.Ab.Tt
namespace Go.Ab.Tt
set_option maxRecDepth 100000
set_option linter.unusedVariables false
set_option linter.unusedSimpArgs false
structure FA(q q':jw):Prop where
 src:q'.src=q.src
 dst:q'.dst=q.dst
 back:q'.back=q.back
 vk:q'.vk=q.vk
 free:q.free=false→q'.free=false
 l7:q.l7=false→q'.l7=false
 bn:q'.bn=q.bn∨q'.bn=0
section
variable {N:ag} {q q':jw} {l:List cw}
theorem QT(hw:FA q q'){b:Bool}(h:(b|| !q.free)=true):(b|| !q'.free)=true:=by
 cases b with
 |true=>rfl
 |false=>
  have:q.free=false:=by simpa using h
  rw[hw.free this];rfl
theorem Yb(hw:FA q q')(x:cw):∀(ps:List Path)(e e':Int),e≠0→wk q x ps e=0→wk q' x ps e'=0:=by
 intro ps;induction ps with
 |nil=>intro e e' he h;exact absurd h he
 |cons p r ih=>
  intro e e' he h;rw[H0]at h⊢;by_cases hb:lx x p=true
  ·rw[if_pos hb]at h⊢;by_cases hf:(p.free|| !q.free)=true
   ·rw[if_pos (QT hw hf)]
   ·rw[if_neg hf]at h;split
    ·rfl
    ·exact ih 29 29 (by decide) h
  ·rw[if_neg hb]at h⊢;exact ih e e' he h
theorem GY(hw:FA q q'){i:Int}(h:tB N q i=true):tB N q' i=true:=by unfold tB at h⊢;rw[Bool.or_comm]at h⊢;exact QT hw h
theorem dD{c:Bool}{a b:Int}(ha:a≠0)(h:(if c=true then a else b)=0):c=false∧b=0:=by
 cases c with
 |true=>exact absurd h ha
 |false=>exact⟨rfl,h⟩
theorem OK(hw:FA q q'){x:cw}{r:dS}{t:aG}{a b:cO}(h:xI N q x r t a b=0):xI N q' x r t a b=0:=by
 unfold xI at h⊢;obtain⟨h1,h⟩:=dD (by decide) h;obtain⟨h2,h⟩:=dD (by decide) h;obtain⟨h3,h⟩:=dD (by decide) h;obtain⟨h4,h⟩:=dD (by decide) h;obtain⟨h5,h⟩:=dD (by decide) h;obtain⟨h6,h⟩:=dD (by decide) h;obtain⟨h7,h⟩:=dD (by decide) h;obtain⟨h8,h⟩:=dD (by decide) h;have k4:(q'.free&& !r.free)=false:=by
  cases hf:q.free with
  |false=>rw[hw.free hf];rfl
  |true=>rw[hf]at h4;cases q'.free<;>simp_all
 have k5:(q'.l7&& !t.l7)=false:=by
  cases hf:q.l7 with
  |false=>rw[hw.l7 hf];rfl
  |true=>rw[hf]at h5;cases q'.l7<;>simp_all
 have k6:JZ q' t=false:=by
  unfold JZ at h6⊢;rcases hw.bn with e|e
  ·rw[e];exact h6
  ·rw[e];rfl
 have k8:(!x.stay&& !tB N q' x.src)=false:=by
  cases hs:x.stay with
  |true=>rfl
  |false=>
   rw[hs]at h8;have:tB N q x.src=true:=by simpa using h8
   rw[GY hw this];rfl
 rw[h1,h2,h3,k4,k5,k6,h7,k8];rfl
theorem VK(hw:FA q q'){x:cw}(h:gF N q x=0):gF N q' x=0:=by
 unfold gF at h⊢;obtain⟨h1,h⟩:=dD (by decide) h;obtain⟨h2,h⟩:=dD (by decide) h;rw[h1,h2];simp only[Bool.false_eq_true,if_false];by_cases hr:x.dr=true
 ·rw[if_pos hr]at h⊢;unfold Qy at h⊢;cases hn:xi N x with
  |none=>rfl
  |some r=>
   rw[hn]at h;simp only at h⊢;split
   ·rename_i t a b e1 e2 e3;rw[e1,e2,e3]at h;exact OK hw h
   ·rfl
 ·rw[if_neg hr]at h⊢;exact Yb hw x N.paths 18 18 (by decide) h
theorem EN(hw:FA q q'){k:Nat}{x:cw}(h:pj N q l k x=0):pj N q' l k x=0:=by
 unfold pj at h⊢;have hh:∀c:Bool,(if c=true then(0:Int)else if(!ly N x)=true then 26 else if(!tB N q x.dst)=true then 29 else 0)=0→(if c=true then(0:Int)else if(!ly N x)=true then 26 else if(!tB N q' x.dst)=true then 29 else 0)=0:=fun c h=>by
  cases c with
  |true=>rfl
  |false=>rw[if_neg (by decide)]at h⊢;obtain⟨h1,h⟩:=dD (by decide) h;obtain⟨h2,h⟩:=dD (by decide) h;rw[h1,GY hw (by simpa using h2)];rfl
 exact hh _ h
theorem OL(hw:FA q q')(yO:∀x,l[0]?=some x→Cr x=false→j5 N q l x=0→j5 N q' l x=0){k:Nat}(h:iY N q l k=0):iY N q' l k=0:=by
 unfold iY at h⊢;cases hx:l[k]? with
 |none=>rfl
 |some x=>
  rw[hx]at h;simp only at h⊢;by_cases hl:gF N q x=0
  ·rw[if_pos hl]at h;rw[if_pos (VK hw hl)];have hm:Cr x=false:=by unfold gF at hl;exact(dD (by decide) (dD (by decide) hl).2).1
   by_cases hk:k=0
   ·subst hk;rw[if_pos rfl]at h⊢;by_cases hf:j5 N q l x=0
    ·rw[if_pos hf]at h;rw[if_pos (yO x hx hm hf)];exact EN hw h
    ·rw[if_neg hf]at h;exact absurd h hf
   ·rw[if_neg hk]at h⊢;have hh:∀e:Int,(if e=0 then pj N q l k x else e)=0→(if e=0 then pj N q' l k x else e)=0:=fun e h=>by
     by_cases he:e=0
     ·rw[if_pos he]at h⊢;exact EN hw h
     ·rw[if_neg he]at h;exact absurd h he
    exact hh _ h
  ·rw[if_neg hl]at h;exact absurd h hl
theorem SD(hw:FA q q')(yO:∀x,l[0]?=some x→Cr x=false→j5 N q l x=0→j5 N q' l x=0)(h:tC N q l=0):tC N q' l=0:=yM.2 fun k hk=>OL hw yO (yM.1 h k hk)
theorem VL(hw:FA q q')(ht:q.back=true→q'.time=q.time)(hr:q.cE≤q'.cE)(hk:q.walk≤q'.walk)(h:Bb N q l=0):Bb N q' l=0:=by
 unfold Bb at h⊢;cases hx:l[l.length-1]? with
 |none=>rfl
 |some x=>
  rw[hx]at h;simp only at h⊢;obtain⟨h1,h⟩:=dD (by decide) h;obtain⟨h2,h⟩:=dD (by decide) h;obtain⟨h3,h⟩:=dD (by decide) h;obtain⟨h4,h⟩:=dD (by decide) h;rw[hw.dst,h1,hw.back];have k2:(q.back&&decide (x.arr>q'.time))=false:=by
   cases hbk:q.back with
   |false=>rfl
   |true=>rw[hbk]at h2;rw[ht hbk];exact h2
  have k3:decide ((l.countP tD:Int)>q'.cE)=false:=by simp only[decide_eq_false_iff_not]at h3⊢;omega
  have k4:decide (QE l 0>q'.walk)=false:=by simp only[decide_eq_false_iff_not]at h4⊢;omega
  rw[k2,k3,k4,h];rfl
theorem Kr:(nP N q l).2=0↔fZ N q=0∧(if l.length=0 then(q.src !=q.dst)=false else tC N q l=0∧Bb N q l=0):=by
 unfold nP;by_cases hc:fZ N q=0
 ·rw[if_pos hc];by_cases hz:l.length=0
  ·rw[if_pos hz,if_pos hz];cases(q.src !=q.dst)<;>simp[hc]
  ·rw[if_neg hz,if_neg hz];by_cases hf:tC N q l=0
   ·rw[if_pos hf];by_cases he:Bb N q l=0
    ·rw[if_pos he];simp[hc,hf,he]
    ·rw[if_neg he];simp[hc,hf,he]
   ·rw[if_neg hf];simp[hc,hf]
 ·rw[if_neg hc];simp[hc]
theorem Yc:fZ N q=0↔(j3 N).2.2=0∧HX N.stops.length q=true:=by
 unfold fZ;by_cases h:(j3 N).2.2=0
 ·rw[if_pos h];by_cases h2:HX N.stops.length q=true
  ·rw[if_pos h2];simp[h,h2]
  ·rw[if_neg h2];simp[h,h2]
 ·rw[if_neg h];simp[h]
theorem yQ(hw:FA q q')(hq:HX N.stops.length q=true→HX N.stops.length q'=true)(yO:∀x,l[0]?=some x→Cr x=false→j5 N q l x=0→j5 N q' l x=0)(ht:q.back=true→q'.time=q.time)(hr:HX N.stops.length q=true→q.cE≤q'.cE)(hk:HX N.stops.length q=true→q.walk≤q'.walk)(h:(nP N q l).2=0):(nP N q' l).2=0:=by
 rw[Kr,Yc]at h⊢;obtain⟨⟨h1,h2⟩,h3⟩:=h;refine⟨⟨h1,hq h2⟩,?_⟩;by_cases hz:l.length=0
 ·rw[if_pos hz]at h3⊢;rw[hw.src,hw.dst];exact h3
 ·rw[if_neg hz]at h3⊢;exact⟨SD hw yO h3.1,VL hw ht (hr h2) (hk h2) h3.2⟩
theorem nQ{n:Int}(h:HX n q=true):(((((od q.src 0 (n-1)=true∧od q.dst 0 (n-1)=true)∧od q.time 0 3155932800=true)∧od q.cE 0 8=true)∧od q.walk 0 86400=true)∧od q.bn 0 255=true)∧(!(q.vk&&q.back))=true:=by unfold HX at h;simpa only[Bool.and_eq_true]using h
theorem Ie{n a b:Int}(h:od n a b=true):n≤b:=by unfold od at h;simp only[Bool.and_eq_true,decide_eq_true_eq]at h;exact h.2
end
theorem Cv(N:ag)(q:jw)(l:List cw)(hN:N.Ok)(_:q.Ok)(hol:l.length≤maxLen∧∀x∈l,x.Ok):cM [N.pv,q.pv,yJ l]=some (.bool true):=by
 have ho:=hol.2;obtain⟨b,hb,hs⟩:=wv N (yJ l) (l.map cw.pv) rfl rfl;have qF:PV.agg [.int .i64 q.src,.int .i64 q.dst,.int .i64 q.time,.bool q.back,.int .i64 q.cE,.int .i64 q.walk,.bool false,.bool false,.int .i64 0,.bool q.vk]=(⟨q.src,q.dst,q.time,q.back,q.cE,q.walk,false,false,0,q.vk⟩:jw).pv:=rfl;simp only[cM,gg,gL,gM,gN,gO,gP,gQ,gR,gS,gT,gU,pM,qS,qT,qU,qV,qW,qX,qY,qZ,q6,q7,jA,j0,U,l8,yI,jF,hb,aB,wx];cases b with
 |false=>rfl
 |true=>
  obtain⟨h1,h2⟩:=hs rfl;rw[List.length_map]at h2;rw[if_neg (by decide)];simp only[qF,zP hN (show N.paths.length≤4096 by omega) (show l.length≤1000000 by omega) ho,U,t2,List.getD_cons_zero,List.getD_cons_succ,aI];by_cases hc:(nP N q l).2=0
  ·rw[if_neg (by simp[hc])];have:=yQ (N:=N) (q:=q) (q':=⟨q.src,q.dst,q.time,q.back,q.cE,q.walk,false,false,0,q.vk⟩) (l:=l) ⟨rfl,rfl,rfl,rfl,fun _=>rfl,fun _=>rfl,.inr rfl⟩ (fun h=>by obtain⟨⟨⟨⟨⟨⟨a1,a2⟩,a3⟩,a4⟩,a5⟩,a6⟩,a7⟩:=nQ h;unfold HX;simp only[Bool.and_eq_true];exact⟨⟨⟨⟨⟨⟨a1,a2⟩,a3⟩,a4⟩,a5⟩,by decide⟩,a7⟩) (fun x hx hm hf=>hf) (fun _=>rfl) (fun _=>Int.le_refl _) (fun _=>Int.le_refl _) hc;rw[this];rfl
  ·rw[if_pos (by simpa using hc)]
theorem VM(N:ag)(q:jw)(l:List cw)(hN:N.Ok)(_:q.Ok)(hol:l.length≤maxLen∧∀x∈l,x.Ok):eQ [N.pv,q.pv,yJ l]=some (.bool true):=by
 have ho:=hol.2;obtain⟨b,hb,hs⟩:=wv N (yJ l) (l.map cw.pv) rfl rfl;have qF:PV.agg [.int .i64 q.src,.int .i64 q.dst,.int .i64 q.time,.bool q.back,.int .i64 8,.int .i64 86400,.bool q.free,.bool q.l7,.int .i64 q.bn,.bool q.vk]=(⟨q.src,q.dst,q.time,q.back,8,86400,q.free,q.l7,q.bn,q.vk⟩:jw).pv:=rfl;have qG:PV.agg [.int .i64 q.src,.int .i64 q.dst,.int .i64 0,.bool q.back,.int .i64 8,.int .i64 86400,.bool q.free,.bool q.l7,.int .i64 q.bn,.bool q.vk]=(⟨q.src,q.dst,0,q.back,8,86400,q.free,q.l7,q.bn,q.vk⟩:jw).pv:=rfl;simp only[eQ,lN,gL,gM,gN,gO,gP,gQ,gR,gS,gT,gU,pM,qS,qT,qU,qV,qW,qX,qY,qZ,q6,q7,jA,j0,U,l8,yI,jF,hb,aB,wx];cases b with
 |false=>rfl
 |true=>
  obtain⟨h1,h2⟩:=hs rfl;rw[List.length_map]at h2;rw[if_neg (by decide)];simp only[qF,qG,zP hN (show N.paths.length≤4096 by omega) (show l.length≤1000000 by omega) ho,U,t2,List.getD_cons_zero,List.getD_cons_succ,aI,GQ];by_cases hc:(nP N q l).2=0
  ·rw[if_neg (by simp[hc])];have c1:=yQ (N:=N) (q:=q) (q':=⟨q.src,q.dst,q.time,q.back,8,86400,q.free,q.l7,q.bn,q.vk⟩) (l:=l) ⟨rfl,rfl,rfl,rfl,id,id,.inl rfl⟩ (fun h=>by obtain⟨⟨⟨⟨⟨⟨a1,a2⟩,a3⟩,a4⟩,a5⟩,a6⟩,a7⟩:=nQ h;unfold HX;simp only[Bool.and_eq_true];exact⟨⟨⟨⟨⟨⟨a1,a2⟩,a3⟩,by decide⟩,by decide⟩,a6⟩,a7⟩) (fun x hx hm hf=>hf) (fun _=>rfl) (fun h=>Ie (nQ h).1.1.1.2) (fun h=>Ie (nQ h).1.1.2) hc;rw[if_neg (by simp[c1])];cases hbk:q.back with
   |true=>rfl
   |false=>
    cases hg:q.vk with
    |true=>rfl
    |false=>
     cases l with
     |nil=>rfl
     |cons x r=>
      cases hr:x.dr with
      |false=>simp only[List.getElem?_cons_zero,Option.map_some,gK,hr,U];rfl
      |true=>
       have c2:=yQ (N:=N) (q:=q) (q':=⟨q.src,q.dst,0,q.back,8,86400,q.free,q.l7,q.bn,q.vk⟩) (l:=x::r) ⟨rfl,rfl,rfl,rfl,id,id,.inl rfl⟩ (fun h=>by
        obtain⟨⟨⟨⟨⟨⟨a1,a2⟩,a3⟩,a4⟩,a5⟩,a6⟩,a7⟩:=nQ h;unfold HX;simp only[Bool.and_eq_true];exact⟨⟨⟨⟨⟨⟨a1,a2⟩,by decide⟩,by decide⟩,by decide⟩,a6⟩,a7⟩) (fun y hy hm hf=>by
         rw[List.getElem?_cons_zero]at hy;cases hy;unfold j5 at hf⊢;obtain⟨f1,hf⟩:=dD (by decide) hf;obtain⟨f2,hf⟩:=dD (by decide) hf;have hd:decide (x.dep<0)=false:=by have:=(QH hm).1;simp only[decide_eq_false_iff_not];omega
         simp only[f1,f2,hr,hbk,hg,hd,Bool.not_true,Bool.false_and,Bool.and_false,Bool.false_eq_true,if_false]) (fun h=>by rw[hbk]at h;cases h) (fun h=>Ie (nQ h).1.1.1.2) (fun h=>Ie (nQ h).1.1.2) hc
       rw[hbk,hg]at c2;simp only[List.getElem?_cons_zero,Option.map_some,gK,hr,U,c2];rfl
  ·rw[if_pos (by simpa using hc)]
end Go.Ab.Tt
