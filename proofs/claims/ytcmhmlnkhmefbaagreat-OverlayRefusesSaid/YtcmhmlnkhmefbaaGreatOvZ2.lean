import Derived.Test.YtcmhmlnkhmefbaaGreatOvZ1
import Derived.Test.YtcmhmlnkhmefbaaGreatSh3
import Derived.Test.YtcmhmlnkhmefbaaGreatNkP2
namespace Go.Ab.Tt
set_option maxRecDepth 100000
set_option linter.unusedVariables false
set_option linter.unusedSimpArgs false
def Cv(ms:List PV)(len k:Int)(N:ah)(er:List PV):=(ms,(0:Int),len,k,(0:Int),(0:Int),(0:Int),N.aO,N.within,N.cap,er,N.stops.map Stop.pv,N.ab.map av.pv,N.runs.map bE.pK,N.ai.map aH.pv,N.paths.map Path.pv,N.ar.map aR.pv,())
def D3(ms:List PV)(len kk:Int)(er:List PV)(N:ah)(i c:Nat)(a:Int)(k:Nat)(out:List PV):=((i:Int),(c:Int),a,((N.runs[i]?).elim 0 fun r=>(r.calls.length:Int)),(k:Int),(i:Int),ms,(0:Int),len,kk,N.runs.map bE.pK,out,N.aO,N.within,N.cap,(0:Int),(0:Int),(0:Int),er,N.stops.map Stop.pv,N.ab.map av.pv,N.ai.map aH.pv,N.paths.map Path.pv,N.ar.map aR.pv,())
theorem Ng(er:List PV)(h:er.length≤1000)(x:PV):(er++[x]).length*8≤aa∧0<8:=by
 have:1001*8≤aa:=by decide
 refine⟨?_,by decide⟩;rw[List.length_append,List.length_singleton];omega
theorem XW(ms:List PV)(len:Int)(kk:Nat)(yf:kk<1000)(er:List PV)(XX:er.length≤1000)(cX:_→Option PV)(N:ah)(h:O8 N)(i c:Nat)(hi:i<N.runs.length)(hc:c<N.runs[i].calls.length)(ho:uj N.runs[i].calls=true)(a:Int)(h0:0≤a)(h1:a≤8000000000):cd.run (fx cd cX) (D3 ms len kk er N i c a 0 (N.runs[i].calls.map aw.pv))=match gv (N.runs[i].calls.drop c) a with|some r=>cX (Cv ms len (kk+1:Nat) (Fs N i (N.runs[i].calls.take c++r)) (er++[.int .i64 0]))|none=>cX (Cv ms len (kk+1:Nat) N (er++[.int .i64 10])):=by
 have hlen:=h.calls N.runs[i] (List.getElem_mem hi);have YW:1003<rounds:=by decide
 have je:=nV ho;have PF:=Ng er XX;have hrT:∀x,((er++[x]).length*8≤aa∧0<8)=True:=fun x=>eq_true (PF x);have VX:IntKind.i64.wrap ((kk:Int)+1)=((kk+1:Nat):Int):=an (by omega);refine(Ct (D3 ms len kk er N i c) N.runs[i].calls c (cX (Cv ms len (kk+1:Nat) N (er++[.int .i64 10]))) (fun out=>cX (ms,0,len,((kk+1:Nat):Int),0,0,0,N.aO,N.within,N.cap,er++[.int .i64 0],N.stops.map Stop.pv,N.ab.map av.pv,(N.runs.map bE.pK).set i (.agg [.int .i64 N.runs[i].dv,.int .i64 N.runs[i].day,.int .i64 N.runs[i].inst,.str N.runs[i].id,.int .i64 N.runs[i].bj,.bool N.runs[i].free,.bool N.runs[i].qH,.fO 5 out]),N.ai.map aH.pv,N.paths.map Path.pv,N.ar.map aR.pv,())) (fun k a out rec hk kL=>?_) (fun k a pre rec hk kL hp VS ha1=>?_) (fun a out rec=>?_) je (va ho) hc (by omega) a h0 h1).trans ?_
 ·unfold D3 fx;dsimp only;rw[List.getElem?_eq_getElem hi,Option.elim_some,if_pos (by rw[decide_eq_true_eq];omega),if_pos (by rw[decide_eq_true_eq];omega),an (by omega),Int.toNat_natCast]
 ·obtain⟨d0,d1⟩:=sx (je k kL);obtain⟨s0,s1,s2⟩:=je k kL;have hlm:=mR;have YK:=Hw pre N.runs[i].calls k hp (by omega);have WB:∀x,((outs pre N.runs[i].calls k).set k x).length=N.runs[i].calls.length:=fun x=>by rw[List.length_set,YK]
  unfold D3 fx;dsimp only;rw[List.getElem?_eq_getElem hi,Option.elim_some,if_pos (by rw[decide_eq_true_eq];omega),if_neg (by rw[decide_eq_true_eq];omega)];simp only[Int.toNat_natCast,qd _ _ hi,U,DZ,List.length_map,il k _ kL,if_true,List.getElem?_map,List.getElem?_eq_getElem kL,Option.map_some,YK,Hx pre _ k hp kL,kI2,M9,Cs (je k kL),D2,VT,VU,WB,Hz _ _ _ (show k<(outs pre N.runs[i].calls k).length by omega),List.set_set,wrap_small (show-100000000000≤a+gW N.runs[i].calls[k] by omega) (show a+gW N.runs[i].calls[k]≤100000000000 by omega),VV,Na,an (show k<9223372036854775807 by omega),Hy pre _ k hp kL,decide_eq_true_eq,hrT,VX,if_true];have eo:=Hv (je k kL) VS ha1;by_cases uo:(late N.runs[i].calls[k] a).dep>gV
  ·rw[if_pos (show(late N.runs[i].calls[k] a).dep>3155932800 by omega),if_pos uo];rfl
  ·rw[if_neg (show¬(late N.runs[i].calls[k] a).dep>3155932800 by omega),if_neg uo];by_cases hn:k+1<N.runs[i].calls.length
   ·obtain⟨n0,n1⟩:=yO (je k kL) (je (k+1) hn) (va ho k hn) VS uo;obtain⟨t0,t1,t2⟩:=je (k+1) hn;rw[if_pos (by omega),dif_pos hn,if_pos (il _ _ hn),List.getElem?_eq_getElem hn];simp only[Option.map_some,U,kI1];rw[wrap_small (x:=N.runs[i].calls[k+1].arr+(late N.runs[i].calls[k] a).dep) (by omega) (by omega),wrap_small (by omega) (by omega)]
   ·rw[if_neg (by omega),dif_neg hn]
 ·unfold D3 fx;dsimp only;rw[List.getElem?_eq_getElem hi,Option.elim_some,if_neg (by simp)];simp only[Int.toNat_natCast,qd _ _ hi,U,Sg _ _ hi,if_true,UM,hrT,VX,if_true]
 ·cases gv (N.runs[i].calls.drop c) a with
  |none=>rfl
  |some r=>simp only[sy,←List.map_set];simp only[Fs,List.getElem?_eq_getElem hi];rfl
def Sn(ms:List PV)(len kk:Int)(er:List PV)(N:ah)(i:Nat)(runs:List PV)(j k:Nat)(x:List PV):=((j:Int),(k:Int),ms,(0:Int),len,kk,x,(i:Int),N.aO,N.within,N.cap,(0:Int),(0:Int),(0:Int),er,N.stops.map Stop.pv,N.ab.map av.pv,runs,N.paths.map Path.pv,N.ar.map aR.pv,())
theorem XY(ms:List PV)(len:Int)(kk:Nat)(yf:kk<1000)(er:List PV)(XX:er.length≤1000)(cX:_→Option PV)(N:ah)(h:O8 N)(i:Nat)(runs:List PV):cd.run (lL cd cX) ((N.ai.length:Int),0,ms,0,len,(kk:Int),N.ai.map aH.pv,(i:Int),N.aO,N.within,N.cap,0,0,0,er,N.stops.map Stop.pv,N.ab.map av.pv,runs,N.paths.map Path.pv,N.ar.map aR.pv,())=cX (ms,0,len,((kk+1:Nat):Int),0,0,0,N.aO,N.within,N.cap,er++[.int .i64 0],N.stops.map Stop.pv,N.ab.map av.pv,runs,(N.ai.filter (HA i)).map aH.pv,N.paths.map Path.pv,N.ar.map aR.pv,()):=by
 have hk:=h.ai;have YW:1003<rounds:=by decide
 have PF:=Ng er XX;have hrT:∀x,((er++[x]).length*8≤aa∧0<8)=True:=fun x=>eq_true (PF x);have VX:IntKind.i64.wrap ((kk:Int)+1)=((kk+1:Nat):Int):=an (by omega);refine Sd (fun k=>((N.ai.length:Int),(k:Int),ms,(0:Int),len,(kk:Int),N.ai.map aH.pv,(i:Int),N.aO,N.within,N.cap,(0:Int),(0:Int),(0:Int),er,N.stops.map Stop.pv,N.ab.map av.pv,runs,N.paths.map Path.pv,N.ar.map aR.pv,())) (Sn ms len kk er N i runs) (body3:=lM cd cX) N.ai (HA i) (fun x=>cX (ms,0,len,((kk+1:Nat):Int),0,0,0,N.aO,N.within,N.cap,er++[.int .i64 0],N.stops.map Stop.pv,N.ab.map av.pv,runs,x,N.paths.map Path.pv,N.ar.map aR.pv,())) (fun j k x rec kL hx hj hg=>?_) (fun j x rec hx hj=>?_) (fun k rec kL=>?_) (fun rec=>?_) (by omega)
 ·unfold Sn lM;dsimp only;rw[if_pos (by rw[decide_eq_true_eq];omega),if_pos (il _ _ (by omega)),Int.toNat_natCast,hg];simp only[U,Ft,vc,asBool,Bool.not_not,an (show k<9223372036854775807 by omega),an (show j<9223372036854775807 by omega),il j x.length (by omega),if_true,Int.toNat_natCast,List.getElem?_eq_getElem (show j<x.length by omega)]
 ·unfold Sn lM;dsimp only;rw[if_neg (by rw[hx];simp)];simp only[Int.toNat_natCast,Int.toNat_zero,Nat.sub_zero,List.drop_zero];rw[if_pos (by exact⟨by omega,by omega,by omega,trivial⟩),if_pos (by exact⟨trivial,trivial,by omega,by omega⟩),if_pos (by refine⟨by omega,by omega,?_,trivial⟩;simp only[List.length_append,List.length_take,List.length_replicate,List.length_drop];omega)];rw[if_pos (PF _),VX,List.take_append_of_le_length (by simp;omega),List.take_take,Nat.min_self]
 ·unfold lL;dsimp only;rw[if_pos (by rw[decide_eq_true_eq];omega),if_pos (il _ _ (by simpa using kL)),Int.toNat_natCast,List.getElem?_map,List.getElem?_eq_getElem kL];simp only[Option.map_some,U,Ft,vc,asBool,an (show k<9223372036854775807 by omega),fb];cases hp:HA i N.ai[k]with
  |true=>simp only[Bool.not_true,Bool.false_eq_true,if_false,if_true]
  |false=>simp only[Bool.not_false,if_true,Bool.false_eq_true,if_false];rw[if_neg (by rw[decide_eq_true_eq];omega)];rfl
 ·unfold lL;dsimp only;rw[if_neg (by simp),if_pos (PF _),VX]
theorem Sq(ms:List PV)(len:Int)(kk:Nat)(yf:kk<1000)(er:List PV)(XX:er.length≤1000)(cX:_→Option PV)(l:List iX)(hl:l.length<1000)(q:PV)(aeL:bd ms (kk:Int)=some q)(hlen:len=(l.length:Int))(kL:kk<l.length)(N:ah)(h:O8 N)(VD:∀m∈l,m.Ok)(hv:(eU N).2.2=0)(hmc:∀m∈l,m.calls.length≤1000)(hL:nv q l[kk]):iY cd (Cv ms len kk N er) cX=cX (Cv ms len (kk+1:Nat) (if ij l[kk]=0 then(if(Fb N l[kk]).2=0 then(Fb N l[kk]).1 else N)else N) (er++[.int .i64 (if ij l[kk]=0 then(Fb N l[kk]).2 else ij l[kk])])):=by
 have PF:=Ng er XX;have hrT:∀x,((er++[x]).length*8≤aa∧0<8)=True:=fun x=>eq_true (PF x);have VX:IntKind.i64.wrap ((kk:Int)+1)=((kk+1:Nat):Int):=an (by omega);have hm:=VD _ (List.getElem_mem kL);have hc:=hmc _ (List.getElem_mem kL);have bq:decide ((kk:Int)<len)=true:=by rw[decide_eq_true_eq];omega
 generalize l[kk]=m at hm hc hL⊢;have hmk:=(HB hL.agg).trans (Ht m hm);have hr:=h.runs;have ht:=ur N m (by
  have:1000≤maxLen:=by decide
  omega)
 have Vr:PV.agg [cell q 0,cell q 1,cell q 2,cell q 3,cell q 4,cell q 5,cell q 6,cell q 7,cell q 8,cell q 9,cell q 10,cell q 11,cell q 12]=Nf q:=rfl;have ht:=(zQ (ab0 N) hL.agg).trans ht;conv=>lhs;unfold Cv iY
 dsimp only;rw[if_pos bq,aeL];simp only[U,Vr,hmk,asInt,if_true,bne_self_eq_false,Bool.false_eq_true,if_false,kq,Ad,ht];simp only[fb,decide_eq_true_eq];by_cases FM:ij m=0;case neg=>rw[if_neg FM,if_neg FM,if_neg FM,if_pos (PF _),VX];rfl
 rw[if_pos FM,if_pos FM,if_pos FM];unfold Fb Hu;simp only[hL.h4,hL.h5,hL.h6,hL.h7,hL.h8,hL.h9,hL.FL,hL.XT,hL.XU,U];simp only[asInt,bu,ae,asBool,if_true,U,fb,decide_eq_true_eq,hrT,VX,if_true];by_cases k5:m.kind=5
 ·simp only[k5,if_true];cases htg:DT N.runs m with
  |some i=>simp only[ca,List.length_cons,List.length_nil,Nat.reduceAdd,if_true,U,List.getD_cons_zero,List.getD_cons_succ,asInt,asBool,Option.isSome_some];rfl
  |none=>
   have gy:=nS m.calls N.stops.length 0 3155932800 hm.calls.1;simp only[res]at gy;have XR:=vb m.calls (by omega);simp only[ca,List.length_cons,List.length_nil,Nat.reduceAdd,if_true,U,List.getD_cons_zero,List.getD_cons_succ,asInt,asBool,Option.isSome_none,Bool.false_eq_true,if_false,List.length_map,bm,Bool.or_eq_true,decide_eq_true_eq,gy,uu];by_cases mj:m.bj<0∨m.bj≥(N.ab.length:Int)
   ·rw[if_pos mj,if_pos mj];rfl
   ·rw[if_neg mj,if_neg mj];by_cases he:(bw m.calls (N.stops.length:Int) 0 3155932800).2=0
    ·rw[if_pos he,if_neg (show¬((N.runs.length:Int)≥1024) by omega),XR];simp only[U,ae,if_true,he,ne_eq,not_true,if_false,if_neg (show¬(N.runs.length≥1024) by omega)];rw[if_pos (by
      have:101*80≤aa:=by decide
      rw[List.length_append,List.length_map,List.length_singleton];omega)]
     unfold Cv;rw[List.map_append];rfl
    ·rw[if_neg he,if_pos he];simp only[if_neg he];rfl
 ·simp only[if_neg k5];cases htg:DT N.runs m with
  |none=>simp only[ca,List.length_cons,List.length_nil,Nat.reduceAdd,if_true,U,List.getD_cons_zero,List.getD_cons_succ,asInt,asBool,Bool.not_false];rfl
  |some i=>
   obtain⟨hi,zJ,_⟩:=Cj htg;have pP:af (i:Int) N.runs.length:=⟨by omega,by omega⟩;have sF:=ub hv N.runs[i] (List.getElem_mem hi);simp only[ca,List.length_cons,List.length_nil,Nat.reduceAdd,if_true,U,List.getD_cons_zero,List.getD_cons_succ,asInt,asBool,Bool.not_true,Bool.false_eq_true,if_false,qd _ _ hi,List.getElem?_eq_getElem hi,pP,DZ,Int.toNat_natCast,List.length_map,bm,dG,Bool.or_eq_true,decide_eq_true_eq];have Tf:((decide (m.kind=1)||decide (m.kind=3))&&(decide (m.call<0)||decide (m.call≥(N.runs[i].calls.length:Int))))=decide ((m.kind=1∨m.kind=3)∧(m.call<0∨m.call≥(N.runs[i].calls.length:Int))):=by rw[Bool.eq_iff_iff];simp
   rw[Tf];simp only[decide_eq_true_eq];by_cases hn:(m.kind=1∨m.kind=3)∧(m.call<0∨m.call≥(N.runs[i].calls.length:Int))
   ·rw[if_pos hn,if_pos hn];rfl
   rw[if_neg hn,if_neg hn];by_cases k1:m.kind=1
   ·simp only[k1,if_true];have OJ:¬(m.call<0∨m.call≥(N.runs[i].calls.length:Int)):=fun hh=>hn ⟨.inl k1,hh⟩;have aeK:=not_or.1 OJ;unfold prop;rw[if_neg OJ,if_neg (show¬(m.call<0∨m.call≥(N.runs[i].calls.length:Int))from OJ)];by_cases hs:m.bT< -43200∨m.bT>43200
    ·rw[if_pos hs,if_pos hs];rfl
    rw[if_neg hs,if_neg hs];obtain⟨c,CI⟩:∃c:Nat,m.call=(c:Int):=⟨m.call.toNat,by omega⟩;have vw:c<N.runs[i].calls.length:=by omega
    have hlen:=h.calls N.runs[i] (List.getElem_mem hi);have ho:=xA N.runs[i].calls (by
     have:1000≤maxLen:=by decide
     omega)
    have hrq:Nz (cell N.runs[i].pK 7)=some (.rs 5 (N.runs[i].calls.map aw.pv)):=rfl;simp only[hrq,U,ho,asBool];cases XS:uj N.runs[i].calls with
    |false=>rfl
    |true=>
     have ep:0≤(N.runs[i].calls.length:Int)∧(N.runs[i].calls.length:Int)≤(N.runs[i].calls.length:Int)∧(N.runs[i].calls.length:Int).toNat*32≤aa∧0<32∧0<5:=by
      have:1000*32≤aa:=by decide
      refine⟨by omega,by omega,?_,by decide,by decide⟩;rw[Int.toNat_natCast];omega
     rw[if_neg (by decide),if_pos (by rw[Int.toNat_natCast]at ep;exact ep)];simp only[CI,Int.toNat_natCast];obtain⟨a1,a2⟩:=M8 XS vw (show-43200≤m.bT by omega) (show m.bT≤43200 by omega);have hA:=XW ms len kk yf er XX cX N h i c hi vw XS _ a1 (by omega);have Th:∀z:PV,List.take (List.replicate N.runs[i].calls.length z).length (N.runs[i].calls.map aw.pv)++List.drop N.runs[i].calls.length (List.replicate N.runs[i].calls.length z)=N.runs[i].calls.map aw.pv:=fun z=>by rw[List.length_replicate,List.take_of_length_le (by simp),List.drop_eq_nil_of_le (by simp),List.append_nil]
     have key:∀A,A=nf N.runs[i].calls c m.bT→cd.run (fx cd cX) ((i:Int),(c:Int),A,(N.runs[i].calls.length:Int),0,(i:Int),ms,0,len,(kk:Int),N.runs.map bE.pK,N.runs[i].calls.map aw.pv,N.aO,N.within,N.cap,0,0,0,er,N.stops.map Stop.pv,N.ab.map av.pv,N.ai.map aH.pv,N.paths.map Path.pv,N.ar.map aR.pv,())=match gv (N.runs[i].calls.drop c) (nf N.runs[i].calls c m.bT)with|some r=>cX (Cv ms len (kk+1:Nat) (Fs N i (N.runs[i].calls.take c++r)) (er++[.int .i64 0]))|none=>cX (Cv ms len (kk+1:Nat) N (er++[.int .i64 10])):=by intro A sT;subst sT;unfold D3 at hA;rw[List.getElem?_eq_getElem hi]at hA;exact hA
     have hlm:=mR;obtain⟨s0,s1,s2⟩:=nV XS c vw;cases c with
     |zero=>rw[if_neg (by decide),if_pos (il _ _ vw)];simp only[List.getElem?_map,List.getElem?_eq_getElem vw,Option.map_some,U,zB,asInt,if_true,Th];refine(key _ ?_).trans (by split<;>rename_i hx<;>simp only[hx,Fs,List.getElem?_eq_getElem hi]<;>rfl);rw[wrap_small (by omega) (by omega)];unfold nf;rw[List.getElem?_eq_getElem vw];simp only[iw,Option.map_some,Option.map_none,Option.getD_none,Option.getD_some];by_cases hx:N.runs[i].calls[0].arr+m.bT<0<;>simp[hx]
     |succ j=>
      have hj:j<N.runs[i].calls.length:=by omega
      rw[if_pos (by omega),uZ j (by omega),if_pos (il _ _ hj)];simp only[Int.toNat_natCast,List.getElem?_map,List.getElem?_eq_getElem hj,Option.map_some,U,zB,zC,asInt,if_true,Th,il _ _ vw,List.getElem?_eq_getElem vw];refine(key _ ?_).trans (by split<;>rename_i hx<;>simp only[hx,Fs,List.getElem?_eq_getElem hi]<;>rfl);rw[wrap_small (by omega) (by omega)];unfold nf;rw[List.getElem?_eq_getElem vw];simp only[iw,List.getElem?_eq_getElem hj,Option.map_some,Option.getD_some]
   simp only[if_neg k1];by_cases k2:m.kind=2
   ·simp only[k2,if_true,qd _ _ hi,U,VW,←List.map_set];rfl
   simp only[if_neg k2];by_cases k3:m.kind=3
   ·simp only[k3,if_true];have OJ:=not_or.1 (fun hh=>hn ⟨.inr k3,hh⟩:¬(m.call<0∨m.call≥(N.runs[i].calls.length:Int)));obtain⟨c,CI⟩:∃c:Nat,m.call=(c:Int):=⟨m.call.toNat,by omega⟩;have vw:c<N.runs[i].calls.length:=by omega
    simp only[CI,Int.toNat_natCast,il c _ vw,if_true,List.getElem?_map,List.getElem?_eq_getElem vw,Option.map_some,U,Sk,←List.map_set,abZ,List.length_set,List.length_map,pP,List.getElem?_set_self hi,DZ,List.getElem?_set_self vw,Sl,List.set_set,kq];simp only[Cm,List.getElem?_eq_getElem vw];rfl
   simp only[if_neg k3];by_cases k4:m.kind=4
   ·simp only[k4,if_true];have gy:=nS m.calls N.stops.length 0 3155932800 hm.calls.1;simp only[res]at gy;have XR:=vb m.calls (by omega);simp only[gy,U,ca,List.length_cons,List.length_nil,Nat.reduceAdd,if_true,List.getD_cons_zero,List.getD_cons_succ,asInt,uu];by_cases he:(bw m.calls (N.stops.length:Int) 0 3155932800).2=0
    ·simp only[he,XR,U,ae,if_true,ne_eq,not_true,if_false];rw[XY ms len kk yf er XX cX N h i,UM,sy];rw[←List.map_set];rfl
    ·rw[if_neg he,if_pos he];simp only[if_neg he];rfl
   simp only[if_neg k4];rfl
def Pb(N:ah)(m:iX):ah:=if ij m=0 then(if(Fb N m).2=0 then(Fb N m).1 else N)else N
def ab1(N:ah)(m:iX):Int:=if ij m=0 then(Fb N m).2 else ij m
def XZ(N:ah)(er:List Int):List iX→ah×List Int
 |[]=>(N,er)
 |m::l=>XZ (Pb N m) (er++[ab1 N m]) l
theorem Pc{N:ah}{m:iX}(h:(eU N).2.2=0):(eU (Pb N m)).2.2=0:=by
 unfold Pb;by_cases h1:ij m=0
 ·rw[if_pos h1];by_cases h2:(Fb N m).2=0
  ·rw[if_pos h2];exact O5 N m h h1 h2
  ·rw[if_neg h2];exact h
 ·rw[if_neg h1];exact h
end Go.Ab.Tt
namespace Go.Ab.Tt
set_option maxRecDepth 100000
set_option linter.unusedVariables false
set_option linter.unusedSimpArgs false
structure pk(N N':ah)(m:iX):Prop where
 stops:N'.stops=N.stops
 ab:N'.ab=N.ab
 paths:N'.paths=N.paths
 ar:N'.ar=N.ar
 aO:N'.aO=N.aO
 within:N'.within=N.within
 cap:N'.cap=N.cap
 ai:N'.ai.length≤N.ai.length∧∀x∈N'.ai,x∈N.ai
 len:N'.runs.length≤N.runs.length+1
 runs:∀r∈N'.runs,(∃r0∈N.runs,r.dv=r0.dv∧r.inst=r0.inst∧r.id=r0.id∧r.day=r0.day∧r.bj=r0.bj)∨(r.dv= -1∧r.inst=m.inst∧r.id=m.dv∧r.day=m.day∧r.bj=m.bj)
theorem pk.rfl'(N:ah)(m:iX):pk N N m:=⟨rfl,rfl,rfl,rfl,rfl,rfl,rfl,⟨Nat.le_refl _,fun _ h=>h⟩,Nat.le_succ _,fun r h=>.inl ⟨r,h,rfl,rfl,rfl,rfl,rfl⟩⟩
theorem xD{N:ah}{m:iX}{i:Nat}{r x:bE}(hr:N.runs[i]?=some r)(h:x.dv=r.dv∧x.inst=r.inst∧x.id=r.id∧x.day=r.day∧x.bj=r.bj)(ls:List aH)(hl:ls.length≤N.ai.length∧∀y∈ls,y∈N.ai):pk N {N with runs:=N.runs.set i x,ai:=ls} m:=by
 refine⟨rfl,rfl,rfl,rfl,rfl,rfl,rfl,hl,by simp,fun q hq=>.inl ?_⟩;rcases List.mem_or_eq_of_mem_set hq with hq|hq
 ·exact⟨q,hq,rfl,rfl,rfl,rfl,rfl⟩
 ·subst hq;exact⟨r,List.mem_of_getElem? hr,h⟩
theorem Sr(N:ah)(m:iX):pk N (Fb N m).1 m:=by
 unfold Fb;by_cases k5:m.kind=5
 ·rw[if_pos k5];split
  ·exact pk.rfl' N m
  ·split
   ·exact pk.rfl' N m
   ·split
    ·exact pk.rfl' N m
    ·split
     ·exact pk.rfl' N m
     ·refine⟨rfl,rfl,rfl,rfl,rfl,rfl,rfl,⟨Nat.le_refl _,fun _ h=>h⟩,by simp,fun r h=>?_⟩;rcases List.mem_append.1 h with h|h
      ·exact .inl ⟨r,h,rfl,rfl,rfl,rfl,rfl⟩
      ·simp only[List.mem_singleton]at h;subst h;exact .inr ⟨rfl,rfl,rfl,rfl,rfl⟩
 ·rw[if_neg k5];cases DT N.runs m with
  |none=>exact pk.rfl' N m
  |some i=>
   dsimp only;cases hr:N.runs[i]? with
   |none=>exact pk.rfl' N m
   |some r=>
    have hls:N.ai.length≤N.ai.length∧∀y∈N.ai,y∈N.ai:=⟨Nat.le_refl _,fun _ h=>h⟩;dsimp only;split
    ·exact pk.rfl' N m
    ·split
     ·cases prop r.calls m.call m.bT with
      |mk o e=>
       cases o with
       |none=>exact pk.rfl' N m
       |some l=>exact xD (x:={r with calls:=l}) hr ⟨rfl,rfl,rfl,rfl,rfl⟩ N.ai hls
     ·split
      ·exact xD (x:={r with qH:=true}) hr ⟨rfl,rfl,rfl,rfl,rfl⟩ N.ai hls
      ·split
       ·exact xD (x:={r with calls:=Cm r.calls m.call.toNat}) hr ⟨rfl,rfl,rfl,rfl,rfl⟩ N.ai hls
       ·split
        ·split
         ·exact pk.rfl' N m
         ·exact xD (x:={r with calls:=m.calls}) hr ⟨rfl,rfl,rfl,rfl,rfl⟩ _ ⟨List.length_filter_le _ _,fun y h=>(List.mem_filter.1 h).1⟩
        ·exact pk.rfl' N m
theorem Ss(N:ah)(m:iX):pk N (Pb N m) m:=by
 unfold Pb;split
 ·split
  ·exact Sr N m
  ·exact pk.rfl' N m
 ·exact pk.rfl' N m
theorem Fu{x:Int}(h1: -9223372036854775808≤x)(h2:x≤9223372036854775807):jT x:=by show(decide ((-9223372036854775808:Int)≤x)&&decide (x≤(9223372036854775807:Int)))=true;simp[h1,h2]
theorem HC{l:List aw}{n:Int}(h:(bw l n 0 3155932800).2=0)(hn:n≤100000):l.length≤32∧∀y∈l,y.Ok:=by obtain⟨h1,h2⟩:=uc h;refine⟨h2,fun y hy=>?_⟩;obtain⟨k,hk,rfl⟩:=List.mem_iff_getElem.1 hy;have he:=zG h k hk;unfold my at he;rw[List.getElem?_eq_getElem hk]at he;have ho:∃p,ll l[k] p n 0 3155932800=0:=⟨_,he⟩;obtain⟨p,ho⟩:=ho;obtain⟨a1,a2,a3,_⟩:=pe ho;obtain⟨b1,b2,_⟩:=sw ho;exact⟨Fu (by omega) (by omega),Fu (by omega) (by omega),Fu (by omega) (by omega)⟩
theorem St{N N':ah}{m:iX}(h:O8 N)(hs:pk N N' m)(hv:(eU N').2.2=0)(hm:m.Ok)(hl:N.runs.length<100):O8 N':=by
 have Ri:1000≤maxLen:=by decide
 have hcv:=ub hv;have uV:=yG ((pZ N').1 hv).1;refine⟨⟨?_,?_,?_,?_,?_,?_,?_,?_,?_⟩,?_,?_,?_,?_,?_,?_,?_⟩
 ·rw[hs.stops];exact h.ok.stops
 ·rw[hs.ab];exact h.ok.ab
 ·refine⟨by have:=hs.len;omega,fun r hr=>?_⟩;obtain⟨c1,c2⟩:=HC (hcv r hr) (by omega);rcases hs.runs r hr with⟨r0,h0,e1,e2,e3,e4,e5⟩|⟨e1,e2,e3,e4,e5⟩
  ·have g:=h.ok.runs.2 r0 h0;exact⟨by rw[e1];exact g.dv,by rw[e4];exact g.day,by rw[e2];exact g.inst,by rw[e3];exact g.id,by rw[e5];exact g.bj,by omega,c2⟩
  ·exact⟨by rw[e1];exact Fu (by omega) (by omega),by rw[e4];exact hm.day,by rw[e2];exact hm.inst,by rw[e3];exact hm.dv,by rw[e5];exact hm.bj,by omega,c2⟩
 ·exact⟨Nat.le_trans hs.ai.1 h.ok.ai.1,fun x hx=>h.ok.ai.2 x (hs.ai.2 x hx)⟩
 ·rw[hs.paths];exact h.ok.paths
 ·rw[hs.ar];exact h.ok.ar
 ·rw[hs.aO];exact h.ok.aO
 ·rw[hs.within];exact h.ok.within
 ·rw[hs.cap];exact h.ok.cap
 ·rw[hs.stops];exact h.stops
 ·rw[hs.ab];exact h.ab
 ·have:=hs.len;omega
 ·exact Nat.le_trans hs.ai.1 h.ai
 ·rw[hs.paths];exact h.paths
 ·rw[hs.ar];exact h.ar
 ·intro r hr;have:=(HC (hcv r hr) (by omega)).1;omega
def VY(x:ah×List Int):PV:=.bl [x.1.pv,.rs 1 (x.2.map fun e=>.int .i64 e)]
theorem Su(ms:List PV)(l:List iX)(Ri:∀k,(hk:k<l.length)→∃q,ms[k]?=some q∧nv q l[k])(hl:l.length≤50)(VD:∀m∈l,m.Ok)(hmc:∀m∈l,m.calls.length≤1000):∀(j k:Nat)(N:ah)(er:List Int)(fu:Nat),k+j=l.length→j<fu→O8 N→(eU N).2.2=0→N.runs.length+j<100→er.length≤k→cF (iY cd) fu (Cv ms (l.length:Int) k N (er.map fun e=>.int .i64 e))=some (VY (XZ N er (l.drop k))):=by
 intro j;induction j with
 |zero=>
  intro k N er fu hk hf hN hv hr he;obtain⟨fu,rfl⟩:∃f,fu=f+1:=⟨fu-1,by omega⟩;have:k=l.length:=by omega
  subst this;rw[cF,List.drop_length];unfold Cv iY;dsimp only;rw[if_neg (by simp),kq];rfl
 |succ j ih=>
  intro k N er fu hk hf hN hv hr he;obtain⟨fu,rfl⟩:∃f,fu=f+1:=⟨fu-1,by omega⟩;have kL:k<l.length:=by omega
  obtain⟨q,Zl,Ve⟩:=Ri k kL;rw[cF,Sq _ _ k (by omega) _ (by simp;omega) _ l (by omega) q (by rw[az];exact Zl) rfl kL N hN VD hv hmc Ve];have hs:=Ss N l[k];have IF:=Pc (m:=l[k]) hv;have hlen:=hs.len;have:=ih (k+1) (Pb N l[k]) (er++[ab1 N l[k]]) fu (by omega) (by omega) (St hN hs IF (VD _ (List.getElem_mem kL)) (by omega)) IF (by omega) (by simp;omega);rw[List.map_append]at this;rw[List.drop_eq_getElem_cons kL];exact this
theorem Sv(p:PV)(ms:List PV)(N:ah)(l:List iX)(hp:xC p N)(A5:ms.length=l.length)(Ri:∀k,(hk:k<l.length)→∃q,ms[k]?=some q∧nv q l[k])(h:O8 N)(hv:(eU N).2.2=0)(hl:l.length≤50)(hr:N.runs.length≤40)(VD:∀m∈l,m.Ok)(hmc:∀m∈l,m.calls.length≤1000):fa [p,.rs 13 ms]=some (VY (XZ N [] l)):=by
 have YW:1003<rounds:=by decide
 have A6:=Ca N h.ok (by have:=h.paths;omega);have f1:=Cb (N.stops.map Stop.pv) (by simpa using h.stops);have f2:=zH (N.ab.map av.pv) (by simpa using h.ab);have f3:=DF (N.runs.map bE.pv) (by simp;omega);have f4:=Cc (N.ai.map aH.pv) (by simpa using h.ai);have f5:=ue (N.paths.map Path.pv) (by simpa using h.paths);have f6:=vH (N.ar.map aR.pv) (by simpa using h.ar);have key:=Su ms l Ri hl VD hmc l.length 0 N [] rounds (by omega) (by omega) h hv (by omega) (by simp);simp only[fa,tR,hp.hA,hp.h0,hp.h1,hp.h2,hp.h3,hp.h4,hp.h5,hp.h6,hp.h7,hp.h8,U];simp only[ae,if_true,U,f1,f2,f3,f4,f5,List.length_map];refine bL (fun k=>((N.runs.length:Int),(k:Int),ms,N.stops.map Stop.pv,N.ab.map av.pv,N.runs.map bE.pv,N.ai.map aH.pv,N.paths.map Path.pv,N.ar.map aR.pv,N.aO,N.within,N.cap,(0:Int),(0:Int),(0:Int),N.ar.map aR.pv,N.aO,N.within,N.cap,N.stops.map Stop.pv,N.ab.map av.pv,N.runs.map bE.pv,N.ai.map aH.pv,N.paths.map Path.pv,N.ar.map aR.pv,N.aO,N.within,N.cap,(0:Int),(0:Int),(0:Int),N.stops.map Stop.pv,N.ab.map av.pv,mix bE.pK bE.pv N.runs k,N.ai.map aH.pv,N.paths.map Path.pv,())) N.runs.length (fun k hk rec=>?_) (fun rec=>?_) (by omega) (by rw[Hb];rfl)
 ·have fc:=Cd (N.runs[k].calls.map aw.pv) (by simpa using h.calls _ (List.getElem_mem hk));unfold po;dsimp only;rw[if_pos (by rw[decide_eq_true_eq];omega),if_pos (EX _ _ _ _ hk),Int.toNat_natCast,MR _ _ _ _ hk];simp only[U,EM,fc,ae,if_true,EX _ _ _ _ hk,Nc,an (show k<9223372036854775807 by omega)];have:=MS bE.pK bE.pv N.runs k hk;rw[←this];rfl
 ·unfold po;dsimp only;rw[if_neg (by simp),f6];simp only[U,ae,if_true,Ad,A6];simp only[fW,ca,List.length_cons,List.length_nil,Nat.reduceAdd,if_true,List.getD_cons_zero,List.getD_cons_succ,asInt,U,hv,EW,List.length_map,A5];rw[kR];exact key
end Go.Ab.Tt
namespace Go.Ab.Tt
set_option maxRecDepth 100000
set_option linter.unusedVariables false
set_option linter.unusedSimpArgs false
end Go.Ab.Tt
namespace Go.Ab.Tt
set_option maxRecDepth 100000
set_option linter.unusedVariables false
set_option linter.unusedSimpArgs false
def Fv(A B:ah)(k:Nat):Bool:=decide (A.runs[k]?≠B.runs[k]?)
def Fx(A B:ah)(n:Nat):List Nat:=(List.range n).filter (Fv A B)
theorem Pd(A B:ah)(k:Nat):Fx A B (k+1)=if Fv A B k=true then Fx A B k++[k]else Fx A B k:=by unfold Fx;rw[List.range_succ,List.filter_append];by_cases h:Fv A B k=true<;>simp[h]
theorem Sw(A B:ah)(k:Nat):(Fx A B k).length≤k:=by unfold Fx;exact Nat.le_trans (List.length_filter_le _ _) (by simp)
def Sx(k:Nat):PV:=.int .i64 k
def mx(A B:ah):Nat:=max A.runs.length B.runs.length
theorem Pe(x y:bE)(hx:x.calls.length≤maxLen):fo [x.pv,y.pv]=some (.bool (decide (x=y))):=by have hc:=pC x.calls y.calls hx;simp only[fo,sk,aep,Uo,OA,OB,OC,Up,Xv,Xw,EM,U];simp only[asInt,bu,asBool,ae,if_true,U,hc,dG,bm,fb,kF,MP];generalize decide (x.dv=y.dv)=a1;generalize decide (x.day=y.day)=a2;generalize decide (x.inst=y.inst)=a3;generalize decide (x.id=y.id)=a4;generalize decide (x.bj=y.bj)=a5;generalize decide (x.qH=y.qH)=a7;generalize decide (x.calls=y.calls)=a8;generalize decide (x.free=y.free)=a6;cases a1<;>cases a2<;>cases a3<;>cases a4<;>rfl
theorem Fy(A B:ah)(hA:A.runs.length≤1000∧∀x∈A.runs,x.calls.length≤maxLen)(hB:B.runs.length≤1000):bX [A.pv,B.pv]=some (.rs 1 ((Fx A B (mx A B)).map Sx)):=by
 have YW:1003<rounds:=by decide
 simp only[bX,jR,qI,rq,rr,ru,ry,rz,rA,rB,rC,rD,U,List.length_map];refine bL (fun k=>(((mx A B:Nat):Int),(k:Int),A.stops.map Stop.pv,A.ab.map av.pv,A.runs.map bE.pv,A.ai.map aH.pv,A.paths.map Path.pv,A.ar.map aR.pv,A.aO,A.within,A.cap,B.stops.map Stop.pv,B.ab.map av.pv,B.runs.map bE.pv,B.ai.map aH.pv,B.paths.map Path.pv,B.ar.map aR.pv,B.aO,B.within,B.cap,(Fx A B k).map Sx,())) (mx A B) (fun k hk rec=>?_) (fun rec=>?_) (by unfold mx;omega) ?_
 ·have hl:=Sw A B k;have hm:k<1000:=by unfold mx at hk;omega
  have ep:((Fx A B k).map Sx++[PV.int .i64 (k:Int)]).length*8≤aa∧0<8:=Ng _ (by simp;omega) _;have cT:∀x:bE,PV.agg [cell x.pv 0,cell x.pv 1,cell x.pv 2,cell x.pv 3,cell x.pv 4,cell x.pv 5,cell x.pv 6,cell x.pv 7]=x.pv:=aar;unfold kv;dsimp only;rw[if_pos (by rw[decide_eq_true_eq];omega)];simp only[List.length_map,bm,az,List.getElem?_map,an (show k<9223372036854775807 by omega),Pd];by_cases ha:k<A.runs.length
  ·by_cases hb:k<B.runs.length
   ·have hs:=Pe A.runs[k] B.runs[k] (hA.2 _ (List.getElem_mem ha));rw[show(decide ((k:Int)≥(A.runs.length:Int))||decide ((k:Int)≥(B.runs.length:Int)))=false by rw[decide_eq_false (by omega),decide_eq_false (by omega)];rfl];simp only[U,cond_false,List.getElem?_eq_getElem ha,List.getElem?_eq_getElem hb,Option.map_some,aar,hs,asBool];have hd:Fv A B k= !decide (A.runs[k]=B.runs[k]):=by unfold Fv;rw[List.getElem?_eq_getElem ha,List.getElem?_eq_getElem hb];simp
    rw[hd];by_cases he:A.runs[k]=B.runs[k]
    ·simp[he]
    ·simp only[he,decide_false,Bool.not_false,if_true,if_pos ep,List.map_append];rfl
   ·have hd:Fv A B k=true:=by unfold Fv;rw[List.getElem?_eq_getElem ha,List.getElem?_eq_none (by omega)];simp
    rw[show(decide ((k:Int)≥(A.runs.length:Int))||decide ((k:Int)≥(B.runs.length:Int)))=true by rw[decide_eq_true (show(k:Int)≥(B.runs.length:Int) by omega)];simp,hd];simp only[U,cond_true,if_true,if_pos ep,List.map_append];rfl
  ·have hd:Fv A B k=true:=by
    unfold Fv;have hb:k<B.runs.length:=by unfold mx at hk;omega
    rw[List.getElem?_eq_getElem hb,List.getElem?_eq_none (by omega)];simp
   rw[show(decide ((k:Int)≥(A.runs.length:Int))||decide ((k:Int)≥(B.runs.length:Int)))=true by rw[decide_eq_true (show(k:Int)≥(A.runs.length:Int) by omega)];simp,hd];simp only[U,cond_true,if_true,if_pos ep,List.map_append];rfl
 ·unfold kv;dsimp only;rw[if_neg (by simp)]
 ·have:(if(B.runs.length:Int)>(A.runs.length:Int)then(B.runs.length:Int)else(A.runs.length:Int))=((mx A B:Nat):Int):=by unfold mx;split<;>omega
  rw[this];rfl
end Go.Ab.Tt
namespace Go.Ab.Tt
set_option maxRecDepth 100000
set_option linter.unusedVariables false
set_option linter.unusedSimpArgs false
def CR:List aw:=[⟨0,100,100,true,false⟩,⟨1,200,200,false,true⟩]
def VZ(r:List bE):ah:=⟨[⟨[65],0,false,0⟩,⟨[66],0,false,0⟩],[⟨[82],0,false⟩],r,[],[],[],0,0,0⟩
def D4:ah:=VZ [⟨0,0,0,[116,48],0,false,false,CR⟩]
def pD(kind:Int)(dv:Bytes)(inst call bT:Int)(calls:List aw):iX:=⟨0,1,0,10,kind,dv,0,inst,call,bT,0,false,calls⟩
def eX:PV:=.agg [.rs 4 [.agg [.str [65],.int .i64 0,.bool false,.int .i64 0],.agg [.str [66],.int .i64 0,.bool false,.int .i64 0]],.rs 3 [.agg [.str [82],.int .i64 0,.bool false]],.rs 8 [.agg [.int .i64 0,.int .i64 0,.int .i64 0,.str [116,48],.int .i64 0,.bool false,.bool false,.rs 5 (CR.map aw.pv)]],.rs 0 [],.rs 0 [],.rs 0 [],.int .i64 0,.int .i64 0,.int .i64 0]
def aK(kind:Int)(dv:Bytes):PV:=.agg [.int .i64 0,.int .i64 1,.int .i64 0,.int .i64 10,.int .i64 kind,.str dv,.int .i64 0,.int .i64 0,.int .i64 0,.int .i64 0,.int .i64 0,.bool false,.rs 0 []]
theorem X0:fG []=some eX:=rfl
theorem UN(k:Int)(t:Bytes):hT [.int .i64 k,.str t]=some (aK k t):=rfl
theorem KW:fT []=some (.rs 5 (CR.map aw.pv)):=rfl
theorem ab2:asAgg 9 eX=some ():=rfl
theorem X6(k:Int)(t:Bytes):asAgg 13 (aK k t)=some ():=rfl
theorem Nh:xC (.agg [cell eX 0,cell eX 1,cell eX 2,cell eX 3,cell eX 4,cell eX 5,cell eX 6,cell eX 7,cell eX 8]) D4:=⟨rfl,rfl,rfl,rfl,rfl,rfl,rfl,rfl,rfl,rfl⟩
theorem Sy:D4.Ok:=by
 have h1:100≤maxLen:=by decide
 refine⟨⟨by show 2≤maxLen;omega,?_⟩,⟨by show 1≤maxLen;omega,?_⟩,⟨by show 1≤maxLen;omega,?_⟩,⟨by show 0≤maxLen;omega,fun _ h=>by cases h⟩,⟨by show 0≤maxLen;omega,fun _ h=>by cases h⟩,⟨by show 0≤maxLen;omega,fun _ h=>by cases h⟩,by decide,by decide,by decide⟩
 ·intro y hy;simp only[D4,VZ,List.mem_cons,List.not_mem_nil,or_false]at hy;rcases hy with rfl|rfl
  ·exact⟨by show 1≤maxLen;omega,by decide,by decide⟩
  ·exact⟨by show 1≤maxLen;omega,by decide,by decide⟩
 ·intro y hy;simp only[D4,VZ,List.mem_cons,List.not_mem_nil,or_false]at hy;subst hy;exact⟨by show 1≤maxLen;omega,by decide⟩
 ·intro y hy;simp only[D4,VZ,List.mem_cons,List.not_mem_nil,or_false]at hy;subst hy;refine⟨by decide,by decide,by decide,by show 2≤maxLen;omega,by decide,by show 2≤maxLen;omega,fun z hz=>?_⟩;simp only[CR,List.mem_cons,List.not_mem_nil,or_false]at hz;rcases hz with rfl|rfl<;>exact⟨by decide,by decide,by decide⟩
theorem yQ:(eU D4).2.2=0:=by decide+kernel
theorem Ni:O8 D4:=by refine⟨Sy,by decide,by decide,by decide,by decide,by decide,by decide,fun r hr=>?_⟩;simp only[D4,VZ,List.mem_cons,List.not_mem_nil,or_false]at hr;subst hr;exact(by decide:2≤1000)
theorem vd(k:Int)(t:Bytes)(i c s:Int)(l:List aw)(hk:jT k)(ht:t.length≤100)(hi:jT i)(hc:jT c)(hs:jT s)(hl:l=[]∨l=CR):(pD k t i c s l).Ok∧(pD k t i c s l).calls.length≤1000:=by
 have h1:100≤maxLen:=by decide
 have hl2:l.length≤2∧∀y∈l,y.Ok:=by
  rcases hl with rfl|rfl
  ·exact⟨by decide,fun _ h=>by cases h⟩
  ·refine⟨by decide,fun z hz=>?_⟩;simp only[CR,List.mem_cons,List.not_mem_nil,or_false]at hz;rcases hz with rfl|rfl<;>exact⟨by decide,by decide,by decide⟩
 refine⟨⟨by show jT 0;decide,by show jT 1;decide,by show jT 0;decide,by show jT 10;decide,hk,by show t.length≤maxLen;omega,by show jT 0;decide,hi,hc,hs,by show jT 0;decide,⟨by show l.length≤maxLen;omega,hl2.2⟩⟩,by show l.length≤1000;omega⟩
theorem Fz{p:PV}{A B:ah}(hp:xC p A):bX [p,B.pv]=bX [A.pv,B.pv]:=by simp only[bX,jR,hp.hA,hp.h0,hp.h1,hp.h2,hp.h3,hp.h4,hp.h5,hp.h6,hp.h7,hp.h8,qI,rq,rr,ru,ry,rz,rA,rB,rC,rD,U]
theorem rJ{q:PV}{m:iX}(hq:nv q m)(hm:m.Ok∧m.calls.length≤1000){v:PV}(h:xB D4 m=v):aZ [.agg [cell eX 0,cell eX 1,cell eX 2,cell eX 3,cell eX 4,cell eX 5,cell eX 6,cell eX 7,cell eX 8],q]=some v:=(KV Nh hq).trans ((Cu D4 m Ni hm.1 hm.2).trans (by rw[h]))
def exL:ah:=VZ [⟨0,0,0,[116,48],0,false,false,[⟨0,160,160,true,false⟩,⟨1,260,260,false,true⟩]⟩]
def Pf:ah:=VZ [⟨0,0,0,[116,48],0,false,true,CR⟩]
def exD:ah:=VZ [⟨0,0,0,[116,48],0,false,false,CR⟩,⟨-1,0,0,[120],0,false,false,CR⟩]
theorem Sz{m:iX}{N:ah}(h1:ij m=0)(h2:Fb D4 m=(N,0)):xB D4 m=.bl [N.pv,.int .i64 0]:=by unfold xB aPV;rw[if_pos yQ,if_pos h1,h2];rfl
theorem SA{m:iX}{N:ah}{e:Int}(h1:ij m=0)(h2:Fb D4 m=(N,e))(he:e≠0):xB D4 m=.bl [z9,.int .i64 e]:=by unfold xB aPV;rw[if_pos yQ,if_pos h1,h2,if_neg he]
theorem ab3:nv (.agg [cell (aK 1 [116,48]) 0,cell (aK 1 [116,48]) 1,cell (aK 1 [116,48]) 2,cell (aK 1 [116,48]) 3,cell (aK 1 [116,48]) 4,cell (aK 1 [116,48]) 5,cell (aK 1 [116,48]) 6,cell (aK 1 [116,48]) 7,cell (aK 1 [116,48]) 8,.int .i64 60,cell (aK 1 [116,48]) 10,cell (aK 1 [116,48]) 11,cell (aK 1 [116,48]) 12]) (pD 1 [116,48] 0 0 60 []):=⟨rfl,rfl,rfl,rfl,rfl,rfl,rfl,rfl,rfl,rfl,rfl,rfl,rfl,rfl⟩
theorem ab4:(pD 1 [116,48] 0 0 60 []).Ok∧(pD 1 [116,48] 0 0 60 []).calls.length≤1000:=vd _ _ _ _ _ _ (by decide) (by decide) (by decide) (by decide) (by decide) (.inl rfl)
theorem ab5:aZ [.agg [cell eX 0,cell eX 1,cell eX 2,cell eX 3,cell eX 4,cell eX 5,cell eX 6,cell eX 7,cell eX 8],.agg [cell (aK 1 [116,48]) 0,cell (aK 1 [116,48]) 1,cell (aK 1 [116,48]) 2,cell (aK 1 [116,48]) 3,cell (aK 1 [116,48]) 4,cell (aK 1 [116,48]) 5,cell (aK 1 [116,48]) 6,cell (aK 1 [116,48]) 7,cell (aK 1 [116,48]) 8,.int .i64 60,cell (aK 1 [116,48]) 10,cell (aK 1 [116,48]) 11,cell (aK 1 [116,48]) 12]]=some (.bl [exL.pv,.int .i64 0]):=rJ ab3 ab4 (Sz (by decide+kernel) (by kernel_rfl))
theorem SB:nv (.agg [cell (aK 2 [116,48]) 0,cell (aK 2 [116,48]) 1,cell (aK 2 [116,48]) 2,cell (aK 2 [116,48]) 3,cell (aK 2 [116,48]) 4,cell (aK 2 [116,48]) 5,cell (aK 2 [116,48]) 6,cell (aK 2 [116,48]) 7,cell (aK 2 [116,48]) 8,cell (aK 2 [116,48]) 9,cell (aK 2 [116,48]) 10,cell (aK 2 [116,48]) 11,cell (aK 2 [116,48]) 12]) (pD 2 [116,48] 0 0 0 []):=⟨rfl,rfl,rfl,rfl,rfl,rfl,rfl,rfl,rfl,rfl,rfl,rfl,rfl,rfl⟩
theorem SC:(pD 2 [116,48] 0 0 0 []).Ok∧(pD 2 [116,48] 0 0 0 []).calls.length≤1000:=vd _ _ _ _ _ _ (by decide) (by decide) (by decide) (by decide) (by decide) (.inl rfl)
theorem ab6:aZ [.agg [cell eX 0,cell eX 1,cell eX 2,cell eX 3,cell eX 4,cell eX 5,cell eX 6,cell eX 7,cell eX 8],.agg [cell (aK 2 [116,48]) 0,cell (aK 2 [116,48]) 1,cell (aK 2 [116,48]) 2,cell (aK 2 [116,48]) 3,cell (aK 2 [116,48]) 4,cell (aK 2 [116,48]) 5,cell (aK 2 [116,48]) 6,cell (aK 2 [116,48]) 7,cell (aK 2 [116,48]) 8,cell (aK 2 [116,48]) 9,cell (aK 2 [116,48]) 10,cell (aK 2 [116,48]) 11,cell (aK 2 [116,48]) 12]]=some (.bl [Pf.pv,.int .i64 0]):=rJ SB SC (Sz (by decide+kernel) (by kernel_rfl))
theorem ab7:nv (.agg [cell (aK 1 [116,48]) 0,cell (aK 1 [116,48]) 1,cell (aK 1 [116,48]) 2,cell (aK 1 [116,48]) 3,cell (aK 1 [116,48]) 4,cell (aK 1 [116,48]) 5,cell (aK 1 [116,48]) 6,.int .i64 1,cell (aK 1 [116,48]) 8,cell (aK 1 [116,48]) 9,cell (aK 1 [116,48]) 10,cell (aK 1 [116,48]) 11,cell (aK 1 [116,48]) 12]) (pD 1 [116,48] 1 0 0 []):=⟨rfl,rfl,rfl,rfl,rfl,rfl,rfl,rfl,rfl,rfl,rfl,rfl,rfl,rfl⟩
theorem ab8:(pD 1 [116,48] 1 0 0 []).Ok∧(pD 1 [116,48] 1 0 0 []).calls.length≤1000:=vd _ _ _ _ _ _ (by decide) (by decide) (by decide) (by decide) (by decide) (.inl rfl)
theorem ab9:aZ [.agg [cell eX 0,cell eX 1,cell eX 2,cell eX 3,cell eX 4,cell eX 5,cell eX 6,cell eX 7,cell eX 8],.agg [cell (aK 1 [116,48]) 0,cell (aK 1 [116,48]) 1,cell (aK 1 [116,48]) 2,cell (aK 1 [116,48]) 3,cell (aK 1 [116,48]) 4,cell (aK 1 [116,48]) 5,cell (aK 1 [116,48]) 6,.int .i64 1,cell (aK 1 [116,48]) 8,cell (aK 1 [116,48]) 9,cell (aK 1 [116,48]) 10,cell (aK 1 [116,48]) 11,cell (aK 1 [116,48]) 12]]=some (.bl [z9,.int .i64 16]):=rJ ab7 ab8 (SA (N:=D4) (by decide+kernel) (by kernel_rfl) (by decide))
theorem aca:nv (.agg [cell (aK 1 [116,48]) 0,cell (aK 1 [116,48]) 1,cell (aK 1 [116,48]) 2,cell (aK 1 [116,48]) 3,cell (aK 1 [116,48]) 4,cell (aK 1 [116,48]) 5,cell (aK 1 [116,48]) 6,.int .i64 0,.int .i64 2,cell (aK 1 [116,48]) 9,cell (aK 1 [116,48]) 10,cell (aK 1 [116,48]) 11,cell (aK 1 [116,48]) 12]) (pD 1 [116,48] 0 2 0 []):=⟨rfl,rfl,rfl,rfl,rfl,rfl,rfl,rfl,rfl,rfl,rfl,rfl,rfl,rfl⟩
theorem acb:(pD 1 [116,48] 0 2 0 []).Ok∧(pD 1 [116,48] 0 2 0 []).calls.length≤1000:=vd _ _ _ _ _ _ (by decide) (by decide) (by decide) (by decide) (by decide) (.inl rfl)
theorem acd:aZ [.agg [cell eX 0,cell eX 1,cell eX 2,cell eX 3,cell eX 4,cell eX 5,cell eX 6,cell eX 7,cell eX 8],.agg [cell (aK 1 [116,48]) 0,cell (aK 1 [116,48]) 1,cell (aK 1 [116,48]) 2,cell (aK 1 [116,48]) 3,cell (aK 1 [116,48]) 4,cell (aK 1 [116,48]) 5,cell (aK 1 [116,48]) 6,.int .i64 0,.int .i64 2,cell (aK 1 [116,48]) 9,cell (aK 1 [116,48]) 10,cell (aK 1 [116,48]) 11,cell (aK 1 [116,48]) 12]]=some (.bl [z9,.int .i64 9]):=rJ aca acb (SA (N:=D4) (by decide+kernel) (by kernel_rfl) (by decide))
theorem ace:nv (.agg [cell (aK 5 [120]) 0,cell (aK 5 [120]) 1,cell (aK 5 [120]) 2,cell (aK 5 [120]) 3,cell (aK 5 [120]) 4,cell (aK 5 [120]) 5,cell (aK 5 [120]) 6,cell (aK 5 [120]) 7,cell (aK 5 [120]) 8,cell (aK 5 [120]) 9,cell (aK 5 [120]) 10,cell (aK 5 [120]) 11,.rs 5 (CR.map aw.pv)]) (pD 5 [120] 0 0 0 CR):=⟨rfl,rfl,rfl,rfl,rfl,rfl,rfl,rfl,rfl,rfl,rfl,rfl,rfl,rfl⟩
theorem acf:(pD 5 [120] 0 0 0 CR).Ok∧(pD 5 [120] 0 0 0 CR).calls.length≤1000:=vd _ _ _ _ _ _ (by decide) (by decide) (by decide) (by decide) (by decide) (.inr rfl)
theorem acg:aZ [.agg [cell eX 0,cell eX 1,cell eX 2,cell eX 3,cell eX 4,cell eX 5,cell eX 6,cell eX 7,cell eX 8],.agg [cell (aK 5 [120]) 0,cell (aK 5 [120]) 1,cell (aK 5 [120]) 2,cell (aK 5 [120]) 3,cell (aK 5 [120]) 4,cell (aK 5 [120]) 5,cell (aK 5 [120]) 6,cell (aK 5 [120]) 7,cell (aK 5 [120]) 8,cell (aK 5 [120]) 9,cell (aK 5 [120]) 10,cell (aK 5 [120]) 11,.rs 5 (CR.map aw.pv)]]=some (.bl [exD.pv,.int .i64 0]):=rJ ace acf (Sz (by decide+kernel) (by kernel_rfl))
theorem V0:nv (.agg [cell (aK 5 [120]) 0,cell (aK 5 [120]) 1,cell (aK 5 [120]) 2,cell (aK 5 [120]) 3,cell (aK 5 [120]) 4,.str [116,48],cell (aK 5 [120]) 6,cell (aK 5 [120]) 7,cell (aK 5 [120]) 8,cell (aK 5 [120]) 9,cell (aK 5 [120]) 10,cell (aK 5 [120]) 11,.rs 5 (CR.map aw.pv)]) (pD 5 [116,48] 0 0 0 CR):=⟨rfl,rfl,rfl,rfl,rfl,rfl,rfl,rfl,rfl,rfl,rfl,rfl,rfl,rfl⟩
theorem SD:(pD 5 [116,48] 0 0 0 CR).Ok∧(pD 5 [116,48] 0 0 0 CR).calls.length≤1000:=vd _ _ _ _ _ _ (by decide) (by decide) (by decide) (by decide) (by decide) (.inr rfl)
theorem ach:aZ [.agg [cell eX 0,cell eX 1,cell eX 2,cell eX 3,cell eX 4,cell eX 5,cell eX 6,cell eX 7,cell eX 8],.agg [cell (aK 5 [120]) 0,cell (aK 5 [120]) 1,cell (aK 5 [120]) 2,cell (aK 5 [120]) 3,cell (aK 5 [120]) 4,.str [116,48],cell (aK 5 [120]) 6,cell (aK 5 [120]) 7,cell (aK 5 [120]) 8,cell (aK 5 [120]) 9,cell (aK 5 [120]) 10,cell (aK 5 [120]) 11,.rs 5 (CR.map aw.pv)]]=some (.bl [z9,.int .i64 6]):=rJ V0 SD (SA (N:=D4) (by decide+kernel) (by kernel_rfl) (by decide))
theorem KX:bX [.agg [cell eX 0,cell eX 1,cell eX 2,cell eX 3,cell eX 4,cell eX 5,cell eX 6,cell eX 7,cell eX 8],.agg [cell Pf.pv 0,cell Pf.pv 1,cell Pf.pv 2,cell Pf.pv 3,cell Pf.pv 4,cell Pf.pv 5,cell Pf.pv 6,cell Pf.pv 7,cell Pf.pv 8]]=some (.rs 1 [.int .i64 0]):=by refine(Fz (B:=Pf) Nh).trans ((Fy D4 Pf ⟨by decide,fun x hx=>Sy.runs.2 x hx|>.calls.1⟩ (by decide)).trans ?_);kernel_rfl
theorem Pg:bI [.agg [cell eX 0,cell eX 1,cell eX 2,cell eX 3,cell eX 4,cell eX 5,cell eX 6,cell eX 7,cell eX 8],.agg [cell (aK 2 [116,48]) 0,cell (aK 2 [116,48]) 1,cell (aK 2 [116,48]) 2,cell (aK 2 [116,48]) 3,cell (aK 2 [116,48]) 4,cell (aK 2 [116,48]) 5,cell (aK 2 [116,48]) 6,cell (aK 2 [116,48]) 7,cell (aK 2 [116,48]) 8,cell (aK 2 [116,48]) 9,cell (aK 2 [116,48]) 10,cell (aK 2 [116,48]) 11,cell (aK 2 [116,48]) 12]]=some (.bl [.int .i64 0,.bool true]):=(zQ Nh SB).trans ((ur D4 _ (by decide)).trans (by kernel_rfl))
theorem X7:fa [.agg [cell eX 0,cell eX 1,cell eX 2,cell eX 3,cell eX 4,cell eX 5,cell eX 6,cell eX 7,cell eX 8],.rs 13 [.agg [cell (aK 5 [120]) 0,cell (aK 5 [120]) 1,cell (aK 5 [120]) 2,cell (aK 5 [120]) 3,cell (aK 5 [120]) 4,.str [116,48],cell (aK 5 [120]) 6,cell (aK 5 [120]) 7,cell (aK 5 [120]) 8,cell (aK 5 [120]) 9,cell (aK 5 [120]) 10,cell (aK 5 [120]) 11,.rs 5 (CR.map aw.pv)],.agg [cell (aK 2 [116,48]) 0,cell (aK 2 [116,48]) 1,cell (aK 2 [116,48]) 2,cell (aK 2 [116,48]) 3,cell (aK 2 [116,48]) 4,cell (aK 2 [116,48]) 5,cell (aK 2 [116,48]) 6,cell (aK 2 [116,48]) 7,cell (aK 2 [116,48]) 8,cell (aK 2 [116,48]) 9,cell (aK 2 [116,48]) 10,cell (aK 2 [116,48]) 11,cell (aK 2 [116,48]) 12]]]=some (.bl [Pf.pv,.rs 1 [.int .i64 6,.int .i64 0]]):=by
 refine(Sv _ _ D4 [pD 5 [116,48] 0 0 0 CR,pD 2 [116,48] 0 0 0 []] Nh rfl (fun k hk=>?_) Ni yQ (by decide) (by decide) ?_ ?_).trans ?_
 ·match k,hk with
  |0,_=>exact⟨_,rfl,V0⟩
  |1,_=>exact⟨_,rfl,SB⟩
 ·intro m hm;simp only[List.mem_cons,List.not_mem_nil,or_false]at hm;rcases hm with rfl|rfl
  ·exact SD.1
  ·exact SC.1
 ·intro m hm;simp only[List.mem_cons,List.not_mem_nil,or_false]at hm;rcases hm with rfl|rfl
  ·exact SD.2
  ·exact SC.2
 ·kernel_rfl
theorem aci:asAgg 9 z9=some ():=rfl
theorem SE:dE []=some (.bool true):=by simp only[dE,j7,iS,X0,UN,KW,ab2,X6,U,ae,if_true,ab5,ab6,ab9,acd,acg,ach,ca,List.length_cons,List.length_nil,Nat.reduceAdd,List.getD_cons_zero,List.getD_cons_succ,asInt,qI,aci,Pg,X7,KX];kernel_rfl
end Go.Ab.Tt
namespace Go.Ab.Tt
set_option maxRecDepth 100000
set_option linter.unusedVariables false
set_option linter.unusedSimpArgs false
def sizedB(N:ah):Bool:= !(decide ((N.stops.length:Int)>20)||decide ((N.ab.length:Int)>20)||decide ((N.runs.length:Int)>20)||decide ((N.ai.length:Int)>20)||decide ((N.paths.length:Int)>200)||decide ((N.ar.length:Int)>20))&& !((List.range N.runs.length).any fun k=>(N.runs[k]?).elim false fun r=>decide ((r.calls.length:Int)>40))
theorem SF(N:ah)(h:N.Ok):jL [N.pv]=some (.bool (sizedB N)):=by
 have hm:=aW;have hr:=h.runs.1;simp only[jL,tT,qI,rq,rr,ru,ry,rz,rA,rB,rC,rD,U,bm,List.length_map];unfold sizedB;by_cases hc:(decide ((N.stops.length:Int)>20)||decide ((N.ab.length:Int)>20)||decide ((N.runs.length:Int)>20)||decide ((N.ai.length:Int)>20)||decide ((N.paths.length:Int)>200)||decide ((N.ar.length:Int)>20))=true
 ·rw[if_pos hc,hc];rfl
 ·rw[if_neg hc];have Qb:(decide ((N.stops.length:Int)>20)||decide ((N.ab.length:Int)>20)||decide ((N.runs.length:Int)>20)||decide ((N.ai.length:Int)>20)||decide ((N.paths.length:Int)>200)||decide ((N.ar.length:Int)>20))=false:=by simpa using hc
  rw[Qb,Bool.not_false,Bool.true_and];refine(oW (fun k=>((k:Int),N.stops.map Stop.pv,N.ab.map av.pv,N.runs.map bE.pv,N.ai.map aH.pv,N.paths.map Path.pv,N.ar.map aR.pv,N.aO,N.within,N.cap,())) N.runs.length (fun k=>(N.runs[k]?).elim false fun r=>decide ((r.calls.length:Int)>40)) (no:=some (.bool false)) (fin:=some (.bool true)) (fun k hk rec=>?_) (fun rec=>?_) (by have:=aS;omega) rfl).trans ?_
  ·unfold pq;dsimp only;rw[List.length_map,if_pos (by rw[decide_eq_true_eq];omega),az,List.getElem?_map,List.getElem?_eq_getElem hk];simp only[Option.map_some,U,EM,ae,if_true,List.length_map,an (show k<9223372036854775807 by omega),Option.elim];rfl
  ·unfold pq;dsimp only;rw[List.length_map,if_neg (by simp)]
   skip
  ·cases((List.range N.runs.length).any fun k=>(N.runs[k]?).elim false fun r=>decide ((r.calls.length:Int)>40))<;>rfl
theorem Ph{N:ah}(h:sizedB N=true):N.paths.length≤200∧(N.Ok→O8 N):=by
 unfold sizedB at h;simp only[Bool.and_eq_true,Bool.not_eq_true',Bool.or_eq_false_iff,decide_eq_false_iff_not,decide_eq_true_eq]at h;obtain⟨⟨⟨⟨⟨⟨h1,h2⟩,h3⟩,h4⟩,h5⟩,h6⟩,h7⟩:=h;have sF:∀r∈N.runs,r.calls.length≤40:=fun r hr=>by obtain⟨k,hk,rfl⟩:=List.getElem_of_mem hr;rw[List.any_eq_false]at h7;have:=h7 k (by simpa using hk);rw[List.getElem?_eq_getElem hk]at this;simp only[Option.elim,decide_eq_true_eq]at this;omega
 exact⟨by omega,fun ho=>⟨ho,by omega,by omega,by omega,by omega,by omega,by omega,fun r hr=>by have:=sF r hr;omega⟩⟩
def UO(m:iX):Bool:=decide ((m.dv.length:Int)≤1024)&&decide ((m.calls.length:Int)≤40)
theorem KY(m:iX):gU [m.pv]=some (.bool (UO m)):=by simp only[gU,qE,Fe,Ff,Fg,Fh,Fi,Fj,Fk,Fl,Fm,Fo,Fq,xx,xy,DX,U,asInt,bu,ae,if_true,asBool,dG,List.length_map];rfl
theorem UP{m:iX}(h:UO m=true):m.calls.length≤40:=by simp only[UO,Bool.and_eq_true,decide_eq_true_eq]at h;omega
def eN:ah:=⟨[],[],[],[],[],[],0,0,0⟩
theorem Nj:xC z9 eN:=⟨rfl,rfl,rfl,rfl,rfl,rfl,rfl,rfl,rfl,rfl⟩
theorem acj:eN.Ok:=⟨⟨Nat.zero_le _,fun _ h=>by cases h⟩,⟨Nat.zero_le _,fun _ h=>by cases h⟩,⟨Nat.zero_le _,fun _ h=>by cases h⟩,⟨Nat.zero_le _,fun _ h=>by cases h⟩,⟨Nat.zero_le _,fun _ h=>by cases h⟩,⟨Nat.zero_le _,fun _ h=>by cases h⟩,by decide,by decide,by decide⟩
theorem KZ{p q:PV}{A B:ah}(hp:xC p A)(hq:xC q B)(hA:A.Ok):fe [p,q]=some (.bool (eqN A B)):=by have h:=OR A B hA;simp only[fe,mL,qI,rq,rr,ru,ry,rz,rA,rB,rC,rD,U]at h;simp only[fe,mL,hp.hA,hp.h0,hp.h1,hp.h2,hp.h3,hp.h4,hp.h5,hp.h6,hp.h7,hp.h8,hq.hA,hq.h0,hq.h1,hq.h2,hq.h3,hq.h4,hq.h5,hq.h6,hq.h7,hq.h8,U];exact h
theorem z9E:PV.agg [cell z9 0,cell z9 1,cell z9 2,cell z9 3,cell z9 4,cell z9 5,cell z9 6,cell z9 7,cell z9 8]=z9:=rfl
theorem z9F:PV.agg [.rs 0 [],.rs 0 [],.rs 0 [],.rs 0 [],.rs 0 [],.rs 0 [],.int .i64 0,.int .i64 0,.int .i64 0]=z9:=rfl
theorem HD(N:ah)(m:iX)(h:N.Ok)(hm:m.Ok):dS [N.pv,m.pv]=some (.bool true):=by
 simp only[dS,iT,qI,rq,rr,ru,ry,rz,rA,rB,rC,rD,U,Ad,SF N h];simp only[Fe,Ff,Fg,Fh,Fi,Fj,Fk,Fl,Fm,Fo,Fq,xx,xy,DX,U,asInt,bu,ae,if_true,asBool,UH,bm,KY,SE];cases hz:sizedB N with
 |false=>rfl
 |true=>
  obtain⟨hp,hl⟩:=Ph hz;have hL:=hl h;simp only[Bool.not_true,cond_false,Se N h (by omega),U,asBool];by_cases hc:(decide ((eU N).2.2=0)|| !UO m)=true
  ·rw[if_pos hc]
  ·rw[if_neg hc];simp only[Bool.or_eq_true,not_or,Bool.not_eq_true',Bool.not_eq_false,decide_eq_true_eq]at hc;have hk:=UP hc.2;have h1:=Cu N m hL hm (by omega);have hx:xB N m=.bl [z9,.int .i64 21]:=by unfold xB;rw[if_neg hc.1]
   rw[h1,hx];simp only[U,ca,List.length_cons,List.length_nil,Nat.reduceAdd,List.getD_cons_zero,List.getD_cons_succ,if_true,asInt,aci,z9E,z9F,KZ Nj Nj acj,RL,asBool,beq_self_eq_true,cond_true];rfl
end Go.Ab.Tt
