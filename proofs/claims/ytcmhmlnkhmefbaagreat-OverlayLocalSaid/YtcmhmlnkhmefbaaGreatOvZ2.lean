import Derived.Test.YtcmhmlnkhmefbaaGreatOvZ1
import Derived.Test.YtcmhmlnkhmefbaaGreatSh3
import Derived.Test.YtcmhmlnkhmefbaaGreatNkP2
namespace Go.Ab.Tt
set_option maxRecDepth 100000
set_option linter.unusedVariables false
set_option linter.unusedSimpArgs false
def CE(ms:List PV)(len k:Int)(N:af)(er:List PV):=(ms,(0:Int),len,k,(0:Int),(0:Int),(0:Int),N.aO,N.within,N.cap,er,N.stops.map Stop.pv,N.ae.map av.pv,N.runs.map bx.pO,N.ah.map aH.pv,N.paths.map Path.pv,N.ar.map aR.pv,())
def Ec(ms:List PV)(len kk:Int)(er:List PV)(N:af)(i c:Nat)(a:Int)(k:Nat)(out:List PV):=((i:Int),(c:Int),a,((N.runs[i]?).elim 0 fun r=>(r.calls.length:Int)),(k:Int),(i:Int),ms,(0:Int),len,kk,N.runs.map bx.pO,out,N.aO,N.within,N.cap,(0:Int),(0:Int),(0:Int),er,N.stops.map Stop.pv,N.ae.map av.pv,N.ah.map aH.pv,N.paths.map Path.pv,N.ar.map aR.pv,())
theorem Nx(er:List PV)(h:er.length≤1000)(x:PV):(er++[x]).length*8≤aa∧0<8:=by
 have:1001*8≤aa:=by decide
 refine⟨?_,by decide⟩;rw[List.length_append,List.length_singleton];omega
theorem Yk(ms:List PV)(len:Int)(kk:Nat)(yt:kk<1000)(er:List PV)(Yl:er.length≤1000)(cY:_→Option PV)(N:af)(h:Pp N)(i c:Nat)(hi:i<N.runs.length)(hc:c<N.runs[i].calls.length)(ho:sX N.runs[i].calls=true)(a:Int)(h0:0≤a)(h1:a≤8000000000):cd.run (fA cd cY) (Ec ms len kk er N i c a 0 (N.runs[i].calls.map aw.pv))=match gb (N.runs[i].calls.drop c) a with|some r=>cY (CE ms len (kk+1:Nat) (FD N i (N.runs[i].calls.take c++r)) (er++[.int .i64 0]))|none=>cY (CE ms len (kk+1:Nat) N (er++[.int .i64 10])):=by
 have hlen:=h.calls N.runs[i] (List.getElem_mem hi);have Zk:1003<rounds:=by decide
 have jg:=nY ho;have P0:=Nx er Yl;have hrT:∀x,((er++[x]).length*8≤aa∧0<8)=True:=fun x=>eq_true (P0 x);have We:IntKind.i64.wrap ((kk:Int)+1)=((kk+1:Nat):Int):=an (by omega);refine(CC (Ec ms len kk er N i c) N.runs[i].calls c (cY (CE ms len (kk+1:Nat) N (er++[.int .i64 10]))) (fun out=>cY (ms,0,len,((kk+1:Nat):Int),0,0,0,N.aO,N.within,N.cap,er++[.int .i64 0],N.stops.map Stop.pv,N.ae.map av.pv,(N.runs.map bx.pO).set i (.agg [.int .i64 N.runs[i].dw,.int .i64 N.runs[i].day,.int .i64 N.runs[i].inst,.str N.runs[i].id,.int .i64 N.runs[i].bj,.bool N.runs[i].free,.bool N.runs[i].pE,.fQ 5 out]),N.ah.map aH.pv,N.paths.map Path.pv,N.ar.map aR.pv,())) (fun k a out rec hk kN=>?_) (fun k a pre rec hk kN hp V9 ha1=>?_) (fun a out rec=>?_) jg (ve ho) hc (by omega) a h0 h1).trans ?_
 ·unfold Ec fA;dsimp only;rw[List.getElem?_eq_getElem hi,Option.elim_some,if_pos (by rw[decide_eq_true_eq];omega),if_pos (by rw[decide_eq_true_eq];omega),an (by omega),Int.toNat_natCast]
 ·obtain⟨d0,d1⟩:=sD (jg k kN);obtain⟨s0,s1,s2⟩:=jg k kN;have hlm:=mW;have Y9:=HI pre N.runs[i].calls k hp (by omega);have WT:∀x,((outs pre N.runs[i].calls k).set k x).length=N.runs[i].calls.length:=fun x=>by rw[List.length_set,Y9]
  unfold Ec fA;dsimp only;rw[List.getElem?_eq_getElem hi,Option.elim_some,if_pos (by rw[decide_eq_true_eq];omega),if_neg (by rw[decide_eq_true_eq];omega)];simp only[Int.toNat_natCast,qi _ _ hi,U,Ea,List.length_map,iv k _ kN,if_true,List.getElem?_map,List.getElem?_eq_getElem kN,Option.map_some,Y9,HJ pre _ k hp kN,kI2,Nr,CB (jg k kN),Eb,Wa,Wb,WT,HM _ _ _ (show k<(outs pre N.runs[i].calls k).length by omega),List.set_set,wrap_small (show-100000000000≤a+hU N.runs[i].calls[k] by omega) (show a+hU N.runs[i].calls[k]≤100000000000 by omega),Wc,Ns,an (show k<9223372036854775807 by omega),HK pre _ k hp kN,decide_eq_true_eq,hrT,We,if_true];have eu:=HH (jg k kN) V9 ha1;by_cases ux:(late N.runs[i].calls[k] a).dep>hT
  ·rw[if_pos (show(late N.runs[i].calls[k] a).dep>3155932800 by omega),if_pos ux];rfl
  ·rw[if_neg (show¬(late N.runs[i].calls[k] a).dep>3155932800 by omega),if_neg ux];by_cases hn:k+1<N.runs[i].calls.length
   ·obtain⟨n0,n1⟩:=yX (jg k kN) (jg (k+1) hn) (ve ho k hn) V9 ux;obtain⟨t0,t1,t2⟩:=jg (k+1) hn;rw[if_pos (by omega),dif_pos hn,if_pos (iv _ _ hn),List.getElem?_eq_getElem hn];simp only[Option.map_some,U,kI1];rw[wrap_small (x:=N.runs[i].calls[k+1].arr+(late N.runs[i].calls[k] a).dep) (by omega) (by omega),wrap_small (by omega) (by omega)]
   ·rw[if_neg (by omega),dif_neg hn]
 ·unfold Ec fA;dsimp only;rw[List.getElem?_eq_getElem hi,Option.elim_some,if_neg (by simp)];simp only[Int.toNat_natCast,qi _ _ hi,U,Sz _ _ hi,if_true,U1,hrT,We,if_true]
 ·cases gb (N.runs[i].calls.drop c) a with
  |none=>rfl
  |some r=>simp only[sE,←List.map_set];simp only[FD,List.getElem?_eq_getElem hi];rfl
def SF(ms:List PV)(len kk:Int)(er:List PV)(N:af)(i:Nat)(runs:List PV)(j k:Nat)(x:List PV):=((j:Int),(k:Int),ms,(0:Int),len,kk,x,(i:Int),N.aO,N.within,N.cap,(0:Int),(0:Int),(0:Int),er,N.stops.map Stop.pv,N.ae.map av.pv,runs,N.paths.map Path.pv,N.ar.map aR.pv,())
theorem Ym(ms:List PV)(len:Int)(kk:Nat)(yt:kk<1000)(er:List PV)(Yl:er.length≤1000)(cY:_→Option PV)(N:af)(h:Pp N)(i:Nat)(runs:List PV):cd.run (lN cd cY) ((N.ah.length:Int),0,ms,0,len,(kk:Int),N.ah.map aH.pv,(i:Int),N.aO,N.within,N.cap,0,0,0,er,N.stops.map Stop.pv,N.ae.map av.pv,runs,N.paths.map Path.pv,N.ar.map aR.pv,())=cY (ms,0,len,((kk+1:Nat):Int),0,0,0,N.aO,N.within,N.cap,er++[.int .i64 0],N.stops.map Stop.pv,N.ae.map av.pv,runs,(N.ah.filter (HN i)).map aH.pv,N.paths.map Path.pv,N.ar.map aR.pv,()):=by
 have hk:=h.ah;have Zk:1003<rounds:=by decide
 have P0:=Nx er Yl;have hrT:∀x,((er++[x]).length*8≤aa∧0<8)=True:=fun x=>eq_true (P0 x);have We:IntKind.i64.wrap ((kk:Int)+1)=((kk+1:Nat):Int):=an (by omega);refine Sx (fun k=>((N.ah.length:Int),(k:Int),ms,(0:Int),len,(kk:Int),N.ah.map aH.pv,(i:Int),N.aO,N.within,N.cap,(0:Int),(0:Int),(0:Int),er,N.stops.map Stop.pv,N.ae.map av.pv,runs,N.paths.map Path.pv,N.ar.map aR.pv,())) (SF ms len kk er N i runs) (body3:=lO cd cY) N.ah (HN i) (fun x=>cY (ms,0,len,((kk+1:Nat):Int),0,0,0,N.aO,N.within,N.cap,er++[.int .i64 0],N.stops.map Stop.pv,N.ae.map av.pv,runs,x,N.paths.map Path.pv,N.ar.map aR.pv,())) (fun j k x rec kN hx hj hg=>?_) (fun j x rec hx hj=>?_) (fun k rec kN=>?_) (fun rec=>?_) (by omega)
 ·unfold SF lO;dsimp only;rw[if_pos (by rw[decide_eq_true_eq];omega),if_pos (iv _ _ (by omega)),Int.toNat_natCast,hg];simp only[U,FE,vg,asBool,Bool.not_not,an (show k<9223372036854775807 by omega),an (show j<9223372036854775807 by omega),iv j x.length (by omega),if_true,Int.toNat_natCast,List.getElem?_eq_getElem (show j<x.length by omega)]
 ·unfold SF lO;dsimp only;rw[if_neg (by rw[hx];simp)];simp only[Int.toNat_natCast,Int.toNat_zero,Nat.sub_zero,List.drop_zero];rw[if_pos (by exact⟨by omega,by omega,by omega,trivial⟩),if_pos (by exact⟨trivial,trivial,by omega,by omega⟩),if_pos (by refine⟨by omega,by omega,?_,trivial⟩;simp only[List.length_append,List.length_take,List.length_replicate,List.length_drop];omega)];rw[if_pos (P0 _),We,List.take_append_of_le_length (by simp;omega),List.take_take,Nat.min_self]
 ·unfold lN;dsimp only;rw[if_pos (by rw[decide_eq_true_eq];omega),if_pos (iv _ _ (by simpa using kN)),Int.toNat_natCast,List.getElem?_map,List.getElem?_eq_getElem kN];simp only[Option.map_some,U,FE,vg,asBool,an (show k<9223372036854775807 by omega),ff];cases hp:HN i N.ah[k]with
  |true=>simp only[Bool.not_true,Bool.false_eq_true,if_false,if_true]
  |false=>simp only[Bool.not_false,if_true,Bool.false_eq_true,if_false];rw[if_neg (by rw[decide_eq_true_eq];omega)];rfl
 ·unfold lN;dsimp only;rw[if_neg (by simp),if_pos (P0 _),We]
theorem SG(ms:List PV)(len:Int)(kk:Nat)(yt:kk<1000)(er:List PV)(Yl:er.length≤1000)(cY:_→Option PV)(l:List gC)(hl:l.length<1000)(q:PV)(aeU:ba ms (kk:Int)=some q)(hlen:len=(l.length:Int))(kN:kk<l.length)(N:af)(h:Pp N)(VT:∀m∈l,m.Ok)(hv:(dD N).2.2=0)(hmc:∀m∈l,m.calls.length≤1000)(hL:nC q l[kk]):ja cd (CE ms len kk N er) cY=cY (CE ms len (kk+1:Nat) (if fW l[kk]=0 then(if(xS N l[kk]).2=0 then(xS N l[kk]).1 else N)else N) (er++[.int .i64 (if fW l[kk]=0 then(xS N l[kk]).2 else fW l[kk])])):=by
 have P0:=Nx er Yl;have hrT:∀x,((er++[x]).length*8≤aa∧0<8)=True:=fun x=>eq_true (P0 x);have We:IntKind.i64.wrap ((kk:Int)+1)=((kk+1:Nat):Int):=an (by omega);have hm:=VT _ (List.getElem_mem kN);have hc:=hmc _ (List.getElem_mem kN);have bt:decide ((kk:Int)<len)=true:=by rw[decide_eq_true_eq];omega
 generalize l[kk]=m at hm hc hL⊢;have hmk:=(HO hL.agg).trans (HG m hm);have hr:=h.runs;have ht:=qg N m (by
  have:1000≤maxLen:=by decide
  omega)
 have VH:PV.agg [cell q 0,cell q 1,cell q 2,cell q 3,cell q 4,cell q 5,cell q 6,cell q 7,cell q 8,cell q 9,cell q 10,cell q 11,cell q 12]=Nv q:=rfl;have ht:=(Aa (SE N) hL.agg).trans ht;conv=>lhs;unfold CE ja
 dsimp only;rw[if_pos bt,aeU];simp only[U,VH,hmk,asInt,if_true,bne_self_eq_false,Bool.false_eq_true,if_false,kv,yI,ht];simp only[ff,decide_eq_true_eq];by_cases FY:fW m=0;case neg=>rw[if_neg FY,if_neg FY,if_neg FY,if_pos (P0 _),We];rfl
 rw[if_pos FY,if_pos FY,if_pos FY];unfold xS CA;simp only[hL.h4,hL.h5,hL.h6,hL.h7,hL.h8,hL.h9,hL.FW,hL.Yh,hL.Yi,U];simp only[asInt,bB,ab,asBool,if_true,U,ff,decide_eq_true_eq,hrT,We,if_true];by_cases k5:m.kind=5
 ·simp only[k5,if_true];cases htg:vO N.runs m with
  |some i=>simp only[bV,List.length_cons,List.length_nil,Nat.reduceAdd,if_true,U,List.getD_cons_zero,List.getD_cons_succ,asInt,asBool,Option.isSome_some];rfl
  |none=>
   have gB:=nV m.calls N.stops.length 0 3155932800 hm.calls.1;simp only[res]at gB;have Yf:=vf m.calls (by omega);simp only[bV,List.length_cons,List.length_nil,Nat.reduceAdd,if_true,U,List.getD_cons_zero,List.getD_cons_succ,asInt,asBool,Option.isSome_none,Bool.false_eq_true,if_false,List.length_map,bn,Bool.or_eq_true,decide_eq_true_eq,gB,uA];by_cases mn:m.bj<0∨m.bj≥(N.ae.length:Int)
   ·rw[if_pos mn,if_pos mn];rfl
   ·rw[if_neg mn,if_neg mn];by_cases he:(br m.calls (N.stops.length:Int) 0 3155932800).2=0
    ·rw[if_pos he,if_neg (show¬((N.runs.length:Int)≥1024) by omega),Yf];simp only[U,ab,if_true,he,ne_eq,not_true,if_false,if_neg (show¬(N.runs.length≥1024) by omega)];rw[if_pos (by
      have:101*80≤aa:=by decide
      rw[List.length_append,List.length_map,List.length_singleton];omega)]
     unfold CE;rw[List.map_append];rfl
    ·rw[if_neg he,if_pos he];simp only[if_neg he];rfl
 ·simp only[if_neg k5];cases htg:vO N.runs m with
  |none=>simp only[bV,List.length_cons,List.length_nil,Nat.reduceAdd,if_true,U,List.getD_cons_zero,List.getD_cons_succ,asInt,asBool,Bool.not_false];rfl
  |some i=>
   obtain⟨hi,zS,_⟩:=xD htg;have pT:ag (i:Int) N.runs.length:=⟨by omega,by omega⟩;have se:=ui hv N.runs[i] (List.getElem_mem hi);simp only[bV,List.length_cons,List.length_nil,Nat.reduceAdd,if_true,U,List.getD_cons_zero,List.getD_cons_succ,asInt,asBool,Bool.not_true,Bool.false_eq_true,if_false,qi _ _ hi,List.getElem?_eq_getElem hi,pT,Ea,Int.toNat_natCast,List.length_map,bn,dJ,Bool.or_eq_true,decide_eq_true_eq];have Tq:((decide (m.kind=1)||decide (m.kind=3))&&(decide (m.call<0)||decide (m.call≥(N.runs[i].calls.length:Int))))=decide ((m.kind=1∨m.kind=3)∧(m.call<0∨m.call≥(N.runs[i].calls.length:Int))):=by rw[Bool.eq_iff_iff];simp
   rw[Tq];simp only[decide_eq_true_eq];by_cases hn:(m.kind=1∨m.kind=3)∧(m.call<0∨m.call≥(N.runs[i].calls.length:Int))
   ·rw[if_pos hn,if_pos hn];rfl
   rw[if_neg hn,if_neg hn];by_cases k1:m.kind=1
   ·simp only[k1,if_true];have OZ:¬(m.call<0∨m.call≥(N.runs[i].calls.length:Int)):=fun hh=>hn ⟨.inl k1,hh⟩;have aeT:=not_or.1 OZ;unfold prop;rw[if_neg OZ,if_neg (show¬(m.call<0∨m.call≥(N.runs[i].calls.length:Int))from OZ)];by_cases hs:m.bS< -43200∨m.bS>43200
    ·rw[if_pos hs,if_pos hs];rfl
    rw[if_neg hs,if_neg hs];obtain⟨c,CQ⟩:∃c:Nat,m.call=(c:Int):=⟨m.call.toNat,by omega⟩;have tv:c<N.runs[i].calls.length:=by omega
    have hlen:=h.calls N.runs[i] (List.getElem_mem hi);have ho:=xI N.runs[i].calls (by
     have:1000≤maxLen:=by decide
     omega)
    have hrq:NP (cell N.runs[i].pO 7)=some (.rs 5 (N.runs[i].calls.map aw.pv)):=rfl;simp only[hrq,U,ho,asBool];cases Yg:sX N.runs[i].calls with
    |false=>rfl
    |true=>
     have ev:0≤(N.runs[i].calls.length:Int)∧(N.runs[i].calls.length:Int)≤(N.runs[i].calls.length:Int)∧(N.runs[i].calls.length:Int).toNat*32≤aa∧0<32∧0<5:=by
      have:1000*32≤aa:=by decide
      refine⟨by omega,by omega,?_,by decide,by decide⟩;rw[Int.toNat_natCast];omega
     rw[if_neg (by decide),if_pos (by rw[Int.toNat_natCast]at ev;exact ev)];simp only[CQ,Int.toNat_natCast];obtain⟨a1,a2⟩:=Nq Yg tv (show-43200≤m.bS by omega) (show m.bS≤43200 by omega);have hA:=Yk ms len kk yt er Yl cY N h i c hi tv Yg _ a1 (by omega);have Ts:∀z:PV,List.take (List.replicate N.runs[i].calls.length z).length (N.runs[i].calls.map aw.pv)++List.drop N.runs[i].calls.length (List.replicate N.runs[i].calls.length z)=N.runs[i].calls.map aw.pv:=fun z=>by rw[List.length_replicate,List.take_of_length_le (by simp),List.drop_eq_nil_of_le (by simp),List.append_nil]
     have key:∀A,A=mI N.runs[i].calls c m.bS→cd.run (fA cd cY) ((i:Int),(c:Int),A,(N.runs[i].calls.length:Int),0,(i:Int),ms,0,len,(kk:Int),N.runs.map bx.pO,N.runs[i].calls.map aw.pv,N.aO,N.within,N.cap,0,0,0,er,N.stops.map Stop.pv,N.ae.map av.pv,N.ah.map aH.pv,N.paths.map Path.pv,N.ar.map aR.pv,())=match gb (N.runs[i].calls.drop c) (mI N.runs[i].calls c m.bS)with|some r=>cY (CE ms len (kk+1:Nat) (FD N i (N.runs[i].calls.take c++r)) (er++[.int .i64 0]))|none=>cY (CE ms len (kk+1:Nat) N (er++[.int .i64 10])):=by intro A sY;subst sY;unfold Ec at hA;rw[List.getElem?_eq_getElem hi]at hA;exact hA
     have hlm:=mW;obtain⟨s0,s1,s2⟩:=nY Yg c tv;cases c with
     |zero=>rw[if_neg (by decide),if_pos (iv _ _ tv)];simp only[List.getElem?_map,List.getElem?_eq_getElem tv,Option.map_some,U,zL,asInt,if_true,Ts];refine(key _ ?_).trans (by split<;>rename_i hx<;>simp only[hx,FD,List.getElem?_eq_getElem hi]<;>rfl);rw[wrap_small (by omega) (by omega)];unfold mI;rw[List.getElem?_eq_getElem tv];simp only[iD,Option.map_some,Option.map_none,Option.getD_none,Option.getD_some];by_cases hx:N.runs[i].calls[0].arr+m.bS<0<;>simp[hx]
     |succ j=>
      have hj:j<N.runs[i].calls.length:=by omega
      rw[if_pos (by omega),vb j (by omega),if_pos (iv _ _ hj)];simp only[Int.toNat_natCast,List.getElem?_map,List.getElem?_eq_getElem hj,Option.map_some,U,zL,zM,asInt,if_true,Ts,iv _ _ tv,List.getElem?_eq_getElem tv];refine(key _ ?_).trans (by split<;>rename_i hx<;>simp only[hx,FD,List.getElem?_eq_getElem hi]<;>rfl);rw[wrap_small (by omega) (by omega)];unfold mI;rw[List.getElem?_eq_getElem tv];simp only[iD,List.getElem?_eq_getElem hj,Option.map_some,Option.getD_some]
   simp only[if_neg k1];by_cases k2:m.kind=2
   ·simp only[k2,if_true,qi _ _ hi,U,Wd,←List.map_set];rfl
   simp only[if_neg k2];by_cases k3:m.kind=3
   ·simp only[k3,if_true];have OZ:=not_or.1 (fun hh=>hn ⟨.inr k3,hh⟩:¬(m.call<0∨m.call≥(N.runs[i].calls.length:Int)));obtain⟨c,CQ⟩:∃c:Nat,m.call=(c:Int):=⟨m.call.toNat,by omega⟩;have tv:c<N.runs[i].calls.length:=by omega
    simp only[CQ,Int.toNat_natCast,iv c _ tv,if_true,List.getElem?_map,List.getElem?_eq_getElem tv,Option.map_some,U,SC,←List.map_set,ab8,List.length_set,List.length_map,pT,List.getElem?_set_self hi,Ea,List.getElem?_set_self tv,SD,List.set_set,kv];simp only[zX,List.getElem?_eq_getElem tv];rfl
   simp only[if_neg k3];by_cases k4:m.kind=4
   ·simp only[k4,if_true];have gB:=nV m.calls N.stops.length 0 3155932800 hm.calls.1;simp only[res]at gB;have Yf:=vf m.calls (by omega);simp only[gB,U,bV,List.length_cons,List.length_nil,Nat.reduceAdd,if_true,List.getD_cons_zero,List.getD_cons_succ,asInt,uA];by_cases he:(br m.calls (N.stops.length:Int) 0 3155932800).2=0
    ·simp only[he,Yf,U,ab,if_true,ne_eq,not_true,if_false];rw[Ym ms len kk yt er Yl cY N h i,U1,sE];rw[←List.map_set];rfl
    ·rw[if_neg he,if_pos he];simp only[if_neg he];rfl
   simp only[if_neg k4];rfl
def hZ(N:af)(m:gC):af:=if fW m=0 then(if(xS N m).2=0 then(xS N m).1 else N)else N
def Ap(N:af)(m:gC):Int:=if fW m=0 then(xS N m).2 else fW m
def Yn(N:af)(er:List Int):List gC→af×List Int
 |[]=>(N,er)
 |m::l=>Yn (hZ N m) (er++[Ap N m]) l
theorem Ee{N:af}{m:gC}(h:(dD N).2.2=0):(dD (hZ N m)).2.2=0:=by
 unfold hZ;by_cases h1:fW m=0
 ·rw[if_pos h1];by_cases h2:(xS N m).2=0
  ·rw[if_pos h2];exact Pm N m h h1 h2
  ·rw[if_neg h2];exact h
 ·rw[if_neg h1];exact h
end Go.Ab.Tt
namespace Go.Ab.Tt
set_option maxRecDepth 100000
set_option linter.unusedVariables false
set_option linter.unusedSimpArgs false
structure pq(N N':af)(m:gC):Prop where
 stops:N'.stops=N.stops
 ae:N'.ae=N.ae
 paths:N'.paths=N.paths
 ar:N'.ar=N.ar
 aO:N'.aO=N.aO
 within:N'.within=N.within
 cap:N'.cap=N.cap
 ah:N'.ah.length≤N.ah.length∧∀x∈N'.ah,x∈N.ah
 len:N'.runs.length≤N.runs.length+1
 runs:∀r∈N'.runs,(∃r0∈N.runs,r.dw=r0.dw∧r.inst=r0.inst∧r.id=r0.id∧r.day=r0.day∧r.bj=r0.bj)∨(r.dw= -1∧r.inst=m.inst∧r.id=m.dw∧r.day=m.day∧r.bj=m.bj)
theorem pq.rfl'(N:af)(m:gC):pq N N m:=⟨rfl,rfl,rfl,rfl,rfl,rfl,rfl,⟨Nat.le_refl _,fun _ h=>h⟩,Nat.le_succ _,fun r h=>.inl ⟨r,h,rfl,rfl,rfl,rfl,rfl⟩⟩
theorem xJ{N:af}{m:gC}{i:Nat}{r x:bx}(hr:N.runs[i]?=some r)(h:x.dw=r.dw∧x.inst=r.inst∧x.id=r.id∧x.day=r.day∧x.bj=r.bj)(ls:List aH)(hl:ls.length≤N.ah.length∧∀y∈ls,y∈N.ah):pq N {N with runs:=N.runs.set i x,ah:=ls} m:=by
 refine⟨rfl,rfl,rfl,rfl,rfl,rfl,rfl,hl,by simp,fun q hq=>.inl ?_⟩;rcases List.mem_or_eq_of_mem_set hq with hq|hq
 ·exact⟨q,hq,rfl,rfl,rfl,rfl,rfl⟩
 ·subst hq;exact⟨r,List.mem_of_getElem? hr,h⟩
theorem SH(N:af)(m:gC):pq N (xS N m).1 m:=by
 unfold xS;by_cases k5:m.kind=5
 ·rw[if_pos k5];split
  ·exact pq.rfl' N m
  ·split
   ·exact pq.rfl' N m
   ·split
    ·exact pq.rfl' N m
    ·split
     ·exact pq.rfl' N m
     ·refine⟨rfl,rfl,rfl,rfl,rfl,rfl,rfl,⟨Nat.le_refl _,fun _ h=>h⟩,by simp,fun r h=>?_⟩;rcases List.mem_append.1 h with h|h
      ·exact .inl ⟨r,h,rfl,rfl,rfl,rfl,rfl⟩
      ·simp only[List.mem_singleton]at h;subst h;exact .inr ⟨rfl,rfl,rfl,rfl,rfl⟩
 ·rw[if_neg k5];cases vO N.runs m with
  |none=>exact pq.rfl' N m
  |some i=>
   dsimp only;cases hr:N.runs[i]? with
   |none=>exact pq.rfl' N m
   |some r=>
    have Xv:N.ah.length≤N.ah.length∧∀y∈N.ah,y∈N.ah:=⟨Nat.le_refl _,fun _ h=>h⟩;dsimp only;split
    ·exact pq.rfl' N m
    ·split
     ·cases prop r.calls m.call m.bS with
      |mk o e=>
       cases o with
       |none=>exact pq.rfl' N m
       |some l=>exact xJ (x:={r with calls:=l}) hr ⟨rfl,rfl,rfl,rfl,rfl⟩ N.ah Xv
     ·split
      ·exact xJ (x:={r with pE:=true}) hr ⟨rfl,rfl,rfl,rfl,rfl⟩ N.ah Xv
      ·split
       ·exact xJ (x:={r with calls:=zX r.calls m.call.toNat}) hr ⟨rfl,rfl,rfl,rfl,rfl⟩ N.ah Xv
       ·split
        ·split
         ·exact pq.rfl' N m
         ·exact xJ (x:={r with calls:=m.calls}) hr ⟨rfl,rfl,rfl,rfl,rfl⟩ _ ⟨List.length_filter_le _ _,fun y h=>(List.mem_filter.1 h).1⟩
        ·exact pq.rfl' N m
theorem HP(N:af)(m:gC):pq N (hZ N m) m:=by
 unfold hZ;split
 ·split
  ·exact SH N m
  ·exact pq.rfl' N m
 ·exact pq.rfl' N m
theorem FF{x:Int}(h1: -9223372036854775808≤x)(h2:x≤9223372036854775807):jV x:=by show(decide ((-9223372036854775808:Int)≤x)&&decide (x≤(9223372036854775807:Int)))=true;simp[h1,h2]
theorem HQ{l:List aw}{n:Int}(h:(br l n 0 3155932800).2=0)(hn:n≤100000):l.length≤32∧∀y∈l,y.Ok:=by obtain⟨h1,h2⟩:=uj h;refine⟨h2,fun y hy=>?_⟩;obtain⟨k,hk,rfl⟩:=List.mem_iff_getElem.1 hy;have he:=zP h k hk;unfold mA at he;rw[List.getElem?_eq_getElem hk]at he;have ho:∃p,lr l[k] p n 0 3155932800=0:=⟨_,he⟩;obtain⟨p,ho⟩:=ho;obtain⟨a1,a2,a3,_⟩:=pj ho;obtain⟨b1,b2,_⟩:=sC ho;exact⟨FF (by omega) (by omega),FF (by omega) (by omega),FF (by omega) (by omega)⟩
theorem HR{N N':af}{m:gC}(h:Pp N)(hs:pq N N' m)(hv:(dD N').2.2=0)(hm:m.Ok)(hl:N.runs.length<100):Pp N':=by
 have P5:1000≤maxLen:=by decide
 have hcv:=ui hv;have s9:=yP ((mV N').1 hv).1;refine⟨⟨?_,?_,?_,?_,?_,?_,?_,?_,?_⟩,?_,?_,?_,?_,?_,?_,?_⟩
 ·rw[hs.stops];exact h.ok.stops
 ·rw[hs.ae];exact h.ok.ae
 ·refine⟨by have:=hs.len;omega,fun r hr=>?_⟩;obtain⟨c1,c2⟩:=HQ (hcv r hr) (by omega);rcases hs.runs r hr with⟨r0,h0,e1,e2,e3,e4,e5⟩|⟨e1,e2,e3,e4,e5⟩
  ·have g:=h.ok.runs.2 r0 h0;exact⟨by rw[e1];exact g.dw,by rw[e4];exact g.day,by rw[e2];exact g.inst,by rw[e3];exact g.id,by rw[e5];exact g.bj,by omega,c2⟩
  ·exact⟨by rw[e1];exact FF (by omega) (by omega),by rw[e4];exact hm.day,by rw[e2];exact hm.inst,by rw[e3];exact hm.dw,by rw[e5];exact hm.bj,by omega,c2⟩
 ·exact⟨Nat.le_trans hs.ah.1 h.ok.ah.1,fun x hx=>h.ok.ah.2 x (hs.ah.2 x hx)⟩
 ·rw[hs.paths];exact h.ok.paths
 ·rw[hs.ar];exact h.ok.ar
 ·rw[hs.aO];exact h.ok.aO
 ·rw[hs.within];exact h.ok.within
 ·rw[hs.cap];exact h.ok.cap
 ·rw[hs.stops];exact h.stops
 ·rw[hs.ae];exact h.ae
 ·have:=hs.len;omega
 ·exact Nat.le_trans hs.ah.1 h.ah
 ·rw[hs.paths];exact h.paths
 ·rw[hs.ar];exact h.ar
 ·intro r hr;have:=(HQ (hcv r hr) (by omega)).1;omega
def Wf(x:af×List Int):PV:=.bl [x.1.pv,.rs 1 (x.2.map fun e=>.int .i64 e)]
theorem SI(ms:List PV)(l:List gC)(P5:∀k,(hk:k<l.length)→∃q,ms[k]?=some q∧nC q l[k])(hl:l.length≤50)(VT:∀m∈l,m.Ok)(hmc:∀m∈l,m.calls.length≤1000):∀(j k:Nat)(N:af)(er:List Int)(fu:Nat),k+j=l.length→j<fu→Pp N→(dD N).2.2=0→N.runs.length+j<100→er.length≤k→cG (ja cd) fu (CE ms (l.length:Int) k N (er.map fun e=>.int .i64 e))=some (Wf (Yn N er (l.drop k))):=by
 intro j;induction j with
 |zero=>
  intro k N er fu hk hf hN hv hr he;obtain⟨fu,rfl⟩:∃f,fu=f+1:=⟨fu-1,by omega⟩;have:k=l.length:=by omega
  subst this;rw[cG,List.drop_length];unfold CE ja;dsimp only;rw[if_neg (by simp),kv];rfl
 |succ j ih=>
  intro k N er fu hk hf hN hv hr he;obtain⟨fu,rfl⟩:∃f,fu=f+1:=⟨fu-1,by omega⟩;have kN:k<l.length:=by omega
  obtain⟨q,ZJ,Vt⟩:=P5 k kN;rw[cG,SG _ _ k (by omega) _ (by simp;omega) _ l (by omega) q (by rw[az];exact ZJ) rfl kN N hN VT hv hmc Vt];have hs:=HP N l[k];have FX:=Ee (m:=l[k]) hv;have hlen:=hs.len;have:=ih (k+1) (hZ N l[k]) (er++[Ap N l[k]]) fu (by omega) (by omega) (HR hN hs FX (VT _ (List.getElem_mem kN)) (by omega)) FX (by omega) (by simp;omega);rw[List.map_append]at this;rw[List.drop_eq_getElem_cons kN];exact this
theorem SJ(p:PV)(ms:List PV)(N:af)(l:List gC)(hp:vP p N)(Be:ms.length=l.length)(P5:∀k,(hk:k<l.length)→∃q,ms[k]?=some q∧nC q l[k])(h:Pp N)(hv:(dD N).2.2=0)(hl:l.length≤50)(hr:N.runs.length≤40)(VT:∀m∈l,m.Ok)(hmc:∀m∈l,m.calls.length≤1000):fe [p,.rs 13 ms]=some (Wf (Yn N [] l)):=by
 have Zk:1003<rounds:=by decide
 have Bf:=Ck N h.ok (by have:=h.paths;omega);have f1:=Cl (N.stops.map Stop.pv) (by simpa using h.stops);have f2:=zQ (N.ae.map av.pv) (by simpa using h.ae);have f3:=DQ (N.runs.map bx.pv) (by simp;omega);have f4:=Cm (N.ah.map aH.pv) (by simpa using h.ah);have f5:=uo (N.paths.map Path.pv) (by simpa using h.paths);have f6:=vN (N.ar.map aR.pv) (by simpa using h.ar);have key:=SI ms l P5 hl VT hmc l.length 0 N [] rounds (by omega) (by omega) h hv (by omega) (by simp);simp only[fe,tY,hp.hA,hp.h0,hp.h1,hp.h2,hp.h3,hp.h4,hp.h5,hp.h6,hp.h7,hp.h8,U];simp only[ab,if_true,U,f1,f2,f3,f4,f5,List.length_map];refine bM (fun k=>((N.runs.length:Int),(k:Int),ms,N.stops.map Stop.pv,N.ae.map av.pv,N.runs.map bx.pv,N.ah.map aH.pv,N.paths.map Path.pv,N.ar.map aR.pv,N.aO,N.within,N.cap,(0:Int),(0:Int),(0:Int),N.ar.map aR.pv,N.aO,N.within,N.cap,N.stops.map Stop.pv,N.ae.map av.pv,N.runs.map bx.pv,N.ah.map aH.pv,N.paths.map Path.pv,N.ar.map aR.pv,N.aO,N.within,N.cap,(0:Int),(0:Int),(0:Int),N.stops.map Stop.pv,N.ae.map av.pv,mix bx.pO bx.pv N.runs k,N.ah.map aH.pv,N.paths.map Path.pv,())) N.runs.length (fun k hk rec=>?_) (fun rec=>?_) (by omega) (by rw[Hn];rfl)
 ·have fc:=Cn (N.runs[k].calls.map aw.pv) (by simpa using h.calls _ (List.getElem_mem hk));unfold pw;dsimp only;rw[if_pos (by rw[decide_eq_true_eq];omega),if_pos (E8 _ _ _ _ hk),Int.toNat_natCast,M5 _ _ _ _ hk];simp only[U,EY,fc,ab,if_true,E8 _ _ _ _ hk,Nu,an (show k<9223372036854775807 by omega)];have:=M6 bx.pO bx.pv N.runs k hk;rw[←this];rfl
 ·unfold pw;dsimp only;rw[if_neg (by simp),f6];simp only[U,ab,if_true,yI,Bf];simp only[fZ,bV,List.length_cons,List.length_nil,Nat.reduceAdd,if_true,List.getD_cons_zero,List.getD_cons_succ,asInt,U,hv,E7,List.length_map,Be];rw[kT];exact key
end Go.Ab.Tt
namespace Go.Ab.Tt
set_option maxRecDepth 100000
set_option linter.unusedVariables false
set_option linter.unusedSimpArgs false
theorem K7(l:List aw)(n s:Int):(∃r,prop l n s=(some r,0))∨∃e,prop l n s=(none,e)∧e≠0:=by
 unfold prop;by_cases h1:n<0∨n≥(l.length:Int)
 ·rw[if_pos h1];exact .inr ⟨1,rfl,by decide⟩
 rw[if_neg h1];by_cases h2:s< -43200∨s>43200
 ·rw[if_pos h2];exact .inr ⟨2,rfl,by decide⟩
 rw[if_neg h2];by_cases h3:sX l=false
 ·rw[if_pos h3];exact .inr ⟨10,rfl,by decide⟩
 rw[if_neg h3];cases gb (l.drop n.toNat) (mI l n.toNat s)with
 |some r=>exact .inl ⟨_,rfl⟩
 |none=>exact .inr ⟨10,rfl,by decide⟩
end Go.Ab.Tt
namespace Go.Ab.Tt
set_option maxRecDepth 100000
set_option linter.unusedVariables false
set_option linter.unusedSimpArgs false
theorem HS{N:af}{m:gC}(hv:(dD N).2.2=0):uz N m=if Ap N m=0 then .bl [(hZ N m).pv,.int .i64 0]else .bl [z9,.int .i64 (Ap N m)]:=by
 unfold uz Ap hZ Zj;rw[if_pos hv];by_cases h1:fW m=0
 ·rw[if_pos h1,if_pos h1,if_pos h1];by_cases h2:(xS N m).2=0
  ·rw[if_pos h2,if_pos h2,if_pos h2]
  ·rw[if_neg h2,if_neg h2]
 ·rw[if_neg h1,if_neg h1,if_neg h1]
def vl(A B:af)(k:Nat):Bool:=decide (A.runs[k]?≠B.runs[k]?)
def CZ(A B:af)(n:Nat):List Nat:=(List.range n).filter (vl A B)
theorem Ef(A B:af)(k:Nat):CZ A B (k+1)=if vl A B k=true then CZ A B k++[k]else CZ A B k:=by unfold CZ;rw[List.range_succ,List.filter_append];by_cases h:vl A B k=true<;>simp[h]
theorem SK(A B:af)(k:Nat):(CZ A B k).length≤k:=by unfold CZ;exact Nat.le_trans (List.length_filter_le _ _) (by simp)
def Ny(k:Nat):PV:=.int .i64 k
def mx(A B:af):Nat:=max A.runs.length B.runs.length
theorem Ps(x y:bx)(hx:x.calls.length≤maxLen):fp [x.pv,y.pv]=some (.bool (decide (x=y))):=by have hc:=pG x.calls y.calls hx;simp only[fp,sr,aey,UC,OR,OS,OT,UD,XN,XO,EY,U];simp only[asInt,bB,asBool,ab,if_true,U,hc,dJ,bn,ff,kH,M3];generalize decide (x.dw=y.dw)=a1;generalize decide (x.day=y.day)=a2;generalize decide (x.inst=y.inst)=a3;generalize decide (x.id=y.id)=a4;generalize decide (x.bj=y.bj)=a5;generalize decide (x.pE=y.pE)=a7;generalize decide (x.calls=y.calls)=a8;generalize decide (x.free=y.free)=a6;cases a1<;>cases a2<;>cases a3<;>cases a4<;>rfl
theorem xK(A B:af)(hA:A.runs.length≤1000∧∀x∈A.runs,x.calls.length≤maxLen)(hB:B.runs.length≤1000):bK [A.pv,B.pv]=some (.rs 1 ((CZ A B (mx A B)).map Ny)):=by
 have Zk:1003<rounds:=by decide
 simp only[bK,jT,qL,ry,rz,rA,rB,rC,rD,rE,rF,rG,U,List.length_map];refine bM (fun k=>(((mx A B:Nat):Int),(k:Int),A.stops.map Stop.pv,A.ae.map av.pv,A.runs.map bx.pv,A.ah.map aH.pv,A.paths.map Path.pv,A.ar.map aR.pv,A.aO,A.within,A.cap,B.stops.map Stop.pv,B.ae.map av.pv,B.runs.map bx.pv,B.ah.map aH.pv,B.paths.map Path.pv,B.ar.map aR.pv,B.aO,B.within,B.cap,(CZ A B k).map Ny,())) (mx A B) (fun k hk rec=>?_) (fun rec=>?_) (by unfold mx;omega) ?_
 ·have hl:=SK A B k;have hm:k<1000:=by unfold mx at hk;omega
  have ev:((CZ A B k).map Ny++[PV.int .i64 (k:Int)]).length*8≤aa∧0<8:=Nx _ (by simp;omega) _;have cR:∀x:bx,PV.agg [cell x.pv 0,cell x.pv 1,cell x.pv 2,cell x.pv 3,cell x.pv 4,cell x.pv 5,cell x.pv 6,cell x.pv 7]=x.pv:=aaB;unfold kz;dsimp only;rw[if_pos (by rw[decide_eq_true_eq];omega)];simp only[List.length_map,bn,az,List.getElem?_map,an (show k<9223372036854775807 by omega),Ef];by_cases ha:k<A.runs.length
  ·by_cases hb:k<B.runs.length
   ·have hs:=Ps A.runs[k] B.runs[k] (hA.2 _ (List.getElem_mem ha));rw[show(decide ((k:Int)≥(A.runs.length:Int))||decide ((k:Int)≥(B.runs.length:Int)))=false by rw[decide_eq_false (by omega),decide_eq_false (by omega)];rfl];simp only[U,cond_false,List.getElem?_eq_getElem ha,List.getElem?_eq_getElem hb,Option.map_some,aaB,hs,asBool];have hd:vl A B k= !decide (A.runs[k]=B.runs[k]):=by unfold vl;rw[List.getElem?_eq_getElem ha,List.getElem?_eq_getElem hb];simp
    rw[hd];by_cases he:A.runs[k]=B.runs[k]
    ·simp[he]
    ·simp only[he,decide_false,Bool.not_false,if_true,if_pos ev,List.map_append];rfl
   ·have hd:vl A B k=true:=by unfold vl;rw[List.getElem?_eq_getElem ha,List.getElem?_eq_none (by omega)];simp
    rw[show(decide ((k:Int)≥(A.runs.length:Int))||decide ((k:Int)≥(B.runs.length:Int)))=true by rw[decide_eq_true (show(k:Int)≥(B.runs.length:Int) by omega)];simp,hd];simp only[U,cond_true,if_true,if_pos ev,List.map_append];rfl
  ·have hd:vl A B k=true:=by
    unfold vl;have hb:k<B.runs.length:=by unfold mx at hk;omega
    rw[List.getElem?_eq_getElem hb,List.getElem?_eq_none (by omega)];simp
   rw[show(decide ((k:Int)≥(A.runs.length:Int))||decide ((k:Int)≥(B.runs.length:Int)))=true by rw[decide_eq_true (show(k:Int)≥(A.runs.length:Int) by omega)];simp,hd];simp only[U,cond_true,if_true,if_pos ev,List.map_append];rfl
 ·unfold kz;dsimp only;rw[if_neg (by simp)]
 ·have:(if(B.runs.length:Int)>(A.runs.length:Int)then(B.runs.length:Int)else(A.runs.length:Int))=((mx A B:Nat):Int):=by unfold mx;split<;>omega
  rw[this];rfl
end Go.Ab.Tt
namespace Go.Ab.Tt
set_option maxRecDepth 100000
set_option linter.unusedVariables false
set_option linter.unusedSimpArgs false
def C0:List aw:=[⟨0,100,100,true,false⟩,⟨1,200,200,false,true⟩]
def Wg(r:List bx):af:=⟨[⟨[65],0,false,0⟩,⟨[66],0,false,0⟩],[⟨[82],0,false⟩],r,[],[],[],0,0,0⟩
def Eg:af:=Wg [⟨0,0,0,[116,48],0,false,false,C0⟩]
def pH(kind:Int)(dw:Bytes)(inst call bS:Int)(calls:List aw):gC:=⟨0,1,0,10,kind,dw,0,inst,call,bS,0,false,calls⟩
def eZ:PV:=.agg [.rs 4 [.agg [.str [65],.int .i64 0,.bool false,.int .i64 0],.agg [.str [66],.int .i64 0,.bool false,.int .i64 0]],.rs 3 [.agg [.str [82],.int .i64 0,.bool false]],.rs 8 [.agg [.int .i64 0,.int .i64 0,.int .i64 0,.str [116,48],.int .i64 0,.bool false,.bool false,.rs 5 (C0.map aw.pv)]],.rs 0 [],.rs 0 [],.rs 0 [],.int .i64 0,.int .i64 0,.int .i64 0]
def aK(kind:Int)(dw:Bytes):PV:=.agg [.int .i64 0,.int .i64 1,.int .i64 0,.int .i64 10,.int .i64 kind,.str dw,.int .i64 0,.int .i64 0,.int .i64 0,.int .i64 0,.int .i64 0,.bool false,.rs 0 []]
theorem Yo:fI []=some eZ:=rfl
theorem U2(k:Int)(t:Bytes):ij [.int .i64 k,.str t]=some (aK k t):=rfl
theorem K8:fV []=some (.rs 5 (C0.map aw.pv)):=rfl
theorem ab9:asAgg 9 eZ=some ():=rfl
theorem Yp(k:Int)(t:Bytes):asAgg 13 (aK k t)=some ():=rfl
theorem Nz:vP (.agg [cell eZ 0,cell eZ 1,cell eZ 2,cell eZ 3,cell eZ 4,cell eZ 5,cell eZ 6,cell eZ 7,cell eZ 8]) Eg:=⟨rfl,rfl,rfl,rfl,rfl,rfl,rfl,rfl,rfl,rfl⟩
theorem SL:Eg.Ok:=by
 have h1:100≤maxLen:=by decide
 refine⟨⟨by show 2≤maxLen;omega,?_⟩,⟨by show 1≤maxLen;omega,?_⟩,⟨by show 1≤maxLen;omega,?_⟩,⟨by show 0≤maxLen;omega,fun _ h=>by cases h⟩,⟨by show 0≤maxLen;omega,fun _ h=>by cases h⟩,⟨by show 0≤maxLen;omega,fun _ h=>by cases h⟩,by decide,by decide,by decide⟩
 ·intro y hy;simp only[Eg,Wg,List.mem_cons,List.not_mem_nil,or_false]at hy;rcases hy with rfl|rfl
  ·exact⟨by show 1≤maxLen;omega,by decide,by decide⟩
  ·exact⟨by show 1≤maxLen;omega,by decide,by decide⟩
 ·intro y hy;simp only[Eg,Wg,List.mem_cons,List.not_mem_nil,or_false]at hy;subst hy;exact⟨by show 1≤maxLen;omega,by decide⟩
 ·intro y hy;simp only[Eg,Wg,List.mem_cons,List.not_mem_nil,or_false]at hy;subst hy;refine⟨by decide,by decide,by decide,by show 2≤maxLen;omega,by decide,by show 2≤maxLen;omega,fun z hz=>?_⟩;simp only[C0,List.mem_cons,List.not_mem_nil,or_false]at hz;rcases hz with rfl|rfl<;>exact⟨by decide,by decide,by decide⟩
theorem yZ:(dD Eg).2.2=0:=by decide+kernel
theorem NA:Pp Eg:=by refine⟨SL,by decide,by decide,by decide,by decide,by decide,by decide,fun r hr=>?_⟩;simp only[Eg,Wg,List.mem_cons,List.not_mem_nil,or_false]at hr;subst hr;exact(by decide:2≤1000)
theorem vh(k:Int)(t:Bytes)(i c s:Int)(l:List aw)(hk:jV k)(ht:t.length≤100)(hi:jV i)(hc:jV c)(hs:jV s)(hl:l=[]∨l=C0):(pH k t i c s l).Ok∧(pH k t i c s l).calls.length≤1000:=by
 have h1:100≤maxLen:=by decide
 have hl2:l.length≤2∧∀y∈l,y.Ok:=by
  rcases hl with rfl|rfl
  ·exact⟨by decide,fun _ h=>by cases h⟩
  ·refine⟨by decide,fun z hz=>?_⟩;simp only[C0,List.mem_cons,List.not_mem_nil,or_false]at hz;rcases hz with rfl|rfl<;>exact⟨by decide,by decide,by decide⟩
 refine⟨⟨by show jV 0;decide,by show jV 1;decide,by show jV 0;decide,by show jV 10;decide,hk,by show t.length≤maxLen;omega,by show jV 0;decide,hi,hc,hs,by show jV 0;decide,⟨by show l.length≤maxLen;omega,hl2.2⟩⟩,by show l.length≤1000;omega⟩
theorem FG{p:PV}{A B:af}(hp:vP p A):bK [p,B.pv]=bK [A.pv,B.pv]:=by simp only[bK,jT,hp.hA,hp.h0,hp.h1,hp.h2,hp.h3,hp.h4,hp.h5,hp.h6,hp.h7,hp.h8,qL,ry,rz,rA,rB,rC,rD,rE,rF,rG,U]
theorem rM{q:PV}{m:gC}(hq:nC q m)(hm:m.Ok∧m.calls.length≤1000){v:PV}(h:uz Eg m=v):aZ [.agg [cell eZ 0,cell eZ 1,cell eZ 2,cell eZ 3,cell eZ 4,cell eZ 5,cell eZ 6,cell eZ 7,cell eZ 8],q]=some v:=(K6 Nz hq).trans ((CD Eg m NA hm.1 hm.2).trans (by rw[h]))
def exL:af:=Wg [⟨0,0,0,[116,48],0,false,false,[⟨0,160,160,true,false⟩,⟨1,260,260,false,true⟩]⟩]
def Pt:af:=Wg [⟨0,0,0,[116,48],0,false,true,C0⟩]
def exD:af:=Wg [⟨0,0,0,[116,48],0,false,false,C0⟩,⟨-1,0,0,[120],0,false,false,C0⟩]
theorem SM{m:gC}{N:af}(h1:fW m=0)(h2:xS Eg m=(N,0)):uz Eg m=.bl [N.pv,.int .i64 0]:=by unfold uz Zj;rw[if_pos yZ,if_pos h1,h2];rfl
theorem SN{m:gC}{N:af}{e:Int}(h1:fW m=0)(h2:xS Eg m=(N,e))(he:e≠0):uz Eg m=.bl [z9,.int .i64 e]:=by unfold uz Zj;rw[if_pos yZ,if_pos h1,h2,if_neg he]
theorem aca:nC (.agg [cell (aK 1 [116,48]) 0,cell (aK 1 [116,48]) 1,cell (aK 1 [116,48]) 2,cell (aK 1 [116,48]) 3,cell (aK 1 [116,48]) 4,cell (aK 1 [116,48]) 5,cell (aK 1 [116,48]) 6,cell (aK 1 [116,48]) 7,cell (aK 1 [116,48]) 8,.int .i64 60,cell (aK 1 [116,48]) 10,cell (aK 1 [116,48]) 11,cell (aK 1 [116,48]) 12]) (pH 1 [116,48] 0 0 60 []):=⟨rfl,rfl,rfl,rfl,rfl,rfl,rfl,rfl,rfl,rfl,rfl,rfl,rfl,rfl⟩
theorem acb:(pH 1 [116,48] 0 0 60 []).Ok∧(pH 1 [116,48] 0 0 60 []).calls.length≤1000:=vh _ _ _ _ _ _ (by decide) (by decide) (by decide) (by decide) (by decide) (.inl rfl)
theorem acd:aZ [.agg [cell eZ 0,cell eZ 1,cell eZ 2,cell eZ 3,cell eZ 4,cell eZ 5,cell eZ 6,cell eZ 7,cell eZ 8],.agg [cell (aK 1 [116,48]) 0,cell (aK 1 [116,48]) 1,cell (aK 1 [116,48]) 2,cell (aK 1 [116,48]) 3,cell (aK 1 [116,48]) 4,cell (aK 1 [116,48]) 5,cell (aK 1 [116,48]) 6,cell (aK 1 [116,48]) 7,cell (aK 1 [116,48]) 8,.int .i64 60,cell (aK 1 [116,48]) 10,cell (aK 1 [116,48]) 11,cell (aK 1 [116,48]) 12]]=some (.bl [exL.pv,.int .i64 0]):=rM aca acb (SM (by decide+kernel) (by kernel_rfl))
theorem SO:nC (.agg [cell (aK 2 [116,48]) 0,cell (aK 2 [116,48]) 1,cell (aK 2 [116,48]) 2,cell (aK 2 [116,48]) 3,cell (aK 2 [116,48]) 4,cell (aK 2 [116,48]) 5,cell (aK 2 [116,48]) 6,cell (aK 2 [116,48]) 7,cell (aK 2 [116,48]) 8,cell (aK 2 [116,48]) 9,cell (aK 2 [116,48]) 10,cell (aK 2 [116,48]) 11,cell (aK 2 [116,48]) 12]) (pH 2 [116,48] 0 0 0 []):=⟨rfl,rfl,rfl,rfl,rfl,rfl,rfl,rfl,rfl,rfl,rfl,rfl,rfl,rfl⟩
theorem SP:(pH 2 [116,48] 0 0 0 []).Ok∧(pH 2 [116,48] 0 0 0 []).calls.length≤1000:=vh _ _ _ _ _ _ (by decide) (by decide) (by decide) (by decide) (by decide) (.inl rfl)
theorem ace:aZ [.agg [cell eZ 0,cell eZ 1,cell eZ 2,cell eZ 3,cell eZ 4,cell eZ 5,cell eZ 6,cell eZ 7,cell eZ 8],.agg [cell (aK 2 [116,48]) 0,cell (aK 2 [116,48]) 1,cell (aK 2 [116,48]) 2,cell (aK 2 [116,48]) 3,cell (aK 2 [116,48]) 4,cell (aK 2 [116,48]) 5,cell (aK 2 [116,48]) 6,cell (aK 2 [116,48]) 7,cell (aK 2 [116,48]) 8,cell (aK 2 [116,48]) 9,cell (aK 2 [116,48]) 10,cell (aK 2 [116,48]) 11,cell (aK 2 [116,48]) 12]]=some (.bl [Pt.pv,.int .i64 0]):=rM SO SP (SM (by decide+kernel) (by kernel_rfl))
theorem acf:nC (.agg [cell (aK 1 [116,48]) 0,cell (aK 1 [116,48]) 1,cell (aK 1 [116,48]) 2,cell (aK 1 [116,48]) 3,cell (aK 1 [116,48]) 4,cell (aK 1 [116,48]) 5,cell (aK 1 [116,48]) 6,.int .i64 1,cell (aK 1 [116,48]) 8,cell (aK 1 [116,48]) 9,cell (aK 1 [116,48]) 10,cell (aK 1 [116,48]) 11,cell (aK 1 [116,48]) 12]) (pH 1 [116,48] 1 0 0 []):=⟨rfl,rfl,rfl,rfl,rfl,rfl,rfl,rfl,rfl,rfl,rfl,rfl,rfl,rfl⟩
theorem acg:(pH 1 [116,48] 1 0 0 []).Ok∧(pH 1 [116,48] 1 0 0 []).calls.length≤1000:=vh _ _ _ _ _ _ (by decide) (by decide) (by decide) (by decide) (by decide) (.inl rfl)
theorem ach:aZ [.agg [cell eZ 0,cell eZ 1,cell eZ 2,cell eZ 3,cell eZ 4,cell eZ 5,cell eZ 6,cell eZ 7,cell eZ 8],.agg [cell (aK 1 [116,48]) 0,cell (aK 1 [116,48]) 1,cell (aK 1 [116,48]) 2,cell (aK 1 [116,48]) 3,cell (aK 1 [116,48]) 4,cell (aK 1 [116,48]) 5,cell (aK 1 [116,48]) 6,.int .i64 1,cell (aK 1 [116,48]) 8,cell (aK 1 [116,48]) 9,cell (aK 1 [116,48]) 10,cell (aK 1 [116,48]) 11,cell (aK 1 [116,48]) 12]]=some (.bl [z9,.int .i64 16]):=rM acf acg (SN (N:=Eg) (by decide+kernel) (by kernel_rfl) (by decide))
theorem aci:nC (.agg [cell (aK 1 [116,48]) 0,cell (aK 1 [116,48]) 1,cell (aK 1 [116,48]) 2,cell (aK 1 [116,48]) 3,cell (aK 1 [116,48]) 4,cell (aK 1 [116,48]) 5,cell (aK 1 [116,48]) 6,.int .i64 0,.int .i64 2,cell (aK 1 [116,48]) 9,cell (aK 1 [116,48]) 10,cell (aK 1 [116,48]) 11,cell (aK 1 [116,48]) 12]) (pH 1 [116,48] 0 2 0 []):=⟨rfl,rfl,rfl,rfl,rfl,rfl,rfl,rfl,rfl,rfl,rfl,rfl,rfl,rfl⟩
theorem acj:(pH 1 [116,48] 0 2 0 []).Ok∧(pH 1 [116,48] 0 2 0 []).calls.length≤1000:=vh _ _ _ _ _ _ (by decide) (by decide) (by decide) (by decide) (by decide) (.inl rfl)
theorem ack:aZ [.agg [cell eZ 0,cell eZ 1,cell eZ 2,cell eZ 3,cell eZ 4,cell eZ 5,cell eZ 6,cell eZ 7,cell eZ 8],.agg [cell (aK 1 [116,48]) 0,cell (aK 1 [116,48]) 1,cell (aK 1 [116,48]) 2,cell (aK 1 [116,48]) 3,cell (aK 1 [116,48]) 4,cell (aK 1 [116,48]) 5,cell (aK 1 [116,48]) 6,.int .i64 0,.int .i64 2,cell (aK 1 [116,48]) 9,cell (aK 1 [116,48]) 10,cell (aK 1 [116,48]) 11,cell (aK 1 [116,48]) 12]]=some (.bl [z9,.int .i64 9]):=rM aci acj (SN (N:=Eg) (by decide+kernel) (by kernel_rfl) (by decide))
theorem acm:nC (.agg [cell (aK 5 [120]) 0,cell (aK 5 [120]) 1,cell (aK 5 [120]) 2,cell (aK 5 [120]) 3,cell (aK 5 [120]) 4,cell (aK 5 [120]) 5,cell (aK 5 [120]) 6,cell (aK 5 [120]) 7,cell (aK 5 [120]) 8,cell (aK 5 [120]) 9,cell (aK 5 [120]) 10,cell (aK 5 [120]) 11,.rs 5 (C0.map aw.pv)]) (pH 5 [120] 0 0 0 C0):=⟨rfl,rfl,rfl,rfl,rfl,rfl,rfl,rfl,rfl,rfl,rfl,rfl,rfl,rfl⟩
theorem acn:(pH 5 [120] 0 0 0 C0).Ok∧(pH 5 [120] 0 0 0 C0).calls.length≤1000:=vh _ _ _ _ _ _ (by decide) (by decide) (by decide) (by decide) (by decide) (.inr rfl)
theorem aco:aZ [.agg [cell eZ 0,cell eZ 1,cell eZ 2,cell eZ 3,cell eZ 4,cell eZ 5,cell eZ 6,cell eZ 7,cell eZ 8],.agg [cell (aK 5 [120]) 0,cell (aK 5 [120]) 1,cell (aK 5 [120]) 2,cell (aK 5 [120]) 3,cell (aK 5 [120]) 4,cell (aK 5 [120]) 5,cell (aK 5 [120]) 6,cell (aK 5 [120]) 7,cell (aK 5 [120]) 8,cell (aK 5 [120]) 9,cell (aK 5 [120]) 10,cell (aK 5 [120]) 11,.rs 5 (C0.map aw.pv)]]=some (.bl [exD.pv,.int .i64 0]):=rM acm acn (SM (by decide+kernel) (by kernel_rfl))
theorem Wh:nC (.agg [cell (aK 5 [120]) 0,cell (aK 5 [120]) 1,cell (aK 5 [120]) 2,cell (aK 5 [120]) 3,cell (aK 5 [120]) 4,.str [116,48],cell (aK 5 [120]) 6,cell (aK 5 [120]) 7,cell (aK 5 [120]) 8,cell (aK 5 [120]) 9,cell (aK 5 [120]) 10,cell (aK 5 [120]) 11,.rs 5 (C0.map aw.pv)]) (pH 5 [116,48] 0 0 0 C0):=⟨rfl,rfl,rfl,rfl,rfl,rfl,rfl,rfl,rfl,rfl,rfl,rfl,rfl,rfl⟩
theorem SQ:(pH 5 [116,48] 0 0 0 C0).Ok∧(pH 5 [116,48] 0 0 0 C0).calls.length≤1000:=vh _ _ _ _ _ _ (by decide) (by decide) (by decide) (by decide) (by decide) (.inr rfl)
theorem acp:aZ [.agg [cell eZ 0,cell eZ 1,cell eZ 2,cell eZ 3,cell eZ 4,cell eZ 5,cell eZ 6,cell eZ 7,cell eZ 8],.agg [cell (aK 5 [120]) 0,cell (aK 5 [120]) 1,cell (aK 5 [120]) 2,cell (aK 5 [120]) 3,cell (aK 5 [120]) 4,.str [116,48],cell (aK 5 [120]) 6,cell (aK 5 [120]) 7,cell (aK 5 [120]) 8,cell (aK 5 [120]) 9,cell (aK 5 [120]) 10,cell (aK 5 [120]) 11,.rs 5 (C0.map aw.pv)]]=some (.bl [z9,.int .i64 6]):=rM Wh SQ (SN (N:=Eg) (by decide+kernel) (by kernel_rfl) (by decide))
theorem K9:bK [.agg [cell eZ 0,cell eZ 1,cell eZ 2,cell eZ 3,cell eZ 4,cell eZ 5,cell eZ 6,cell eZ 7,cell eZ 8],.agg [cell Pt.pv 0,cell Pt.pv 1,cell Pt.pv 2,cell Pt.pv 3,cell Pt.pv 4,cell Pt.pv 5,cell Pt.pv 6,cell Pt.pv 7,cell Pt.pv 8]]=some (.rs 1 [.int .i64 0]):=by refine(FG (B:=Pt) Nz).trans ((xK Eg Pt ⟨by decide,fun x hx=>SL.runs.2 x hx|>.calls.1⟩ (by decide)).trans ?_);kernel_rfl
theorem Pu:bw [.agg [cell eZ 0,cell eZ 1,cell eZ 2,cell eZ 3,cell eZ 4,cell eZ 5,cell eZ 6,cell eZ 7,cell eZ 8],.agg [cell (aK 2 [116,48]) 0,cell (aK 2 [116,48]) 1,cell (aK 2 [116,48]) 2,cell (aK 2 [116,48]) 3,cell (aK 2 [116,48]) 4,cell (aK 2 [116,48]) 5,cell (aK 2 [116,48]) 6,cell (aK 2 [116,48]) 7,cell (aK 2 [116,48]) 8,cell (aK 2 [116,48]) 9,cell (aK 2 [116,48]) 10,cell (aK 2 [116,48]) 11,cell (aK 2 [116,48]) 12]]=some (.bl [.int .i64 0,.bool true]):=(Aa Nz SO).trans ((qg Eg _ (by decide)).trans (by kernel_rfl))
theorem Yq:fe [.agg [cell eZ 0,cell eZ 1,cell eZ 2,cell eZ 3,cell eZ 4,cell eZ 5,cell eZ 6,cell eZ 7,cell eZ 8],.rs 13 [.agg [cell (aK 5 [120]) 0,cell (aK 5 [120]) 1,cell (aK 5 [120]) 2,cell (aK 5 [120]) 3,cell (aK 5 [120]) 4,.str [116,48],cell (aK 5 [120]) 6,cell (aK 5 [120]) 7,cell (aK 5 [120]) 8,cell (aK 5 [120]) 9,cell (aK 5 [120]) 10,cell (aK 5 [120]) 11,.rs 5 (C0.map aw.pv)],.agg [cell (aK 2 [116,48]) 0,cell (aK 2 [116,48]) 1,cell (aK 2 [116,48]) 2,cell (aK 2 [116,48]) 3,cell (aK 2 [116,48]) 4,cell (aK 2 [116,48]) 5,cell (aK 2 [116,48]) 6,cell (aK 2 [116,48]) 7,cell (aK 2 [116,48]) 8,cell (aK 2 [116,48]) 9,cell (aK 2 [116,48]) 10,cell (aK 2 [116,48]) 11,cell (aK 2 [116,48]) 12]]]=some (.bl [Pt.pv,.rs 1 [.int .i64 6,.int .i64 0]]):=by
 refine(SJ _ _ Eg [pH 5 [116,48] 0 0 0 C0,pH 2 [116,48] 0 0 0 []] Nz rfl (fun k hk=>?_) NA yZ (by decide) (by decide) ?_ ?_).trans ?_
 ·match k,hk with
  |0,_=>exact⟨_,rfl,Wh⟩
  |1,_=>exact⟨_,rfl,SO⟩
 ·intro m hm;simp only[List.mem_cons,List.not_mem_nil,or_false]at hm;rcases hm with rfl|rfl
  ·exact SQ.1
  ·exact SP.1
 ·intro m hm;simp only[List.mem_cons,List.not_mem_nil,or_false]at hm;rcases hm with rfl|rfl
  ·exact SQ.2
  ·exact SP.2
 ·kernel_rfl
theorem aeV:asAgg 9 z9=some ():=rfl
theorem SR:cB []=some (.bool true):=by simp only[cB,j9,iW,Yo,U2,K8,ab9,Yp,U,ab,if_true,acd,ace,ach,ack,aco,acp,bV,List.length_cons,List.length_nil,Nat.reduceAdd,List.getD_cons_zero,List.getD_cons_succ,asInt,qL,aeV,Pu,Yq,K9];kernel_rfl
end Go.Ab.Tt
namespace Go.Ab.Tt
set_option maxRecDepth 100000
set_option linter.unusedVariables false
set_option linter.unusedSimpArgs false
theorem La{l:List av}(h:(fv l).2=0):l.length≤64:=by
 unfold fv at h;by_cases s9:l.length>64
 ·rw[if_pos s9]at h;cases h
 ·omega
theorem Pv{l:List aR}{a b c:Int}(h:(dK l a b c).2=0):l.length≤16:=by
 unfold dK at h;split at h
 ·cases h
 ·by_cases h16:l.length>16
  ·rw[if_pos h16]at h;cases h
  ·omega
def CF(N:af):Bool:= !(decide ((N.stops.length:Int)>5)||decide ((N.runs.length:Int)>7)||decide ((N.ah.length:Int)>30)||decide ((N.paths.length:Int)>60))&&(!((List.range N.runs.length).any fun k=>(N.runs[k]?).elim false fun r=>decide ((r.calls.length:Int)>6))&&decide ((dD N).2.2=0))
theorem SS(N:af)(h:N.Ok):jN [N.pv]=some (.bool (CF N)):=by
 have hm:=aW;have hr:=h.runs.1;simp only[jN,ua,qL,ry,rz,rA,rB,rC,rD,rE,rF,rG,U,bn,List.length_map];unfold CF;by_cases hc:(decide ((N.stops.length:Int)>5)||decide ((N.runs.length:Int)>7)||decide ((N.ah.length:Int)>30)||decide ((N.paths.length:Int)>60))=true
 ·rw[if_pos hc,hc];rfl
 ·rw[if_neg hc];have PU:(decide ((N.stops.length:Int)>5)||decide ((N.runs.length:Int)>7)||decide ((N.ah.length:Int)>30)||decide ((N.paths.length:Int)>60))=false:=by simpa using hc
  rw[PU,Bool.not_false,Bool.true_and];refine(oZ (fun k=>((k:Int),N.stops.map Stop.pv,N.ae.map av.pv,N.runs.map bx.pv,N.ah.map aH.pv,N.paths.map Path.pv,N.ar.map aR.pv,N.aO,N.within,N.cap,())) N.runs.length (fun k=>(N.runs[k]?).elim false fun r=>decide ((r.calls.length:Int)>6)) (no:=some (.bool false)) (fin:=some (.bool (decide ((dD N).2.2=0)))) (fun k hk rec=>?_) (fun rec=>?_) (by have:=aS;omega) rfl).trans ?_
  ·unfold px;dsimp only;rw[List.length_map,if_pos (by rw[decide_eq_true_eq];omega),az,List.getElem?_map,List.getElem?_eq_getElem hk];simp only[Option.map_some,U,EY,ab,if_true,List.length_map,an (show k<9223372036854775807 by omega),Option.elim];rfl
  ·unfold px;dsimp only;rw[List.length_map,if_neg (by simp)];have hp:N.paths.length≤4096:=by simp only[Bool.or_eq_false_iff,decide_eq_false_iff_not]at PU;omega
   simp only[yI,HL N h hp,U,asBool]
  ·cases((List.range N.runs.length).any fun k=>(N.runs[k]?).elim false fun r=>decide ((r.calls.length:Int)>6))<;>rfl
theorem Pw{N:af}(h:CF N=true):N.runs.length≤7∧N.paths.length≤60∧(dD N).2.2=0∧(N.Ok→Pp N):=by
 unfold CF at h;simp only[Bool.and_eq_true,Bool.not_eq_true',Bool.or_eq_false_iff,decide_eq_false_iff_not,decide_eq_true_eq]at h;obtain⟨⟨⟨⟨h1,h2⟩,h3⟩,h4⟩,h7,hv⟩:=h;have se:∀r∈N.runs,r.calls.length≤6:=fun r hr=>by obtain⟨k,hk,rfl⟩:=List.getElem_of_mem hr;rw[List.any_eq_false]at h7;have:=h7 k (by simpa using hk);rw[List.getElem?_eq_getElem hk]at this;simp only[Option.elim,decide_eq_true_eq]at this;omega
 have hz:=(mV N).1 hv;have r1:=La hz.2.1;have r2:=Pv hz.2.2.2.2.2;exact⟨by omega,by omega,hv,fun ho=>⟨ho,by omega,by omega,by omega,by omega,by omega,by omega,fun r hr=>by have:=se r hr;omega⟩⟩
def U3(m:gC):Bool:=decide ((m.dw.length:Int)≤1024)&&decide ((m.calls.length:Int)≤40)
theorem Lb(m:gC):gZ [m.pv]=some (.bool (U3 m)):=by simp only[gZ,qI,Fq,Fs,Ft,Fu,Fv,Fx,Fy,Fz,FA,FB,FC,xF,xG,D8,U,asInt,bB,ab,if_true,asBool,dJ,List.length_map];rfl
theorem U4{m:gC}(h:U3 m=true):m.calls.length≤40:=by simp only[U3,Bool.and_eq_true,decide_eq_true_eq]at h;omega
def eN:af:=⟨[],[],[],[],[],[],0,0,0⟩
theorem NB:vP z9 eN:=⟨rfl,rfl,rfl,rfl,rfl,rfl,rfl,rfl,rfl,rfl⟩
theorem acq:eN.Ok:=⟨⟨Nat.zero_le _,fun _ h=>by cases h⟩,⟨Nat.zero_le _,fun _ h=>by cases h⟩,⟨Nat.zero_le _,fun _ h=>by cases h⟩,⟨Nat.zero_le _,fun _ h=>by cases h⟩,⟨Nat.zero_le _,fun _ h=>by cases h⟩,⟨Nat.zero_le _,fun _ h=>by cases h⟩,by decide,by decide,by decide⟩
theorem wF{p q:PV}{A B:af}(hp:vP p A)(hq:vP q B)(hA:A.Ok):dx [p,q]=some (.bool (XT A B)):=by have h:=O7 A B hA;simp only[dx,mP,qL,ry,rz,rA,rB,rC,rD,rE,rF,rG,U]at h;simp only[dx,mP,hp.hA,hp.h0,hp.h1,hp.h2,hp.h3,hp.h4,hp.h5,hp.h6,hp.h7,hp.h8,hq.hA,hq.h0,hq.h1,hq.h2,hq.h3,hq.h4,hq.h5,hq.h6,hq.h7,hq.h8,U];exact h
theorem z9F:PV.agg [.rs 0 [],.rs 0 [],.rs 0 [],.rs 0 [],.rs 0 [],.rs 0 [],.int .i64 0,.int .i64 0,.int .i64 0]=z9:=rfl
def FH(N:af)(m:gC):PV:=if(dD N).2.2=0∧Ap N m=0 then(hZ N m).pv else z9
def apE(N:af)(m:gC):Int:=if(dD N).2.2=0 then Ap N m else 21
theorem Px(N:af)(m:gC):uz N m=.bl [FH N m,.int .i64 (apE N m)]:=by
 unfold FH apE;by_cases hv:(dD N).2.2=0
 ·rw[HS hv,if_pos hv];by_cases hx:Ap N m=0
  ·rw[if_pos hx,if_pos ⟨hv,hx⟩,hx]
  ·rw[if_neg hx,if_neg fun h=>hx h.2]
 ·unfold uz;rw[if_neg hv,if_neg hv,if_neg fun h=>hv h.1]
theorem acr(N:af)(m:gC):asAgg 9 (FH N m)=some ():=by unfold FH;split<;>rfl
theorem acs(N:af)(m:gC):PV.agg [cell (FH N m) 0,cell (FH N m) 1,cell (FH N m) 2,cell (FH N m) 3,cell (FH N m) 4,cell (FH N m) 5,cell (FH N m) 6,cell (FH N m) 7,cell (FH N m) 8]=FH N m:=by unfold FH;split<;>rfl
end Go.Ab.Tt
namespace Go.Ab.Tt
set_option maxRecDepth 100000
set_option linter.unusedVariables false
set_option linter.unusedSimpArgs false
theorem Py{l l':List bx}(m:gC)(h:l'.map bf=l.map bf):vO l' m=vO l m:=by
 have hl:l'.length=l.length:=by have:=congrArg List.length h;simpa using this
 unfold vO;rw[h,hl]
theorem U5{l:List bx}{i:Nat}{r x:bx}(hr:l[i]?=some r)(hk:bf x=bf r):(l.set i x).map bf=l.map bf:=by have hi:=(List.getElem?_eq_some_iff.1 hr).1;have hg:=(List.getElem?_eq_some_iff.1 hr).2;rw[List.map_set,hk,←hg,←List.getElem_map bf (h:=by simpa using hi),List.set_getElem_self]
end Go.Ab.Tt
namespace Go.Ab.Tt
set_option maxRecDepth 100000
set_option linter.unusedVariables false
set_option linter.unusedSimpArgs false
end Go.Ab.Tt
namespace Go.Ab.Tt
set_option maxRecDepth 100000
set_option linter.unusedVariables false
set_option linter.unusedSimpArgs false
theorem HT{A B:af}{i:Nat}(h:∀k,k≠i→vl A B k=false):∀n,CZ A B n=if i<n∧vl A B i=true then[i]else[]
 |0=>by rw[if_neg fun hh=>Nat.not_lt_zero _ hh.1];rfl
 |n+1=>by
  rw[Ef,HT h n];by_cases hn:n=i
  ·subst hn;rw[if_neg (show¬(n<n∧vl A B n=true)from fun hh=>Nat.lt_irrefl _ hh.1)];by_cases hc:vl A B n=true
   ·rw[if_pos hc,if_pos ⟨Nat.lt_succ_self n,hc⟩];rfl
   ·rw[if_neg hc,if_neg fun hh=>hc hh.2]
  ·rw[h n hn,if_neg (by decide)];by_cases hc:i<n∧vl A B i=true
   ·rw[if_pos hc,if_pos ⟨by omega,hc.2⟩]
   ·rw[if_neg hc,if_neg fun hh=>hc ⟨by omega,hh.2⟩]
theorem U6{l:List bx}{m:gC}{x:bx}(h:vO l m=none)(hx:bf x=m.key):vO (l++[x]) m=some l.length:=by
 have hn:=HB h;unfold vO;rw[List.length_append,List.length_singleton,List.range_succ,List.find?_append];have h1:(List.range l.length).find? (fun k=>decide (((l++[x]).map bf)[k]?=some m.key))=none:=by rw[List.find?_eq_none];intro k hk;rw[List.mem_range]at hk;rw[List.map_append,List.getElem?_append_left (by simpa using hk)];intro hc;exact hn (List.mem_of_getElem? (by simpa using hc))
 rw[h1];simp[hx]
theorem Yr{l:List bx}{i:Nat}{x:bx}{k:Nat}(h:k≠i):(l.set i x)[k]?=l[k]?:=List.getElem?_set_ne (fun e=>h e.symm)
theorem Pz(N:af)(m:gC)(he:(xS N m).2=0):∃i,vO (xS N m).1.runs m=some i∧(∀k,k≠i→(xS N m).1.runs[k]?=N.runs[k]?)∧(m.kind≠4→(xS N m).1.ah=N.ah):=by
 by_cases k5:m.kind=5
 ·unfold xS at he⊢;rw[if_pos k5]at he⊢;by_cases t1:(vO N.runs m).isSome=true
  ·rw[if_pos t1]at he;cases he
  rw[if_neg t1]at he⊢;by_cases t2:m.bj<0∨m.bj≥(N.ae.length:Int)
  ·rw[if_pos t2]at he;cases he
  rw[if_neg t2]at he⊢;by_cases t3:(br m.calls N.stops.length 0 3155932800).2≠0
  ·rw[if_pos t3]at he;exact absurd he t3
  rw[if_neg t3]at he⊢;by_cases t4:N.runs.length≥1024
  ·rw[if_pos t4]at he;cases he
  rw[if_neg t4];have ht:vO N.runs m=none:=by simpa using t1
  refine⟨N.runs.length,U6 ht rfl,fun k hk=>?_,fun _=>rfl⟩;show(N.runs++[Fm m])[k]?=_;by_cases bt:k<N.runs.length
  ·rw[List.getElem?_append_left bt]
  ·rw[List.getElem?_eq_none (by simp;omega),List.getElem?_eq_none (by omega)]
 ·unfold xS at he⊢;rw[if_neg k5]at he⊢;cases ht:vO N.runs m with
  |none=>rw[ht]at he;cases he
  |some i=>
   rw[ht]at he;dsimp only at he⊢;obtain⟨hi,_,_⟩:=xD ht;have hr:N.runs[i]?=some N.runs[i]:=List.getElem?_eq_getElem hi;rw[hr]at he⊢;dsimp only at he⊢;have one:∀(x:bx)(ls:List aH),bf x=bf N.runs[i]→(m.kind≠4→ls=N.ah)→∃j,vO ({N with runs:=N.runs.set i x,ah:=ls}:af).runs m=some j∧(∀k,k≠j→({N with runs:=N.runs.set i x,ah:=ls}:af).runs[k]?=N.runs[k]?)∧(m.kind≠4→({N with runs:=N.runs.set i x,ah:=ls}:af).ah=N.ah):=fun x ls hx Xv=>⟨i,by show vO (N.runs.set i x) m=_;rw[Py m (U5 hr hx)];exact ht,fun k hk=>Yr hk,Xv⟩;by_cases hn:(m.kind=1∨m.kind=3)∧(m.call<0∨m.call≥(N.runs[i].calls.length:Int))
   ·rw[if_pos hn]at he;cases he
   rw[if_neg hn]at he⊢;by_cases k1:m.kind=1
   ·rw[if_pos k1]at he⊢;rcases K7 N.runs[i].calls m.call m.bS with⟨l,hp⟩|⟨e,hp,cR⟩
    ·rw[hp];exact one {N.runs[i]with calls:=l} N.ah rfl fun _=>rfl
    ·rw[hp]at he;exact absurd he cR
   rw[if_neg k1]at he⊢;by_cases k2:m.kind=2
   ·rw[if_pos k2];exact one {N.runs[i]with pE:=true} N.ah rfl fun _=>rfl
   rw[if_neg k2]at he⊢;by_cases k3:m.kind=3
   ·rw[if_pos k3];exact one {N.runs[i]with calls:=zX N.runs[i].calls m.call.toNat} N.ah rfl fun _=>rfl
   rw[if_neg k3]at he⊢;by_cases k4:m.kind=4
   ·rw[if_pos k4]at he⊢;by_cases hc:(br m.calls N.stops.length 0 3155932800).2≠0
    ·rw[if_pos hc]at he;exact absurd he hc
    ·rw[if_neg hc];exact one {N.runs[i]with calls:=m.calls} _ rfl fun h=>absurd k4 h
   ·rw[if_neg k4];exact⟨i,ht,fun _ _=>rfl,fun _=>rfl⟩
theorem PA(N:af)(m:gC)(h:N.Ok)(hm:m.Ok):eQ [N.pv,m.pv]=some (.bool true):=by
 simp only[eQ,ko,qL,ry,rz,rA,rB,rC,rD,rE,rF,rG,U,yI,SS N h];simp only[Fq,Fs,Ft,Fu,Fv,Fx,Fy,Fz,FA,FB,FC,xF,xG,D8,U,asInt,bB,ab,if_true,asBool,UW,bn,Lb,SR];by_cases hc:(!CF N|| !U3 m)=true
 ·rw[if_pos hc]
 ·rw[if_neg hc];simp only[Bool.or_eq_true,not_or,Bool.not_eq_true',Bool.not_eq_false]at hc;obtain⟨hr,Xt,hv,hl⟩:=Pw hc.1;have hL:=hl h;have se:=U4 hc.2;have P5:1000≤maxLen:=by decide
  have h1:=CD N m hL hm (by omega);rw[h1,Px];simp only[U,bV,List.length_cons,List.length_nil,Nat.reduceAdd,List.getD_cons_zero,List.getD_cons_succ,if_true,asInt,acr,acs];have hE:apE N m=Ap N m:=by unfold apE;rw[if_pos hv]
  by_cases hx:Ap N m=0
  ·rw[if_neg (by rw[hE,hx];simp)];have hN:FH N m=(hZ N m).pv:=by unfold FH;rw[if_pos ⟨hv,hx⟩]
   have P4:fW m=0:=by
    by_cases P4:fW m=0
    ·exact P4
    ·unfold Ap at hx;rw[if_neg P4]at hx;exact absurd hx P4
   have Vw:(xS N m).2=0:=by unfold Ap at hx;rw[if_pos P4]at hx;exact hx
   have hn:hZ N m=(xS N m).1:=by unfold hZ;rw[if_pos P4,if_pos Vw]
   have FX:=Ee (m:=m) hv;have hs:=HP N m;have Ni:=HR hL hs FX hm (by omega);obtain⟨i,t1,t2,t3⟩:=Pz N m Vw;rw[←hn]at t1 t2 t3;have hg:=qg (hZ N m) m (by have:=Ni.runs;omega);have Ow:CA (hZ N m).runs m=.bl [.int .i64 i,.bool true]:=by unfold CA;rw[t1]
   rw[Ow]at hg;have Y7:=xK N (hZ N m) ⟨by omega,fun x hx=>by have:=hL.calls x hx;omega⟩ (by have:=Ni.runs;omega);rw[HT (i:=i) (fun k hk=>by unfold vl;rw[t2 k hk];simp)]at Y7;have hvd:=HL (hZ N m) Ni.ok (by have:=Ni.paths;omega);rw[decide_eq_true FX]at hvd;rw[hN,hg];simp only[U,bV,List.length_cons,List.length_nil,Nat.reduceAdd,List.getD_cons_zero,List.getD_cons_succ,if_true,asInt,asBool,Y7,ab,hvd,List.length_map];have V1:∀r:Bool,r=false→((bif r then some true else some (!true)):Option Bool)=some false:=fun r hr=>by subst hr;rfl
   have MC:∀B:af,vP (.agg [cell (hZ N m).pv 0,cell (hZ N m).pv 1,.rs 8 (N.runs.map bx.pv),.rs 5 (B.ah.map aH.pv),cell (hZ N m).pv 4,cell (hZ N m).pv 5,cell (hZ N m).pv 6,cell (hZ N m).pv 7,cell (hZ N m).pv 8]) {hZ N m with runs:=N.runs,ah:=B.ah}:=fun B=>⟨rfl,rfl,rfl,rfl,rfl,rfl,rfl,rfl,rfl,rfl⟩;have vi:∀B:af,B.Ok→({hZ N m with runs:=N.runs,ah:=B.ah}:af).Ok:=fun B hB=>⟨Ni.ok.stops,Ni.ok.ae,h.runs,hB.ah,Ni.ok.paths,Ni.ok.ar,Ni.ok.aO,Ni.ok.within,Ni.ok.cap⟩;have heq:∀B:af,B.ah=N.ah→XT {hZ N m with runs:=N.runs,ah:=B.ah} N=true:=fun B hB=>by unfold XT;simp only[hs.stops,hs.ae,hs.paths,hs.ar,hs.aO,hs.within,hs.cap,hB,decide_true,Bool.and_self]
   have e4:=wF (MC N) (SE N) (vi N h);rw[heq N rfl]at e4;have e3:=wF (MC (hZ N m)) (SE N) (vi _ Ni.ok);have e3':m.kind≠4→dx [.agg [cell (hZ N m).pv 0,cell (hZ N m).pv 1,.rs 8 (N.runs.map bx.pv),cell (hZ N m).pv 3,cell (hZ N m).pv 4,cell (hZ N m).pv 5,cell (hZ N m).pv 6,cell (hZ N m).pv 7,cell (hZ N m).pv 8],N.pv]=some (.bool true):=fun k4=>by rw[heq (hZ N m) (t3 k4)]at e3;exact e3
   by_cases tv:i<mx N (hZ N m)∧vl N (hZ N m) i=true
   ·rw[if_pos tv];have d1:decide (((1:Nat):Int)>1)=false:=by decide
    have d2:(((1:Nat):Int)==1)=true:=by decide
    have d3:ba (List.map Ny [i]) 0=some (.int .i64 i):=rfl;have d4:cell (PV.int .i64 (i:Int)) 0=.int .i64 i:=rfl;simp only[List.length_cons,List.length_nil,Nat.zero_add,d1,d2,d3,d4,U,Bool.not_true,Bool.false_or,cond_false,cond_true,asInt,if_true,bne_self_eq_false,Bool.false_eq_true,if_false];by_cases k4:m.kind=4
    ·rw[if_pos (by simp[k4]),e4];rfl
    ·rw[if_neg (by simp[k4]),e3' k4];rfl
   ·rw[if_neg tv];have d1:decide (((0:Nat):Int)>1)=false:=by decide
    have d2:(((0:Nat):Int)==1)=false:=by decide
    simp only[List.length_nil,d1,d2,U,Bool.not_true,Bool.false_or,cond_false,cond_true,asInt,if_true,Bool.false_eq_true,if_false];by_cases k4:m.kind=4
    ·rw[if_pos (by simp[k4]),e4];rfl
    ·rw[if_neg (by simp[k4]),e3' k4];rfl
  ·rw[if_pos (by rw[hE];simpa using hx)];have hN:FH N m=z9:=by unfold FH;rw[if_neg fun hh=>hx hh.2]
   rw[hN,z9F,wF NB NB acq,R2];rfl
end Go.Ab.Tt
