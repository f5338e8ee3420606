import Derived.Test.YtcmhmlnkhmefbaaOvZ1
import Derived.Test.YtcmhmlnkhmefbaaNkP2
namespace Go.Ab.Tt
set_option maxRecDepth 100000
set_option linter.unusedVariables false
set_option linter.unusedSimpArgs false
def Ah(ms:List PV)(len k:Int)(N:aj)(er:List PV):=(ms,(0:Int),len,k,(0:Int),(0:Int),(0:Int),N.cM,N.within,N.cap,er,N.stops.map Stop.pv,N.ao.map aW.pv,N.runs.map cz.nj,N.aJ.map aM.pv,N.paths.map Path.pv,N.aU.map bX.pv,())
def B1(ms:List PV)(len kk:Int)(er:List PV)(N:aj)(i c:Nat)(a:Int)(k:Nat)(out:List PV):=((i:Int),(c:Int),a,((N.runs[i]?).elim 0 fun r=>(r.calls.length:Int)),(k:Int),(i:Int),ms,(0:Int),len,kk,N.runs.map cz.nj,out,N.cM,N.within,N.cap,(0:Int),(0:Int),(0:Int),er,N.stops.map Stop.pv,N.ao.map aW.pv,N.aJ.map aM.pv,N.paths.map Path.pv,N.aU.map bX.pv,())
theorem E3(er:List PV)(h:er.length≤1000)(x:PV):(er++[x]).length*8≤aa∧0<8:=by
 have:1001*8≤aa:=by decide
 refine⟨?_,by decide⟩;rw[List.length_append,List.length_singleton];omega
theorem Ua(ms:List PV)(len:Int)(kk:Nat)(vz:kk<1000)(er:List PV)(Ub:er.length≤1000)(cJ:_→Option PV)(N:aj)(h:Lr N)(i c:Nat)(hi:i<N.runs.length)(hc:c<N.runs[i].calls.length)(ho:rG N.runs[i].calls=true)(a:Int)(h0:0≤a)(h1:a≤8000000000):dM.run (eY dM cJ) (B1 ms len kk er N i c a 0 (N.runs[i].calls.map an.pv))=match fN (N.runs[i].calls.drop c) a with|some r=>cJ (Ah ms len (kk+1:Nat) (C7 N i (N.runs[i].calls.take c++r)) (er++[.int .i64 0]))|none=>cJ (Ah ms len (kk+1:Nat) N (er++[.int .i64 10])):=by
 have hlen:=h.calls N.runs[i] (List.getElem_mem hi);have Sf:1003<rounds:=by decide
 have il:=mi ho;have LW:=E3 er Ub;have Yc:∀x,((er++[x]).length*8≤aa∧0<8)=True:=fun x=>eq_true (LW x);have PD:IntKind.i64.wrap ((kk:Int)+1)=((kk+1:Nat):Int):=aI (by omega);refine(Af (B1 ms len kk er N i c) N.runs[i].calls c (cJ (Ah ms len (kk+1:Nat) N (er++[.int .i64 10]))) (fun out=>cJ (ms,0,len,((kk+1:Nat):Int),0,0,0,N.cM,N.within,N.cap,er++[.int .i64 0],N.stops.map Stop.pv,N.ao.map aW.pv,(N.runs.map cz.nj).set i (.agg [.int .i64 N.runs[i].dA,.int .i64 N.runs[i].day,.int .i64 N.runs[i].inst,.str N.runs[i].id,.int .i64 N.runs[i].bd,.bool N.runs[i].free,.bool N.runs[i].pJ,.gC 5 out]),N.aJ.map aM.pv,N.paths.map Path.pv,N.aU.map bX.pv,())) (fun k a out rec hk jI=>?_) (fun k a pre rec hk jI hp Sa X4=>?_) (fun a out rec=>?_) il (sn ho) hc (by omega) a h0 h1).trans ?_
 ·unfold B1 eY;dsimp only;rw[List.getElem?_eq_getElem hi,Option.elim_some,if_pos (by rw[decide_eq_true_eq];omega),if_pos (by rw[decide_eq_true_eq];omega),aI (by omega),Int.toNat_natCast]
 ·obtain⟨d0,d1⟩:=pR (il k jI);obtain⟨s0,s1,s2⟩:=il k jI;have hlm:=lA;have UO:=EX pre N.runs[i].calls k hp (by omega);have S5:∀x,((outs pre N.runs[i].calls k).set k x).length=N.runs[i].calls.length:=fun x=>by rw[List.length_set,UO]
  unfold B1 eY;dsimp only;rw[List.getElem?_eq_getElem hi,Option.elim_some,if_pos (by rw[decide_eq_true_eq];omega),if_neg (by rw[decide_eq_true_eq];omega)];simp only[Int.toNat_natCast,nP _ _ hi,U,BX,List.length_map,gB k _ jI,if_true,List.getElem?_map,List.getElem?_eq_getElem jI,Option.map_some,UO,EY pre _ k hp jI,kI2,JS,Ae (il k jI),BZ,Sb,Sc,S5,E0 _ _ _ (show k<(outs pre N.runs[i].calls k).length by omega),List.set_set,wrap_small (show-100000000000≤a+gq N.runs[i].calls[k] by omega) (show a+gq N.runs[i].calls[k]≤100000000000 by omega),Sd,JT,aI (show k<9223372036854775807 by omega),EZ pre _ k hp jI,decide_eq_true_eq,Yc,PD,if_true];have dQ:=EW (il k jI) Sa X4;by_cases rI:(late N.runs[i].calls[k] a).dep>gp
  ·rw[if_pos (show(late N.runs[i].calls[k] a).dep>3155932800 by omega),if_pos rI];rfl
  ·rw[if_neg (show¬(late N.runs[i].calls[k] a).dep>3155932800 by omega),if_neg rI];by_cases hn:k+1<N.runs[i].calls.length
   ·obtain⟨n0,n1⟩:=we (il k jI) (il (k+1) hn) (sn ho k hn) Sa rI;obtain⟨t0,t1,t2⟩:=il (k+1) hn;rw[if_pos (by omega),dif_pos hn,if_pos (gB _ _ hn),List.getElem?_eq_getElem hn];simp only[Option.map_some,U,kI1];rw[wrap_small (x:=N.runs[i].calls[k+1].arr+(late N.runs[i].calls[k] a).dep) (by omega) (by omega),wrap_small (by omega) (by omega)]
   ·rw[if_neg (by omega),dif_neg hn]
 ·unfold B1 eY;dsimp only;rw[List.getElem?_eq_getElem hi,Option.elim_some,if_neg (by simp)];simp only[Int.toNat_natCast,nP _ _ hi,U,OL _ _ hi,if_true,Q0,Yc,PD,if_true]
 ·cases fN (N.runs[i].calls.drop c) a with
  |none=>rfl
  |some r=>simp only[pS,←List.map_set];simp only[C7,List.getElem?_eq_getElem hi];rfl
def OQ(ms:List PV)(len kk:Int)(er:List PV)(N:aj)(i:Nat)(runs:List PV)(j k:Nat)(x:List PV):=((j:Int),(k:Int),ms,(0:Int),len,kk,x,(i:Int),N.cM,N.within,N.cap,(0:Int),(0:Int),(0:Int),er,N.stops.map Stop.pv,N.ao.map aW.pv,runs,N.paths.map Path.pv,N.aU.map bX.pv,())
theorem Uc(ms:List PV)(len:Int)(kk:Nat)(vz:kk<1000)(er:List PV)(Ub:er.length≤1000)(cJ:_→Option PV)(N:aj)(h:Lr N)(i:Nat)(runs:List PV):dM.run (kq dM cJ) ((N.aJ.length:Int),0,ms,0,len,(kk:Int),N.aJ.map aM.pv,(i:Int),N.cM,N.within,N.cap,0,0,0,er,N.stops.map Stop.pv,N.ao.map aW.pv,runs,N.paths.map Path.pv,N.aU.map bX.pv,())=cJ (ms,0,len,((kk+1:Nat):Int),0,0,0,N.cM,N.within,N.cap,er++[.int .i64 0],N.stops.map Stop.pv,N.ao.map aW.pv,runs,(N.aJ.filter (E1 i)).map aM.pv,N.paths.map Path.pv,N.aU.map bX.pv,()):=by
 have hk:=h.aJ;have Sf:1003<rounds:=by decide
 have LW:=E3 er Ub;have Yc:∀x,((er++[x]).length*8≤aa∧0<8)=True:=fun x=>eq_true (LW x);have PD:IntKind.i64.wrap ((kk:Int)+1)=((kk+1:Nat):Int):=aI (by omega);refine OJ (fun k=>((N.aJ.length:Int),(k:Int),ms,(0:Int),len,(kk:Int),N.aJ.map aM.pv,(i:Int),N.cM,N.within,N.cap,(0:Int),(0:Int),(0:Int),er,N.stops.map Stop.pv,N.ao.map aW.pv,runs,N.paths.map Path.pv,N.aU.map bX.pv,())) (OQ ms len kk er N i runs) (body3:=kr dM cJ) N.aJ (E1 i) (fun x=>cJ (ms,0,len,((kk+1:Nat):Int),0,0,0,N.cM,N.within,N.cap,er++[.int .i64 0],N.stops.map Stop.pv,N.ao.map aW.pv,runs,x,N.paths.map Path.pv,N.aU.map bX.pv,())) (fun j k x rec jI hx hj hg=>?_) (fun j x rec hx hj=>?_) (fun k rec jI=>?_) (fun rec=>?_) (by omega)
 ·unfold OQ kr;dsimp only;rw[if_pos (by rw[decide_eq_true_eq];omega),if_pos (gB _ _ (by omega)),Int.toNat_natCast,hg];simp only[U,C8,sq,asBool,Bool.not_not,aI (show k<9223372036854775807 by omega),aI (show j<9223372036854775807 by omega),gB j x.length (by omega),if_true,Int.toNat_natCast,List.getElem?_eq_getElem (show j<x.length by omega)]
 ·unfold OQ kr;dsimp only;rw[if_neg (by rw[hx];simp)];simp only[Int.toNat_natCast,Int.toNat_zero,Nat.sub_zero,List.drop_zero];rw[if_pos (by exact⟨by omega,by omega,by omega,trivial⟩),if_pos (by exact⟨trivial,trivial,by omega,by omega⟩),if_pos (by refine⟨by omega,by omega,?_,trivial⟩;simp only[List.length_append,List.length_take,List.length_replicate,List.length_drop];omega)];rw[if_pos (LW _),PD,List.take_append_of_le_length (by simp;omega),List.take_take,Nat.min_self]
 ·unfold kq;dsimp only;rw[if_pos (by rw[decide_eq_true_eq];omega),if_pos (gB _ _ (by simpa using jI)),Int.toNat_natCast,List.getElem?_map,List.getElem?_eq_getElem jI];simp only[Option.map_some,U,C8,sq,asBool,aI (show k<9223372036854775807 by omega),j6];cases hp:E1 i N.aJ[k]with
  |true=>simp only[Bool.not_true,Bool.false_eq_true,if_false,if_true]
  |false=>simp only[Bool.not_false,if_true,Bool.false_eq_true,if_false];rw[if_neg (by rw[decide_eq_true_eq];omega)];rfl
 ·unfold kq;dsimp only;rw[if_neg (by simp),if_pos (LW _),PD]
theorem OR(ms:List PV)(len:Int)(kk:Nat)(vz:kk<1000)(er:List PV)(Ub:er.length≤1000)(cJ:_→Option PV)(l:List iS)(hl:l.length<1000)(q:PV)(abh:da ms (kk:Int)=some q)(hlen:len=(l.length:Int))(jI:kk<l.length)(N:aj)(h:Lr N)(RS:∀m∈l,m.Ok)(hv:(fv N).2.2=0)(Yd:∀m∈l,m.calls.length≤1000)(hL:lR q l[kk]):hT dM (Ah ms len kk N er) cJ=cJ (Ah ms len (kk+1:Nat) (if gA l[kk]=0 then(if(C5 N l[kk]).2=0 then(C5 N l[kk]).1 else N)else N) (er++[.int .i64 (if gA l[kk]=0 then(C5 N l[kk]).2 else gA l[kk])])):=by
 have LW:=E3 er Ub;have Yc:∀x,((er++[x]).length*8≤aa∧0<8)=True:=fun x=>eq_true (LW x);have PD:IntKind.i64.wrap ((kk:Int)+1)=((kk+1:Nat):Int):=aI (by omega);have hm:=RS _ (List.getElem_mem jI);have hc:=Yd _ (List.getElem_mem jI);have ba:decide ((kk:Int)<len)=true:=by rw[decide_eq_true_eq];omega
 generalize l[kk]=m at hm hc hL⊢;have hmk:=(E2 hL.agg).trans (EU m hm);have hr:=h.runs;have ht:=rL N m (by
  have:1000≤maxLen:=by decide
  omega)
 have RF:PV.agg [cell q 0,cell q 1,cell q 2,cell q 3,cell q 4,cell q 5,cell q 6,cell q 7,cell q 8,cell q 9,cell q 10,cell q 11,cell q 12]=JW q:=rfl;have ht:=(xn (Yb N) hL.agg).trans ht;conv=>lhs;unfold Ah hT
 dsimp only;rw[if_pos ba,abh];simp only[U,RF,hmk,asInt,if_true,bne_self_eq_false,Bool.false_eq_true,if_false,jt,K6,ht];simp only[j6,decide_eq_true_eq];by_cases Dh:gA m=0;case neg=>rw[if_neg Dh,if_neg Dh,if_neg Dh,if_pos (LW _),PD];rfl
 rw[if_pos Dh,if_pos Dh,if_pos Dh];unfold C5 EV;simp only[hL.h4,hL.h5,hL.h6,hL.h7,hL.h8,hL.h9,hL.Km,hL.X9,hL.Ya,U];simp only[asInt,dh,ae,asBool,if_true,U,j6,decide_eq_true_eq,Yc,PD,if_true];by_cases k5:m.kind=5
 ·simp only[k5,if_true];cases X8:BS N.runs m with
  |some i=>simp only[cB,List.length_cons,List.length_nil,Nat.reduceAdd,if_true,U,List.getD_cons_zero,List.getD_cons_succ,asInt,asBool,Option.isSome_some];rfl
  |none=>
   have gI:=me m.calls N.stops.length 0 3155932800 hm.calls.1;simp only[res]at gI;have T7:=so m.calls (by omega);simp only[cB,List.length_cons,List.length_nil,Nat.reduceAdd,if_true,U,List.getD_cons_zero,List.getD_cons_succ,asInt,asBool,Option.isSome_none,Bool.false_eq_true,if_false,List.length_map,cC,Bool.or_eq_true,decide_eq_true_eq,gI,rM];by_cases kU:m.bd<0∨m.bd≥(N.ao.length:Int)
   ·rw[if_pos kU,if_pos kU];rfl
   ·rw[if_neg kU,if_neg kU];by_cases he:(bx m.calls (N.stops.length:Int) 0 3155932800).2=0
    ·rw[if_pos he,if_neg (show¬((N.runs.length:Int)≥1024) by omega),T7];simp only[U,ae,if_true,he,ne_eq,not_true,if_false,if_neg (show¬(N.runs.length≥1024) by omega)];rw[if_pos (by
      have:101*80≤aa:=by decide
      rw[List.length_append,List.length_map,List.length_singleton];omega)]
     unfold Ah;rw[List.map_append];rfl
    ·rw[if_neg he,if_pos he];simp only[if_neg he];rfl
 ·simp only[if_neg k5];cases X8:BS N.runs m with
  |none=>simp only[cB,List.length_cons,List.length_nil,Nat.reduceAdd,if_true,U,List.getD_cons_zero,List.getD_cons_succ,asInt,asBool,Bool.not_false];rfl
  |some i=>
   obtain⟨hi,zR,_⟩:=zS X8;have qA:ag (i:Int) N.runs.length:=⟨by omega,by omega⟩;have py:=rB hv N.runs[i] (List.getElem_mem hi);simp only[cB,List.length_cons,List.length_nil,Nat.reduceAdd,if_true,U,List.getD_cons_zero,List.getD_cons_succ,asInt,asBool,Bool.not_true,Bool.false_eq_true,if_false,nP _ _ hi,List.getElem?_eq_getElem hi,qA,BX,Int.toNat_natCast,List.length_map,cC,iu,Bool.or_eq_true,decide_eq_true_eq];have PA:((decide (m.kind=1)||decide (m.kind=3))&&(decide (m.call<0)||decide (m.call≥(N.runs[i].calls.length:Int))))=decide ((m.kind=1∨m.kind=3)∧(m.call<0∨m.call≥(N.runs[i].calls.length:Int))):=by rw[Bool.eq_iff_iff];simp
   rw[PA];simp only[decide_eq_true_eq];by_cases hn:(m.kind=1∨m.kind=3)∧(m.call<0∨m.call≥(N.runs[i].calls.length:Int))
   ·rw[if_pos hn,if_pos hn];rfl
   rw[if_neg hn,if_neg hn];by_cases k1:m.kind=1
   ·simp only[k1,if_true];have Od:¬(m.call<0∨m.call≥(N.runs[i].calls.length:Int)):=fun hh=>hn ⟨.inl k1,hh⟩;have abg:=not_or.1 Od;unfold prop;rw[if_neg Od,if_neg (show¬(m.call<0∨m.call≥(N.runs[i].calls.length:Int))from Od)];by_cases hs:m.bP< -43200∨m.bP>43200
    ·rw[if_pos hs,if_pos hs];rfl
    rw[if_neg hs,if_neg hs];obtain⟨c,Ay⟩:∃c:Nat,m.call=(c:Int):=⟨m.call.toNat,by omega⟩;have rY:c<N.runs[i].calls.length:=by omega
    have hlen:=h.calls N.runs[i] (List.getElem_mem hi);have ho:=uP N.runs[i].calls (by
     have:1000≤maxLen:=by decide
     omega)
    have hrq:J8 (cell N.runs[i].nj 7)=some (.rs 5 (N.runs[i].calls.map an.pv)):=rfl;simp only[hrq,U,ho,asBool];cases T8:rG N.runs[i].calls with
    |false=>rfl
    |true=>
     have dc:0≤(N.runs[i].calls.length:Int)∧(N.runs[i].calls.length:Int)≤(N.runs[i].calls.length:Int)∧(N.runs[i].calls.length:Int).toNat*32≤aa∧0<32∧0<5:=by
      have:1000*32≤aa:=by decide
      refine⟨by omega,by omega,?_,by decide,by decide⟩;rw[Int.toNat_natCast];omega
     rw[if_neg (by decide),if_pos (by rw[Int.toNat_natCast]at dc;exact dc)];simp only[Ay,Int.toNat_natCast];obtain⟨a1,a2⟩:=JR T8 rY (show-43200≤m.bP by omega) (show m.bP≤43200 by omega);have hA:=Ua ms len kk vz er Ub cJ N h i c hi rY T8 _ a1 (by omega);have L2:∀z:PV,List.take (List.replicate N.runs[i].calls.length z).length (N.runs[i].calls.map an.pv)++List.drop N.runs[i].calls.length (List.replicate N.runs[i].calls.length z)=N.runs[i].calls.map an.pv:=fun z=>by rw[List.length_replicate,List.take_of_length_le (by simp),List.drop_eq_nil_of_le (by simp),List.append_nil]
     have key:∀A,A=lJ N.runs[i].calls c m.bP→dM.run (eY dM cJ) ((i:Int),(c:Int),A,(N.runs[i].calls.length:Int),0,(i:Int),ms,0,len,(kk:Int),N.runs.map cz.nj,N.runs[i].calls.map an.pv,N.cM,N.within,N.cap,0,0,0,er,N.stops.map Stop.pv,N.ao.map aW.pv,N.aJ.map aM.pv,N.paths.map Path.pv,N.aU.map bX.pv,())=match fN (N.runs[i].calls.drop c) (lJ N.runs[i].calls c m.bP)with|some r=>cJ (Ah ms len (kk+1:Nat) (C7 N i (N.runs[i].calls.take c++r)) (er++[.int .i64 0]))|none=>cJ (Ah ms len (kk+1:Nat) N (er++[.int .i64 10])):=by intro A qy;subst qy;unfold B1 at hA;rw[List.getElem?_eq_getElem hi]at hA;exact hA
     have hlm:=lA;obtain⟨s0,s1,s2⟩:=mi T8 c rY;cases c with
     |zero=>rw[if_neg (by decide),if_pos (gB _ _ rY)];simp only[List.getElem?_map,List.getElem?_eq_getElem rY,Option.map_some,U,zA,asInt,if_true,L2];refine(key _ ?_).trans (by split<;>rename_i hx<;>simp only[hx,C7,List.getElem?_eq_getElem hi]<;>rfl);rw[wrap_small (by omega) (by omega)];unfold lJ;rw[List.getElem?_eq_getElem rY];simp only[iE,Option.map_some,Option.map_none,Option.getD_none,Option.getD_some];by_cases hx:N.runs[i].calls[0].arr+m.bP<0<;>simp[hx]
     |succ j=>
      have hj:j<N.runs[i].calls.length:=by omega
      rw[if_pos (by omega),vM j (by omega),if_pos (gB _ _ hj)];simp only[Int.toNat_natCast,List.getElem?_map,List.getElem?_eq_getElem hj,Option.map_some,U,zA,BA,asInt,if_true,L2,gB _ _ rY,List.getElem?_eq_getElem rY];refine(key _ ?_).trans (by split<;>rename_i hx<;>simp only[hx,C7,List.getElem?_eq_getElem hi]<;>rfl);rw[wrap_small (by omega) (by omega)];unfold lJ;rw[List.getElem?_eq_getElem rY];simp only[iE,List.getElem?_eq_getElem hj,Option.map_some,Option.getD_some]
   simp only[if_neg k1];by_cases k2:m.kind=2
   ·simp only[k2,if_true,nP _ _ hi,U,Se,←List.map_set];rfl
   simp only[if_neg k2];by_cases k3:m.kind=3
   ·simp only[k3,if_true];have Od:=not_or.1 (fun hh=>hn ⟨.inr k3,hh⟩:¬(m.call<0∨m.call≥(N.runs[i].calls.length:Int)));obtain⟨c,Ay⟩:∃c:Nat,m.call=(c:Int):=⟨m.call.toNat,by omega⟩;have rY:c<N.runs[i].calls.length:=by omega
    simp only[Ay,Int.toNat_natCast,gB c _ rY,if_true,List.getElem?_map,List.getElem?_eq_getElem rY,Option.map_some,U,OO,←List.map_set,X7,List.length_set,List.length_map,qA,List.getElem?_set_self hi,BX,List.getElem?_set_self rY,OP,List.set_set,jt];simp only[zV,List.getElem?_eq_getElem rY];rfl
   simp only[if_neg k3];by_cases k4:m.kind=4
   ·simp only[k4,if_true];have gI:=me m.calls N.stops.length 0 3155932800 hm.calls.1;simp only[res]at gI;have T7:=so m.calls (by omega);simp only[gI,U,cB,List.length_cons,List.length_nil,Nat.reduceAdd,if_true,List.getD_cons_zero,List.getD_cons_succ,asInt,rM];by_cases he:(bx m.calls (N.stops.length:Int) 0 3155932800).2=0
    ·simp only[he,T7,U,ae,if_true,ne_eq,not_true,if_false];rw[Uc ms len kk vz er Ub cJ N h i,Q0,pS];rw[←List.map_set];rfl
    ·rw[if_neg he,if_pos he];simp only[if_neg he];rfl
   simp only[if_neg k4];rfl
def Lv(N:aj)(m:iS):aj:=if gA m=0 then(if(C5 N m).2=0 then(C5 N m).1 else N)else N
def Ye(N:aj)(m:iS):Int:=if gA m=0 then(C5 N m).2 else gA m
def Ud(N:aj)(er:List Int):List iS→aj×List Int
 |[]=>(N,er)
 |m::l=>Ud (Lv N m) (er++[Ye N m]) l
theorem Lw{N:aj}{m:iS}(h:(fv N).2.2=0):(fv (Lv N m)).2.2=0:=by
 unfold Lv;by_cases h1:gA m=0
 ·rw[if_pos h1];by_cases h2:(C5 N m).2=0
  ·rw[if_pos h2];exact Lo N m h h1 h2
  ·rw[if_neg h2];exact h
 ·rw[if_neg h1];exact h
end Go.Ab.Tt
namespace Go.Ab.Tt
set_option maxRecDepth 100000
set_option linter.unusedVariables false
set_option linter.unusedSimpArgs false
structure nd(N N':aj)(m:iS):Prop where
 stops:N'.stops=N.stops
 ao:N'.ao=N.ao
 paths:N'.paths=N.paths
 aU:N'.aU=N.aU
 cM:N'.cM=N.cM
 within:N'.within=N.within
 cap:N'.cap=N.cap
 aJ:N'.aJ.length≤N.aJ.length∧∀x∈N'.aJ,x∈N.aJ
 len:N'.runs.length≤N.runs.length+1
 runs:∀r∈N'.runs,(∃r0∈N.runs,r.dA=r0.dA∧r.inst=r0.inst∧r.id=r0.id∧r.day=r0.day∧r.bd=r0.bd)∨(r.dA= -1∧r.inst=m.inst∧r.id=m.dA∧r.day=m.day∧r.bd=m.bd)
theorem nd.rfl'(N:aj)(m:iS):nd N N m:=⟨rfl,rfl,rfl,rfl,rfl,rfl,rfl,⟨Nat.le_refl _,fun _ h=>h⟩,Nat.le_succ _,fun r h=>.inl ⟨r,h,rfl,rfl,rfl,rfl,rfl⟩⟩
theorem uQ{N:aj}{m:iS}{i:Nat}{r x:cz}(hr:N.runs[i]?=some r)(h:x.dA=r.dA∧x.inst=r.inst∧x.id=r.id∧x.day=r.day∧x.bd=r.bd)(ls:List aM)(hl:ls.length≤N.aJ.length∧∀y∈ls,y∈N.aJ):nd N {N with runs:=N.runs.set i x,aJ:=ls} m:=by
 refine⟨rfl,rfl,rfl,rfl,rfl,rfl,rfl,hl,by simp,fun q hq=>.inl ?_⟩;rcases List.mem_or_eq_of_mem_set hq with hq|hq
 ·exact⟨q,hq,rfl,rfl,rfl,rfl,rfl⟩
 ·subst hq;exact⟨r,List.mem_of_getElem? hr,h⟩
theorem OS(N:aj)(m:iS):nd N (C5 N m).1 m:=by
 unfold C5;by_cases k5:m.kind=5
 ·rw[if_pos k5];split
  ·exact nd.rfl' N m
  ·split
   ·exact nd.rfl' N m
   ·split
    ·exact nd.rfl' N m
    ·split
     ·exact nd.rfl' N m
     ·refine⟨rfl,rfl,rfl,rfl,rfl,rfl,rfl,⟨Nat.le_refl _,fun _ h=>h⟩,by simp,fun r h=>?_⟩;rcases List.mem_append.1 h with h|h
      ·exact .inl ⟨r,h,rfl,rfl,rfl,rfl,rfl⟩
      ·simp only[List.mem_singleton]at h;subst h;exact .inr ⟨rfl,rfl,rfl,rfl,rfl⟩
 ·rw[if_neg k5];cases BS N.runs m with
  |none=>exact nd.rfl' N m
  |some i=>
   dsimp only;cases hr:N.runs[i]? with
   |none=>exact nd.rfl' N m
   |some r=>
    have Wx:N.aJ.length≤N.aJ.length∧∀y∈N.aJ,y∈N.aJ:=⟨Nat.le_refl _,fun _ h=>h⟩;dsimp only;split
    ·exact nd.rfl' N m
    ·split
     ·cases prop r.calls m.call m.bP with
      |mk o e=>
       cases o with
       |none=>exact nd.rfl' N m
       |some l=>exact uQ (x:={r with calls:=l}) hr ⟨rfl,rfl,rfl,rfl,rfl⟩ N.aJ Wx
     ·split
      ·exact uQ (x:={r with pJ:=true}) hr ⟨rfl,rfl,rfl,rfl,rfl⟩ N.aJ Wx
      ·split
       ·exact uQ (x:={r with calls:=zV r.calls m.call.toNat}) hr ⟨rfl,rfl,rfl,rfl,rfl⟩ N.aJ Wx
       ·split
        ·split
         ·exact nd.rfl' N m
         ·exact uQ (x:={r with calls:=m.calls}) hr ⟨rfl,rfl,rfl,rfl,rfl⟩ _ ⟨List.length_filter_le _ _,fun y h=>(List.mem_filter.1 h).1⟩
        ·exact nd.rfl' N m
theorem OT(N:aj)(m:iS):nd N (Lv N m) m:=by
 unfold Lv;split
 ·split
  ·exact OS N m
  ·exact nd.rfl' N m
 ·exact nd.rfl' N m
theorem C9{x:Int}(h1: -9223372036854775808≤x)(h2:x≤9223372036854775807):ja x:=by show(decide ((-9223372036854775808:Int)≤x)&&decide (x≤(9223372036854775807:Int)))=true;simp[h1,h2]
theorem E4{l:List an}{n:Int}(h:(bx l n 0 3155932800).2=0)(hn:n≤100000):l.length≤32∧∀y∈l,y.Ok:=by obtain⟨h1,h2⟩:=rC h;refine⟨h2,fun y hy=>?_⟩;obtain⟨k,hk,rfl⟩:=List.mem_iff_getElem.1 hy;have he:=xb h k hk;unfold lY at he;rw[List.getElem?_eq_getElem hk]at he;have ho:∃p,kB l[k] p n 0 3155932800=0:=⟨_,he⟩;obtain⟨p,ho⟩:=ho;obtain⟨a1,a2,a3,_⟩:=nb ho;obtain⟨b1,b2,_⟩:=pQ ho;exact⟨C9 (by omega) (by omega),C9 (by omega) (by omega),C9 (by omega) (by omega)⟩
theorem OU{N N':aj}{m:iS}(h:Lr N)(hs:nd N N' m)(hv:(fv N').2.2=0)(hm:m.Ok)(hl:N.runs.length<100):Lr N':=by
 have L5:1000≤maxLen:=by decide
 have hcv:=rB hv;have As:=BD ((nO N').1 hv).1;refine⟨⟨?_,?_,?_,?_,?_,?_,?_,?_,?_⟩,?_,?_,?_,?_,?_,?_,?_⟩
 ·rw[hs.stops];exact h.ok.stops
 ·rw[hs.ao];exact h.ok.ao
 ·refine⟨by have:=hs.len;omega,fun r hr=>?_⟩;obtain⟨c1,c2⟩:=E4 (hcv r hr) (by omega);rcases hs.runs r hr with⟨r0,h0,e1,e2,e3,e4,e5⟩|⟨e1,e2,e3,e4,e5⟩
  ·have g:=h.ok.runs.2 r0 h0;exact⟨by rw[e1];exact g.dA,by rw[e4];exact g.day,by rw[e2];exact g.inst,by rw[e3];exact g.id,by rw[e5];exact g.bd,by omega,c2⟩
  ·exact⟨by rw[e1];exact C9 (by omega) (by omega),by rw[e4];exact hm.day,by rw[e2];exact hm.inst,by rw[e3];exact hm.dA,by rw[e5];exact hm.bd,by omega,c2⟩
 ·exact⟨Nat.le_trans hs.aJ.1 h.ok.aJ.1,fun x hx=>h.ok.aJ.2 x (hs.aJ.2 x hx)⟩
 ·rw[hs.paths];exact h.ok.paths
 ·rw[hs.aU];exact h.ok.aU
 ·rw[hs.cM];exact h.ok.cM
 ·rw[hs.within];exact h.ok.within
 ·rw[hs.cap];exact h.ok.cap
 ·rw[hs.stops];exact h.stops
 ·rw[hs.ao];exact h.ao
 ·have:=hs.len;omega
 ·exact Nat.le_trans hs.aJ.1 h.aJ
 ·rw[hs.paths];exact h.paths
 ·rw[hs.aU];exact h.aU
 ·intro r hr;have:=(E4 (hcv r hr) (by omega)).1;omega
def Sg(x:aj×List Int):PV:=.bA [x.1.pv,.rs 1 (x.2.map fun e=>.int .i64 e)]
theorem OV(ms:List PV)(l:List iS)(L5:∀k,(hk:k<l.length)→∃q,ms[k]?=some q∧lR q l[k])(hl:l.length≤50)(RS:∀m∈l,m.Ok)(Yd:∀m∈l,m.calls.length≤1000):∀(j k:Nat)(N:aj)(er:List Int)(fu:Nat),k+j=l.length→j<fu→Lr N→(fv N).2.2=0→N.runs.length+j<100→er.length≤k→cd (hT dM) fu (Ah ms (l.length:Int) k N (er.map fun e=>.int .i64 e))=some (Sg (Ud N er (l.drop k))):=by
 intro j;induction j with
 |zero=>
  intro k N er fu hk hf hN hv hr he;obtain⟨fu,rfl⟩:∃f,fu=f+1:=⟨fu-1,by omega⟩;have:k=l.length:=by omega
  subst this;rw[cd,List.drop_length];unfold Ah hT;dsimp only;rw[if_neg (by simp),jt];rfl
 |succ j ih=>
  intro k N er fu hk hf hN hv hr he;obtain⟨fu,rfl⟩:∃f,fu=f+1:=⟨fu-1,by omega⟩;have jI:k<l.length:=by omega
  obtain⟨q,Vs,Rt⟩:=L5 k jI;rw[cd,OR _ _ k (by omega) _ (by simp;omega) _ l (by omega) q (by rw[aV];exact Vs) rfl jI N hN RS hv Yd Rt];have hs:=OT N l[k];have FM:=Lw (m:=l[k]) hv;have hlen:=hs.len;have:=ih (k+1) (Lv N l[k]) (er++[Ye N l[k]]) fu (by omega) (by omega) (OU hN hs FM (RS _ (List.getElem_mem jI)) (by omega)) FM (by omega) (by simp;omega);rw[List.map_append]at this;rw[List.drop_eq_getElem_cons jI];exact this
theorem OW(p:PV)(ms:List PV)(N:aj)(l:List iS)(hp:B0 p N)(wJ:ms.length=l.length)(L5:∀k,(hk:k<l.length)→∃q,ms[k]?=some q∧lR q l[k])(h:Lr N)(hv:(fv N).2.2=0)(hl:l.length≤50)(hr:N.runs.length≤40)(RS:∀m∈l,m.Ok)(Yd:∀m∈l,m.calls.length≤1000):eO [p,.rs 13 ms]=some (Sg (Ud N [] l)):=by
 have Sf:1003<rounds:=by decide
 have yE:=zJ N h.ok (by have:=h.paths;omega);have f1:=zK (N.stops.map Stop.pv) (by simpa using h.stops);have f2:=xc (N.ao.map aW.pv) (by simpa using h.ao);have f3:=BE (N.runs.map cz.pv) (by simp;omega);have f4:=zL (N.aJ.map aM.pv) (by simpa using h.aJ);have f5:=rD (N.paths.map Path.pv) (by simpa using h.paths);have f6:=sY (N.aU.map bX.pv) (by simpa using h.aU);have key:=OV ms l L5 hl RS Yd l.length 0 N [] rounds (by omega) (by omega) h hv (by omega) (by simp);simp only[eO,rr,hp.hA,hp.h0,hp.h1,hp.h2,hp.h3,hp.h4,hp.h5,hp.h6,hp.h7,hp.h8,U];simp only[ae,if_true,U,f1,f2,f3,f4,f5,List.length_map];refine cU (fun k=>((N.runs.length:Int),(k:Int),ms,N.stops.map Stop.pv,N.ao.map aW.pv,N.runs.map cz.pv,N.aJ.map aM.pv,N.paths.map Path.pv,N.aU.map bX.pv,N.cM,N.within,N.cap,(0:Int),(0:Int),(0:Int),N.aU.map bX.pv,N.cM,N.within,N.cap,N.stops.map Stop.pv,N.ao.map aW.pv,N.runs.map cz.pv,N.aJ.map aM.pv,N.paths.map Path.pv,N.aU.map bX.pv,N.cM,N.within,N.cap,(0:Int),(0:Int),(0:Int),N.stops.map Stop.pv,N.ao.map aW.pv,mix cz.nj cz.pv N.runs k,N.aJ.map aM.pv,N.paths.map Path.pv,())) N.runs.length (fun k hk rec=>?_) (fun rec=>?_) (by omega) (by rw[EC];rfl)
 ·have fc:=zM (N.runs[k].calls.map an.pv) (by simpa using h.calls _ (List.getElem_mem hk));unfold ng;dsimp only;rw[if_pos (by rw[decide_eq_true_eq];omega),if_pos (CT _ _ _ _ hk),Int.toNat_natCast,JB _ _ _ _ hk];simp only[U,He,fc,ae,if_true,CT _ _ _ _ hk,JV,aI (show k<9223372036854775807 by omega)];have:=JC cz.nj cz.pv N.runs k hk;rw[←this];rfl
 ·unfold ng;dsimp only;rw[if_neg (by simp),f6];simp only[U,ae,if_true,K6,yE];simp only[sX,cB,List.length_cons,List.length_nil,Nat.reduceAdd,if_true,List.getD_cons_zero,List.getD_cons_succ,asInt,U,hv,CS,List.length_map,wJ];rw[jN];exact key
end Go.Ab.Tt
namespace Go.Ab.Tt
set_option maxRecDepth 100000
set_option linter.unusedVariables false
set_option linter.unusedSimpArgs false
end Go.Ab.Tt
namespace Go.Ab.Tt
set_option maxRecDepth 100000
set_option linter.unusedVariables false
set_option linter.unusedSimpArgs false
def tJ(A B:aj)(k:Nat):Bool:=decide (A.runs[k]?≠B.runs[k]?)
def wh(A B:aj)(n:Nat):List Nat:=(List.range n).filter (tJ A B)
theorem B2(A B:aj)(k:Nat):wh A B (k+1)=if tJ A B k=true then wh A B k++[k]else wh A B k:=by unfold wh;rw[List.range_succ,List.filter_append];by_cases h:tJ A B k=true<;>simp[h]
theorem Ai(A B:aj)(k:Nat):(wh A B k).length≤k:=by unfold wh;exact Nat.le_trans (List.length_filter_le _ _) (by simp)
def uT(k:Nat):PV:=.int .i64 k
def mx(A B:aj):Nat:=max A.runs.length B.runs.length
theorem Lx(x y:cz)(hx:x.calls.length≤maxLen):eW [x.pv,y.pv]=some (.bool (decide (x=y))):=by have hc:=nu x.calls y.calls hx;simp only[eW,pH,aaY,TN,QC,QD,QE,TO,WL,WM,He,U];simp only[asInt,dh,asBool,ae,if_true,U,hc,iu,cC,j6,sV,Jz];generalize decide (x.dA=y.dA)=a1;generalize decide (x.day=y.day)=a2;generalize decide (x.inst=y.inst)=a3;generalize decide (x.id=y.id)=a4;generalize decide (x.bd=y.bd)=a5;generalize decide (x.pJ=y.pJ)=a7;generalize decide (x.calls=y.calls)=a8;generalize decide (x.free=y.free)=a6;cases a1<;>cases a2<;>cases a3<;>cases a4<;>rfl
theorem uU(A B:aj)(hA:A.runs.length≤1000∧∀x∈A.runs,x.calls.length≤maxLen)(hB:B.runs.length≤1000):bt [A.pv,B.pv]=some (.rs 1 ((wh A B (mx A B)).map uT)):=by
 have Sf:1003<rounds:=by decide
 simp only[bt,iZ,uF,vN,vO,vP,vQ,vR,vS,vT,vU,vV,U,List.length_map];refine cU (fun k=>(((mx A B:Nat):Int),(k:Int),A.stops.map Stop.pv,A.ao.map aW.pv,A.runs.map cz.pv,A.aJ.map aM.pv,A.paths.map Path.pv,A.aU.map bX.pv,A.cM,A.within,A.cap,B.stops.map Stop.pv,B.ao.map aW.pv,B.runs.map cz.pv,B.aJ.map aM.pv,B.paths.map Path.pv,B.aU.map bX.pv,B.cM,B.within,B.cap,(wh A B k).map uT,())) (mx A B) (fun k hk rec=>?_) (fun rec=>?_) (by unfold mx;omega) ?_
 ·have hl:=Ai A B k;have hm:k<1000:=by unfold mx at hk;omega
  have dc:((wh A B k).map uT++[PV.int .i64 (k:Int)]).length*8≤aa∧0<8:=E3 _ (by simp;omega) _;have cq:∀x:cz,PV.agg [cell x.pv 0,cell x.pv 1,cell x.pv 2,cell x.pv 3,cell x.pv 4,cell x.pv 5,cell x.pv 6,cell x.pv 7]=x.pv:=WK;unfold jx;dsimp only;rw[if_pos (by rw[decide_eq_true_eq];omega)];simp only[List.length_map,cC,aV,List.getElem?_map,aI (show k<9223372036854775807 by omega),B2];by_cases ha:k<A.runs.length
  ·by_cases hb:k<B.runs.length
   ·have hs:=Lx A.runs[k] B.runs[k] (hA.2 _ (List.getElem_mem ha));rw[show(decide ((k:Int)≥(A.runs.length:Int))||decide ((k:Int)≥(B.runs.length:Int)))=false by rw[decide_eq_false (by omega),decide_eq_false (by omega)];rfl];simp only[U,cond_false,List.getElem?_eq_getElem ha,List.getElem?_eq_getElem hb,Option.map_some,WK,hs,asBool];have hd:tJ A B k= !decide (A.runs[k]=B.runs[k]):=by unfold tJ;rw[List.getElem?_eq_getElem ha,List.getElem?_eq_getElem hb];simp
    rw[hd];by_cases he:A.runs[k]=B.runs[k]
    ·simp[he]
    ·simp only[he,decide_false,Bool.not_false,if_true,if_pos dc,List.map_append];rfl
   ·have hd:tJ A B k=true:=by unfold tJ;rw[List.getElem?_eq_getElem ha,List.getElem?_eq_none (by omega)];simp
    rw[show(decide ((k:Int)≥(A.runs.length:Int))||decide ((k:Int)≥(B.runs.length:Int)))=true by rw[decide_eq_true (show(k:Int)≥(B.runs.length:Int) by omega)];simp,hd];simp only[U,cond_true,if_true,if_pos dc,List.map_append];rfl
  ·have hd:tJ A B k=true:=by
    unfold tJ;have hb:k<B.runs.length:=by unfold mx at hk;omega
    rw[List.getElem?_eq_getElem hb,List.getElem?_eq_none (by omega)];simp
   rw[show(decide ((k:Int)≥(A.runs.length:Int))||decide ((k:Int)≥(B.runs.length:Int)))=true by rw[decide_eq_true (show(k:Int)≥(A.runs.length:Int) by omega)];simp,hd];simp only[U,cond_true,if_true,if_pos dc,List.map_append];rfl
 ·unfold jx;dsimp only;rw[if_neg (by simp)]
 ·have:(if(B.runs.length:Int)>(A.runs.length:Int)then(B.runs.length:Int)else(A.runs.length:Int))=((mx A B:Nat):Int):=by unfold mx;split<;>omega
  rw[this];rfl
end Go.Ab.Tt
namespace Go.Ab.Tt
set_option maxRecDepth 100000
set_option linter.unusedVariables false
set_option linter.unusedSimpArgs false
def AG:List an:=[⟨0,100,100,true,false⟩,⟨1,200,200,false,true⟩]
def Si(r:List cz):aj:=⟨[⟨[65],0,false,0⟩,⟨[66],0,false,0⟩],[⟨[82],0,false⟩],r,[],[],[],0,0,0⟩
def B3:aj:=Si [⟨0,0,0,[116,48],0,false,false,AG⟩]
def nv(kind:Int)(dA:Bytes)(inst call bP:Int)(calls:List an):iS:=⟨0,1,0,10,kind,dA,0,inst,call,bP,0,false,calls⟩
def eI:PV:=.agg [.rs 4 [.agg [.str [65],.int .i64 0,.bool false,.int .i64 0],.agg [.str [66],.int .i64 0,.bool false,.int .i64 0]],.rs 3 [.agg [.str [82],.int .i64 0,.bool false]],.rs 8 [.agg [.int .i64 0,.int .i64 0,.int .i64 0,.str [116,48],.int .i64 0,.bool false,.bool false,.rs 5 (AG.map an.pv)]],.rs 0 [],.rs 0 [],.rs 0 [],.int .i64 0,.int .i64 0,.int .i64 0]
def aB(kind:Int)(dA:Bytes):PV:=.agg [.int .i64 0,.int .i64 1,.int .i64 0,.int .i64 10,.int .i64 kind,.str dA,.int .i64 0,.int .i64 0,.int .i64 0,.int .i64 0,.int .i64 0,.bool false,.rs 0 []]
theorem Ue:fe []=some eI:=rfl
theorem Q1(k:Int)(t:Bytes):gv [.int .i64 k,.str t]=some (aB k t):=rfl
theorem HZ:fq []=some (.rs 5 (AG.map an.pv)):=rfl
theorem Yf:asAgg 9 eI=some ():=rfl
theorem Uf(k:Int)(t:Bytes):asAgg 13 (aB k t)=some ():=rfl
theorem JX:B0 (.agg [cell eI 0,cell eI 1,cell eI 2,cell eI 3,cell eI 4,cell eI 5,cell eI 6,cell eI 7,cell eI 8]) B3:=⟨rfl,rfl,rfl,rfl,rfl,rfl,rfl,rfl,rfl,rfl⟩
theorem OX:B3.Ok:=by
 have h1:100≤maxLen:=by decide
 refine⟨⟨by show 2≤maxLen;omega,?_⟩,⟨by show 1≤maxLen;omega,?_⟩,⟨by show 1≤maxLen;omega,?_⟩,⟨by show 0≤maxLen;omega,fun _ h=>by cases h⟩,⟨by show 0≤maxLen;omega,fun _ h=>by cases h⟩,⟨by show 0≤maxLen;omega,fun _ h=>by cases h⟩,by decide,by decide,by decide⟩
 ·intro y hy;simp only[B3,Si,List.mem_cons,List.not_mem_nil,or_false]at hy;rcases hy with rfl|rfl
  ·exact⟨by show 1≤maxLen;omega,by decide,by decide⟩
  ·exact⟨by show 1≤maxLen;omega,by decide,by decide⟩
 ·intro y hy;simp only[B3,Si,List.mem_cons,List.not_mem_nil,or_false]at hy;subst hy;exact⟨by show 1≤maxLen;omega,by decide⟩
 ·intro y hy;simp only[B3,Si,List.mem_cons,List.not_mem_nil,or_false]at hy;subst hy;refine⟨by decide,by decide,by decide,by show 2≤maxLen;omega,by decide,by show 2≤maxLen;omega,fun z hz=>?_⟩;simp only[AG,List.mem_cons,List.not_mem_nil,or_false]at hz;rcases hz with rfl|rfl<;>exact⟨by decide,by decide,by decide⟩
theorem wj:(fv B3).2.2=0:=by decide+kernel
theorem JY:Lr B3:=by refine⟨OX,by decide,by decide,by decide,by decide,by decide,by decide,fun r hr=>?_⟩;simp only[B3,Si,List.mem_cons,List.not_mem_nil,or_false]at hr;subst hr;exact(by decide:2≤1000)
theorem sr(k:Int)(t:Bytes)(i c s:Int)(l:List an)(hk:ja k)(ht:t.length≤100)(hi:ja i)(hc:ja c)(hs:ja s)(hl:l=[]∨l=AG):(nv k t i c s l).Ok∧(nv k t i c s l).calls.length≤1000:=by
 have h1:100≤maxLen:=by decide
 have hl2:l.length≤2∧∀y∈l,y.Ok:=by
  rcases hl with rfl|rfl
  ·exact⟨by decide,fun _ h=>by cases h⟩
  ·refine⟨by decide,fun z hz=>?_⟩;simp only[AG,List.mem_cons,List.not_mem_nil,or_false]at hz;rcases hz with rfl|rfl<;>exact⟨by decide,by decide,by decide⟩
 refine⟨⟨by show ja 0;decide,by show ja 1;decide,by show ja 0;decide,by show ja 10;decide,hk,by show t.length≤maxLen;omega,by show ja 0;decide,hi,hc,hs,by show ja 0;decide,⟨by show l.length≤maxLen;omega,hl2.2⟩⟩,by show l.length≤1000;omega⟩
theorem Da{p:PV}{A B:aj}(hp:B0 p A):bt [p,B.pv]=bt [A.pv,B.pv]:=by simp only[bt,iZ,hp.hA,hp.h0,hp.h1,hp.h2,hp.h3,hp.h4,hp.h5,hp.h6,hp.h7,hp.h8,uF,vN,vO,vP,vQ,vR,vS,vT,vU,vV,U]
theorem pc{q:PV}{m:iS}(hq:lR q m)(hm:m.Ok∧m.calls.length≤1000){v:PV}(h:Ag B3 m=v):aT [.agg [cell eI 0,cell eI 1,cell eI 2,cell eI 3,cell eI 4,cell eI 5,cell eI 6,cell eI 7,cell eI 8],q]=some v:=(HY JX hq).trans ((HX B3 m JY hm.1 hm.2).trans (by rw[h]))
def exL:aj:=Si [⟨0,0,0,[116,48],0,false,false,[⟨0,160,160,true,false⟩,⟨1,260,260,false,true⟩]⟩]
def Ly:aj:=Si [⟨0,0,0,[116,48],0,false,true,AG⟩]
def exD:aj:=Si [⟨0,0,0,[116,48],0,false,false,AG⟩,⟨-1,0,0,[120],0,false,false,AG⟩]
theorem OY{m:iS}{N:aj}(h1:gA m=0)(h2:C5 B3 m=(N,0)):Ag B3 m=.bA [N.pv,.int .i64 0]:=by unfold Ag X6;rw[if_pos wj,if_pos h1,h2];rfl
theorem OZ{m:iS}{N:aj}{e:Int}(h1:gA m=0)(h2:C5 B3 m=(N,e))(he:e≠0):Ag B3 m=.bA [z9,.int .i64 e]:=by unfold Ag X6;rw[if_pos wj,if_pos h1,h2,if_neg he]
theorem Yg:lR (.agg [cell (aB 1 [116,48]) 0,cell (aB 1 [116,48]) 1,cell (aB 1 [116,48]) 2,cell (aB 1 [116,48]) 3,cell (aB 1 [116,48]) 4,cell (aB 1 [116,48]) 5,cell (aB 1 [116,48]) 6,cell (aB 1 [116,48]) 7,cell (aB 1 [116,48]) 8,.int .i64 60,cell (aB 1 [116,48]) 10,cell (aB 1 [116,48]) 11,cell (aB 1 [116,48]) 12]) (nv 1 [116,48] 0 0 60 []):=⟨rfl,rfl,rfl,rfl,rfl,rfl,rfl,rfl,rfl,rfl,rfl,rfl,rfl,rfl⟩
theorem Yh:(nv 1 [116,48] 0 0 60 []).Ok∧(nv 1 [116,48] 0 0 60 []).calls.length≤1000:=sr _ _ _ _ _ _ (by decide) (by decide) (by decide) (by decide) (by decide) (.inl rfl)
theorem Yi:aT [.agg [cell eI 0,cell eI 1,cell eI 2,cell eI 3,cell eI 4,cell eI 5,cell eI 6,cell eI 7,cell eI 8],.agg [cell (aB 1 [116,48]) 0,cell (aB 1 [116,48]) 1,cell (aB 1 [116,48]) 2,cell (aB 1 [116,48]) 3,cell (aB 1 [116,48]) 4,cell (aB 1 [116,48]) 5,cell (aB 1 [116,48]) 6,cell (aB 1 [116,48]) 7,cell (aB 1 [116,48]) 8,.int .i64 60,cell (aB 1 [116,48]) 10,cell (aB 1 [116,48]) 11,cell (aB 1 [116,48]) 12]]=some (.bA [exL.pv,.int .i64 0]):=pc Yg Yh (OY (by decide+kernel) (by kernel_rfl))
theorem O0:lR (.agg [cell (aB 2 [116,48]) 0,cell (aB 2 [116,48]) 1,cell (aB 2 [116,48]) 2,cell (aB 2 [116,48]) 3,cell (aB 2 [116,48]) 4,cell (aB 2 [116,48]) 5,cell (aB 2 [116,48]) 6,cell (aB 2 [116,48]) 7,cell (aB 2 [116,48]) 8,cell (aB 2 [116,48]) 9,cell (aB 2 [116,48]) 10,cell (aB 2 [116,48]) 11,cell (aB 2 [116,48]) 12]) (nv 2 [116,48] 0 0 0 []):=⟨rfl,rfl,rfl,rfl,rfl,rfl,rfl,rfl,rfl,rfl,rfl,rfl,rfl,rfl⟩
theorem O1:(nv 2 [116,48] 0 0 0 []).Ok∧(nv 2 [116,48] 0 0 0 []).calls.length≤1000:=sr _ _ _ _ _ _ (by decide) (by decide) (by decide) (by decide) (by decide) (.inl rfl)
theorem Yj:aT [.agg [cell eI 0,cell eI 1,cell eI 2,cell eI 3,cell eI 4,cell eI 5,cell eI 6,cell eI 7,cell eI 8],.agg [cell (aB 2 [116,48]) 0,cell (aB 2 [116,48]) 1,cell (aB 2 [116,48]) 2,cell (aB 2 [116,48]) 3,cell (aB 2 [116,48]) 4,cell (aB 2 [116,48]) 5,cell (aB 2 [116,48]) 6,cell (aB 2 [116,48]) 7,cell (aB 2 [116,48]) 8,cell (aB 2 [116,48]) 9,cell (aB 2 [116,48]) 10,cell (aB 2 [116,48]) 11,cell (aB 2 [116,48]) 12]]=some (.bA [Ly.pv,.int .i64 0]):=pc O0 O1 (OY (by decide+kernel) (by kernel_rfl))
theorem Yk:lR (.agg [cell (aB 1 [116,48]) 0,cell (aB 1 [116,48]) 1,cell (aB 1 [116,48]) 2,cell (aB 1 [116,48]) 3,cell (aB 1 [116,48]) 4,cell (aB 1 [116,48]) 5,cell (aB 1 [116,48]) 6,.int .i64 1,cell (aB 1 [116,48]) 8,cell (aB 1 [116,48]) 9,cell (aB 1 [116,48]) 10,cell (aB 1 [116,48]) 11,cell (aB 1 [116,48]) 12]) (nv 1 [116,48] 1 0 0 []):=⟨rfl,rfl,rfl,rfl,rfl,rfl,rfl,rfl,rfl,rfl,rfl,rfl,rfl,rfl⟩
theorem Yl:(nv 1 [116,48] 1 0 0 []).Ok∧(nv 1 [116,48] 1 0 0 []).calls.length≤1000:=sr _ _ _ _ _ _ (by decide) (by decide) (by decide) (by decide) (by decide) (.inl rfl)
theorem Ym:aT [.agg [cell eI 0,cell eI 1,cell eI 2,cell eI 3,cell eI 4,cell eI 5,cell eI 6,cell eI 7,cell eI 8],.agg [cell (aB 1 [116,48]) 0,cell (aB 1 [116,48]) 1,cell (aB 1 [116,48]) 2,cell (aB 1 [116,48]) 3,cell (aB 1 [116,48]) 4,cell (aB 1 [116,48]) 5,cell (aB 1 [116,48]) 6,.int .i64 1,cell (aB 1 [116,48]) 8,cell (aB 1 [116,48]) 9,cell (aB 1 [116,48]) 10,cell (aB 1 [116,48]) 11,cell (aB 1 [116,48]) 12]]=some (.bA [z9,.int .i64 16]):=pc Yk Yl (OZ (N:=B3) (by decide+kernel) (by kernel_rfl) (by decide))
theorem Yn:lR (.agg [cell (aB 1 [116,48]) 0,cell (aB 1 [116,48]) 1,cell (aB 1 [116,48]) 2,cell (aB 1 [116,48]) 3,cell (aB 1 [116,48]) 4,cell (aB 1 [116,48]) 5,cell (aB 1 [116,48]) 6,.int .i64 0,.int .i64 2,cell (aB 1 [116,48]) 9,cell (aB 1 [116,48]) 10,cell (aB 1 [116,48]) 11,cell (aB 1 [116,48]) 12]) (nv 1 [116,48] 0 2 0 []):=⟨rfl,rfl,rfl,rfl,rfl,rfl,rfl,rfl,rfl,rfl,rfl,rfl,rfl,rfl⟩
theorem Yo:(nv 1 [116,48] 0 2 0 []).Ok∧(nv 1 [116,48] 0 2 0 []).calls.length≤1000:=sr _ _ _ _ _ _ (by decide) (by decide) (by decide) (by decide) (by decide) (.inl rfl)
theorem Yp:aT [.agg [cell eI 0,cell eI 1,cell eI 2,cell eI 3,cell eI 4,cell eI 5,cell eI 6,cell eI 7,cell eI 8],.agg [cell (aB 1 [116,48]) 0,cell (aB 1 [116,48]) 1,cell (aB 1 [116,48]) 2,cell (aB 1 [116,48]) 3,cell (aB 1 [116,48]) 4,cell (aB 1 [116,48]) 5,cell (aB 1 [116,48]) 6,.int .i64 0,.int .i64 2,cell (aB 1 [116,48]) 9,cell (aB 1 [116,48]) 10,cell (aB 1 [116,48]) 11,cell (aB 1 [116,48]) 12]]=some (.bA [z9,.int .i64 9]):=pc Yn Yo (OZ (N:=B3) (by decide+kernel) (by kernel_rfl) (by decide))
theorem Yq:lR (.agg [cell (aB 5 [120]) 0,cell (aB 5 [120]) 1,cell (aB 5 [120]) 2,cell (aB 5 [120]) 3,cell (aB 5 [120]) 4,cell (aB 5 [120]) 5,cell (aB 5 [120]) 6,cell (aB 5 [120]) 7,cell (aB 5 [120]) 8,cell (aB 5 [120]) 9,cell (aB 5 [120]) 10,cell (aB 5 [120]) 11,.rs 5 (AG.map an.pv)]) (nv 5 [120] 0 0 0 AG):=⟨rfl,rfl,rfl,rfl,rfl,rfl,rfl,rfl,rfl,rfl,rfl,rfl,rfl,rfl⟩
theorem Yr:(nv 5 [120] 0 0 0 AG).Ok∧(nv 5 [120] 0 0 0 AG).calls.length≤1000:=sr _ _ _ _ _ _ (by decide) (by decide) (by decide) (by decide) (by decide) (.inr rfl)
theorem Ys:aT [.agg [cell eI 0,cell eI 1,cell eI 2,cell eI 3,cell eI 4,cell eI 5,cell eI 6,cell eI 7,cell eI 8],.agg [cell (aB 5 [120]) 0,cell (aB 5 [120]) 1,cell (aB 5 [120]) 2,cell (aB 5 [120]) 3,cell (aB 5 [120]) 4,cell (aB 5 [120]) 5,cell (aB 5 [120]) 6,cell (aB 5 [120]) 7,cell (aB 5 [120]) 8,cell (aB 5 [120]) 9,cell (aB 5 [120]) 10,cell (aB 5 [120]) 11,.rs 5 (AG.map an.pv)]]=some (.bA [exD.pv,.int .i64 0]):=pc Yq Yr (OY (by decide+kernel) (by kernel_rfl))
theorem Sj:lR (.agg [cell (aB 5 [120]) 0,cell (aB 5 [120]) 1,cell (aB 5 [120]) 2,cell (aB 5 [120]) 3,cell (aB 5 [120]) 4,.str [116,48],cell (aB 5 [120]) 6,cell (aB 5 [120]) 7,cell (aB 5 [120]) 8,cell (aB 5 [120]) 9,cell (aB 5 [120]) 10,cell (aB 5 [120]) 11,.rs 5 (AG.map an.pv)]) (nv 5 [116,48] 0 0 0 AG):=⟨rfl,rfl,rfl,rfl,rfl,rfl,rfl,rfl,rfl,rfl,rfl,rfl,rfl,rfl⟩
theorem O2:(nv 5 [116,48] 0 0 0 AG).Ok∧(nv 5 [116,48] 0 0 0 AG).calls.length≤1000:=sr _ _ _ _ _ _ (by decide) (by decide) (by decide) (by decide) (by decide) (.inr rfl)
theorem Yt:aT [.agg [cell eI 0,cell eI 1,cell eI 2,cell eI 3,cell eI 4,cell eI 5,cell eI 6,cell eI 7,cell eI 8],.agg [cell (aB 5 [120]) 0,cell (aB 5 [120]) 1,cell (aB 5 [120]) 2,cell (aB 5 [120]) 3,cell (aB 5 [120]) 4,.str [116,48],cell (aB 5 [120]) 6,cell (aB 5 [120]) 7,cell (aB 5 [120]) 8,cell (aB 5 [120]) 9,cell (aB 5 [120]) 10,cell (aB 5 [120]) 11,.rs 5 (AG.map an.pv)]]=some (.bA [z9,.int .i64 6]):=pc Sj O2 (OZ (N:=B3) (by decide+kernel) (by kernel_rfl) (by decide))
theorem H0:bt [.agg [cell eI 0,cell eI 1,cell eI 2,cell eI 3,cell eI 4,cell eI 5,cell eI 6,cell eI 7,cell eI 8],.agg [cell Ly.pv 0,cell Ly.pv 1,cell Ly.pv 2,cell Ly.pv 3,cell Ly.pv 4,cell Ly.pv 5,cell Ly.pv 6,cell Ly.pv 7,cell Ly.pv 8]]=some (.rs 1 [.int .i64 0]):=by refine(Da (B:=Ly) JX).trans ((uU B3 Ly ⟨by decide,fun x hx=>OX.runs.2 x hx|>.calls.1⟩ (by decide)).trans ?_);kernel_rfl
theorem Lz:bq [.agg [cell eI 0,cell eI 1,cell eI 2,cell eI 3,cell eI 4,cell eI 5,cell eI 6,cell eI 7,cell eI 8],.agg [cell (aB 2 [116,48]) 0,cell (aB 2 [116,48]) 1,cell (aB 2 [116,48]) 2,cell (aB 2 [116,48]) 3,cell (aB 2 [116,48]) 4,cell (aB 2 [116,48]) 5,cell (aB 2 [116,48]) 6,cell (aB 2 [116,48]) 7,cell (aB 2 [116,48]) 8,cell (aB 2 [116,48]) 9,cell (aB 2 [116,48]) 10,cell (aB 2 [116,48]) 11,cell (aB 2 [116,48]) 12]]=some (.bA [.int .i64 0,.bool true]):=(xn JX O0).trans ((rL B3 _ (by decide)).trans (by kernel_rfl))
theorem Ug:eO [.agg [cell eI 0,cell eI 1,cell eI 2,cell eI 3,cell eI 4,cell eI 5,cell eI 6,cell eI 7,cell eI 8],.rs 13 [.agg [cell (aB 5 [120]) 0,cell (aB 5 [120]) 1,cell (aB 5 [120]) 2,cell (aB 5 [120]) 3,cell (aB 5 [120]) 4,.str [116,48],cell (aB 5 [120]) 6,cell (aB 5 [120]) 7,cell (aB 5 [120]) 8,cell (aB 5 [120]) 9,cell (aB 5 [120]) 10,cell (aB 5 [120]) 11,.rs 5 (AG.map an.pv)],.agg [cell (aB 2 [116,48]) 0,cell (aB 2 [116,48]) 1,cell (aB 2 [116,48]) 2,cell (aB 2 [116,48]) 3,cell (aB 2 [116,48]) 4,cell (aB 2 [116,48]) 5,cell (aB 2 [116,48]) 6,cell (aB 2 [116,48]) 7,cell (aB 2 [116,48]) 8,cell (aB 2 [116,48]) 9,cell (aB 2 [116,48]) 10,cell (aB 2 [116,48]) 11,cell (aB 2 [116,48]) 12]]]=some (.bA [Ly.pv,.rs 1 [.int .i64 6,.int .i64 0]]):=by
 refine(OW _ _ B3 [nv 5 [116,48] 0 0 0 AG,nv 2 [116,48] 0 0 0 []] JX rfl (fun k hk=>?_) JY wj (by decide) (by decide) ?_ ?_).trans ?_
 ·match k,hk with
  |0,_=>exact⟨_,rfl,Sj⟩
  |1,_=>exact⟨_,rfl,O0⟩
 ·intro m hm;simp only[List.mem_cons,List.not_mem_nil,or_false]at hm;rcases hm with rfl|rfl
  ·exact O2.1
  ·exact O1.1
 ·intro m hm;simp only[List.mem_cons,List.not_mem_nil,or_false]at hm;rcases hm with rfl|rfl
  ·exact O2.2
  ·exact O1.2
 ·kernel_rfl
theorem abi:asAgg 9 z9=some ():=rfl
theorem E5:dw []=some (.bool true):=by simp only[dw,jj,gX,Ue,Q1,HZ,Yf,Uf,U,ae,if_true,Yi,Yj,Ym,Yp,Ys,Yt,cB,List.length_cons,List.length_nil,Nat.reduceAdd,List.getD_cons_zero,List.getD_cons_succ,asInt,uF,abi,Lz,Ug,H0];kernel_rfl
end Go.Ab.Tt
namespace Go.Ab.Tt
set_option maxRecDepth 100000
set_option linter.unusedVariables false
set_option linter.unusedSimpArgs false
def sizedB(N:aj):Bool:= !(decide ((N.stops.length:Int)>20)||decide ((N.ao.length:Int)>20)||decide ((N.runs.length:Int)>20)||decide ((N.aJ.length:Int)>20)||decide ((N.paths.length:Int)>200)||decide ((N.aU.length:Int)>20))&& !((List.range N.runs.length).any fun k=>(N.runs[k]?).elim false fun r=>decide ((r.calls.length:Int)>40))
theorem E6(N:aj)(h:N.Ok):gw [N.pv]=some (.bool (sizedB N)):=by
 have hm:=c8;have hr:=h.runs.1;simp only[gw,rj,uF,vN,vO,vP,vQ,vR,vS,vT,vU,vV,U,cC,List.length_map];unfold sizedB;by_cases hc:(decide ((N.stops.length:Int)>20)||decide ((N.ao.length:Int)>20)||decide ((N.runs.length:Int)>20)||decide ((N.aJ.length:Int)>20)||decide ((N.paths.length:Int)>200)||decide ((N.aU.length:Int)>20))=true
 ·rw[if_pos hc,hc];rfl
 ·rw[if_neg hc];have Ms:(decide ((N.stops.length:Int)>20)||decide ((N.ao.length:Int)>20)||decide ((N.runs.length:Int)>20)||decide ((N.aJ.length:Int)>20)||decide ((N.paths.length:Int)>200)||decide ((N.aU.length:Int)>20))=false:=by simpa using hc
  rw[Ms,Bool.not_false,Bool.true_and];refine(O3 (fun k=>((k:Int),N.stops.map Stop.pv,N.ao.map aW.pv,N.runs.map cz.pv,N.aJ.map aM.pv,N.paths.map Path.pv,N.aU.map bX.pv,N.cM,N.within,N.cap,())) N.runs.length (fun k=>(N.runs[k]?).elim false fun r=>decide ((r.calls.length:Int)>40)) (no:=some (.bool false)) (fin:=some (.bool true)) (fun k hk rec=>?_) (fun rec=>?_) (by have:=c9;omega) rfl).trans ?_
  ·unfold nh;dsimp only;rw[List.length_map,if_pos (by rw[decide_eq_true_eq];omega),aV,List.getElem?_map,List.getElem?_eq_getElem hk];simp only[Option.map_some,U,He,ae,if_true,List.length_map,aI (show k<9223372036854775807 by omega),Option.elim];rfl
  ·unfold nh;dsimp only;rw[List.length_map,if_neg (by simp)]
   skip
  ·cases((List.range N.runs.length).any fun k=>(N.runs[k]?).elim false fun r=>decide ((r.calls.length:Int)>40))<;>rfl
theorem B4{N:aj}(h:sizedB N=true):N.paths.length≤200∧(N.Ok→Lr N):=by
 unfold sizedB at h;simp only[Bool.and_eq_true,Bool.not_eq_true',Bool.or_eq_false_iff,decide_eq_false_iff_not,decide_eq_true_eq]at h;obtain⟨⟨⟨⟨⟨⟨h1,h2⟩,h3⟩,h4⟩,h5⟩,h6⟩,h7⟩:=h;have py:∀r∈N.runs,r.calls.length≤40:=fun r hr=>by obtain⟨k,hk,rfl⟩:=List.getElem_of_mem hr;rw[List.any_eq_false]at h7;have:=h7 k (by simpa using hk);rw[List.getElem?_eq_getElem hk]at this;simp only[Option.elim,decide_eq_true_eq]at this;omega
 exact⟨by omega,fun ho=>⟨ho,by omega,by omega,by omega,by omega,by omega,by omega,fun r hr=>by have:=py r hr;omega⟩⟩
end Go.Ab.Tt
namespace Go.Ab.Tt
set_option maxRecDepth 100000
set_option linter.unusedVariables false
set_option linter.unusedSimpArgs false
theorem O4(l:List cz)(k:Nat)(h:k<l.length):List.drop k (List.take (k+1) (l.map cz.pv))=[l[k]].map cz.pv:=by rw[←List.map_take,←List.map_drop,List.take_succ_eq_append_getElem h,List.drop_append_of_le_length (by simp;omega),List.drop_eq_nil_of_le (by simp;omega)];rfl
theorem E7(A B:aj)(hA:A.runs.length≤1000∧∀x∈A.runs,x.calls.length≤maxLen)(hB:B.runs.length≤1000):gn [A.pv,B.pv]=some (.rs 1 ((wh A B (mx A B)).map uT)):=by
 have Sf:1003<rounds:=by decide
 have L5:1000≤maxLen:=by decide
 simp only[gn,ou,uF,vN,vO,vP,vQ,vR,vS,vT,vU,vV,U];refine cU (fun k=>((k:Int),A.stops.map Stop.pv,A.ao.map aW.pv,A.runs.map cz.pv,A.aJ.map aM.pv,A.paths.map Path.pv,A.aU.map bX.pv,A.cM,A.within,A.cap,B.stops.map Stop.pv,B.ao.map aW.pv,B.runs.map cz.pv,B.aJ.map aM.pv,B.paths.map Path.pv,B.aU.map bX.pv,B.cM,B.within,B.cap,(wh A B k).map uT,())) (mx A B) (fun k hk rec=>?_) (fun rec=>?_) (by unfold mx;omega) rfl
 ·have hl:=Ai A B k;have hm:k<1000:=by unfold mx at hk;omega
  have PD:IntKind.i64.wrap ((k:Int)+1)=((k+1:Nat):Int):=aI (by omega);have dc:((wh A B k).map uT++[PV.int .i64 (k:Int)]).length*8≤aa∧0<8:=E3 _ (by simp;omega) _;have Py:(decide ((k:Int)<(A.runs.length:Int))||decide ((k:Int)<(B.runs.length:Int)))=true:=by
   unfold mx at hk;by_cases ha:k<A.runs.length
   ·rw[decide_eq_true (show(k:Int)<(A.runs.length:Int) by omega)];rfl
   ·rw[decide_eq_true (show(k:Int)<(B.runs.length:Int) by omega)];simp
  unfold kR;dsimp only;simp only[List.length_map,cC,U,Py,if_true,PD,B2];by_cases ha:k<A.runs.length
  ·by_cases hb:k<B.runs.length
   ·rw[show(decide ((k:Int)≥(A.runs.length:Int))||decide ((k:Int)≥(B.runs.length:Int)))=false by rw[decide_eq_false (by omega),decide_eq_false (by omega)];rfl];have hs:=EB [A.runs[k]] [B.runs[k]] (by simp;omega) (fun x hx=>by simp only[List.mem_singleton]at hx;subst hx;exact hA.2 _ (List.getElem_mem ha));rw[if_pos (show 0≤(k:Int)∧(k:Int)≤((k+1:Nat):Int)∧((k+1:Nat):Int)≤(A.runs.length:Int)∧True∧8≠0 by refine⟨by omega,by omega,by omega,trivial,by decide⟩),if_pos (show 0≤(k:Int)∧(k:Int)≤((k+1:Nat):Int)∧((k+1:Nat):Int)≤(B.runs.length:Int)∧True∧8≠0 by refine⟨by omega,by omega,by omega,trivial,by decide⟩)];rw[Int.toNat_natCast,Int.toNat_natCast,O4 _ _ ha,O4 _ _ hb,hs];simp only[U,asBool,cond_false];have hd:tJ A B k= !decide ([A.runs[k]]=[B.runs[k]]):=by unfold tJ;rw[List.getElem?_eq_getElem ha,List.getElem?_eq_getElem hb];simp
    rw[hd];by_cases he:A.runs[k]=B.runs[k]
    ·simp[he]
    ·have cq:decide ([A.runs[k]]=[B.runs[k]])=false:=by simp[he]
     simp only[cq,Bool.not_false,if_true,if_pos dc,List.map_append];rfl
   ·have hd:tJ A B k=true:=by unfold tJ;rw[List.getElem?_eq_getElem ha,List.getElem?_eq_none (by omega)];simp
    rw[show(decide ((k:Int)≥(A.runs.length:Int))||decide ((k:Int)≥(B.runs.length:Int)))=true by rw[decide_eq_true (show(k:Int)≥(B.runs.length:Int) by omega)];simp,hd];simp only[U,cond_true,if_true,if_pos dc,List.map_append];rfl
  ·have hd:tJ A B k=true:=by
    unfold tJ;have hb:k<B.runs.length:=by unfold mx at hk;omega
    rw[List.getElem?_eq_getElem hb,List.getElem?_eq_none (by omega)];simp
   rw[show(decide ((k:Int)≥(A.runs.length:Int))||decide ((k:Int)≥(B.runs.length:Int)))=true by rw[decide_eq_true (show(k:Int)≥(A.runs.length:Int) by omega)];simp,hd];simp only[U,cond_true,if_true,if_pos dc,List.map_append];rfl
 ·unfold kR;dsimp only;have Py:(decide (((mx A B:Nat):Int)<(A.runs.length:Int))||decide (((mx A B:Nat):Int)<(B.runs.length:Int)))=false:=by unfold mx;rw[decide_eq_false (by omega),decide_eq_false (by omega)];rfl
  simp only[List.length_map,cC,U,Py,Bool.false_eq_true,if_false]
theorem E8(A B:aj)(hA:A.Ok)(hB:B.Ok):dK [A.pv,B.pv]=some (.bool true):=by
 have Sf:1003<rounds:=by decide
 simp only[dK,gY,uF,vN,vO,vP,vQ,vR,vS,vT,vU,vV,U,K6,E6 A hA,E6 B hB];simp only[asBool,U,cC,E5];by_cases hc:(!sizedB A|| !sizedB B)=true
 ·rw[if_pos hc]
 ·rw[if_neg hc];simp only[Bool.or_eq_true,not_or,Bool.not_eq_true',Bool.not_eq_false]at hc;have hLA:=(B4 hc.1).2 hA;have hLB:=(B4 hc.2).2 hB;have h1:A.runs.length≤1000∧∀x∈A.runs,x.calls.length≤maxLen:=⟨by have:=hLA.runs;omega,fun x hx=>(hA.runs.2 x hx).calls.1⟩;have h2:B.runs.length≤1000:=by have:=hLB.runs;omega
  rw[uU A B h1 h2,E7 A B h1 h2];have hlen:=Ai A B (mx A B);have ZX:mx A B≤1000:=by unfold mx;omega
  generalize wh A B (mx A B)=l at hlen;simp only[U,ae,if_true,List.length_map,pM,decide_true,Bool.not_true,Bool.false_eq_true,if_false];refine cU (fun k=>(l.map uT,l.map uT,(k:Int),())) l.length (fun k hk rec=>?_) (fun rec=>?_) (by omega) rfl
  ·unfold fO;dsimp only;have hi:Ab.asInt .i64 (cell (uT l[k]) 0)=some (l[k]:Int):=rfl;rw[List.length_map,if_pos (by rw[decide_eq_true_eq];omega),aV,List.getElem?_map,List.getElem?_eq_getElem hk];simp only[Option.map_some,U,hi,bne_self_eq_false,Bool.false_eq_true,if_false,aI (show k<9223372036854775807 by omega)]
  ·unfold fO;dsimp only;rw[List.length_map,if_neg (by simp)];simp only[E5,U,asBool]
end Go.Ab.Tt
