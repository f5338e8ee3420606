import Derived.Test.YtcmhmlnkhmefbaaGreatOvZ1
import Derived.Test.YtcmhmlnkhmefbaaGreatSh3
import Derived.Test.YtcmhmlnkhmefbaaGreatNkP2
namespace Go.Ab.Tt
set_option maxRecDepth 100000
set_option linter.unusedVariables false
set_option linter.unusedSimpArgs false
def B3(ms:List PV)(len k:Int)(N:aj)(er:List PV):=(ms,(0:Int),len,k,(0:Int),(0:Int),(0:Int),N.bd,N.within,N.cap,er,N.stops.map Stop.pv,N.ai.map aF.pv,N.runs.map cn.pn,N.aq.map aN.pv,N.paths.map Path.pv,N.aM.map aZ.pv,())
def Dy(ms:List PV)(len kk:Int)(er:List PV)(N:aj)(i c:Nat)(a:Int)(k:Nat)(out:List PV):=((i:Int),(c:Int),a,((N.runs[i]?).elim 0 fun r=>(r.calls.length:Int)),(k:Int),(i:Int),ms,(0:Int),len,kk,N.runs.map cn.pn,out,N.bd,N.within,N.cap,(0:Int),(0:Int),(0:Int),er,N.stops.map Stop.pv,N.ai.map aF.pv,N.aq.map aN.pv,N.paths.map Path.pv,N.aM.map aZ.pv,())
theorem ME(er:List PV)(h:er.length≤1000)(x:PV):(er++[x]).length*8≤aa∧0<8:=by
 have:1001*8≤aa:=by decide
 refine⟨?_,by decide⟩;rw[List.length_append,List.length_singleton];omega
theorem W3(ms:List PV)(len:Int)(kk:Nat)(xB:kk<1000)(er:List PV)(W4:er.length≤1000)(da:_→Option PV)(N:aj)(h:Om N)(i c:Nat)(hi:i<N.runs.length)(hc:c<N.runs[i].calls.length)(ho:tN N.runs[i].calls=true)(a:Int)(h0:0≤a)(h1:a≤8000000000):cF.run (fq cF da) (Dy ms len kk er N i c a 0 (N.runs[i].calls.map av.pv))=match gi (N.runs[i].calls.drop c) a with|some r=>da (B3 ms len (kk+1:Nat) (EX N i (N.runs[i].calls.take c++r)) (er++[.int .i64 0]))|none=>da (B3 ms len (kk+1:Nat) N (er++[.int .i64 10])):=by
 have hlen:=h.calls N.runs[i] (List.getElem_mem hi);have X0:1003<rounds:=by decide
 have iS:=nF ho;have OX:=ME er W4;have hrT:∀x,((er++[x]).length*8≤aa∧0<8)=True:=fun x=>eq_true (OX x);have U2:IntKind.i64.wrap ((kk:Int)+1)=((kk+1:Nat):Int):=ao (by omega);refine(B1 (Dy ms len kk er N i c) N.runs[i].calls c (da (B3 ms len (kk+1:Nat) N (er++[.int .i64 10]))) (fun out=>da (ms,0,len,((kk+1:Nat):Int),0,0,0,N.bd,N.within,N.cap,er++[.int .i64 0],N.stops.map Stop.pv,N.ai.map aF.pv,(N.runs.map cn.pn).set i (.agg [.int .i64 N.runs[i].dv,.int .i64 N.runs[i].day,.int .i64 N.runs[i].inst,.str N.runs[i].id,.int .i64 N.runs[i].bh,.bool N.runs[i].free,.bool N.runs[i].rH,.fK 5 out]),N.aq.map aN.pv,N.paths.map Path.pv,N.aM.map aZ.pv,())) (fun k a out rec hk ky=>?_) (fun k a pre rec hk ky hp UX ha1=>?_) (fun a out rec=>?_) iS (uz ho) hc (by omega) a h0 h1).trans ?_
 ·unfold Dy fq;dsimp only;rw[List.getElem?_eq_getElem hi,Option.elim_some,if_pos (by rw[decide_eq_true_eq];omega),if_pos (by rw[decide_eq_true_eq];omega),ao (by omega),Int.toNat_natCast]
 ·obtain⟨d0,d1⟩:=rV (iS k ky);obtain⟨s0,s1,s2⟩:=iS k ky;have hlm:=mD;have XP:=G6 pre N.runs[i].calls k hp (by omega);have VH:∀x,((outs pre N.runs[i].calls k).set k x).length=N.runs[i].calls.length:=fun x=>by rw[List.length_set,XP]
  unfold Dy fq;dsimp only;rw[List.getElem?_eq_getElem hi,Option.elim_some,if_pos (by rw[decide_eq_true_eq];omega),if_neg (by rw[decide_eq_true_eq];omega)];simp only[Int.toNat_natCast,pG _ _ hi,U,Dv,List.length_map,gU k _ ky,if_true,List.getElem?_map,List.getElem?_eq_getElem ky,Option.map_some,XP,G7 pre _ k hp ky,kI2,Mz,B0 (iS k ky),Dw,UY,UZ,VH,G9 _ _ _ (show k<(outs pre N.runs[i].calls k).length by omega),List.set_set,wrap_small (show-100000000000≤a+gL N.runs[i].calls[k] by omega) (show a+gL N.runs[i].calls[k]≤100000000000 by omega),U0,MA,ao (show k<9223372036854775807 by omega),G8 pre _ k hp ky,decide_eq_true_eq,hrT,U2,if_true];have ei:=G5 (iS k ky) UX ha1;by_cases tP:(late N.runs[i].calls[k] a).dep>gK
  ·rw[if_pos (show(late N.runs[i].calls[k] a).dep>3155932800 by omega),if_pos tP];rfl
  ·rw[if_neg (show¬(late N.runs[i].calls[k] a).dep>3155932800 by omega),if_neg tP];by_cases hn:k+1<N.runs[i].calls.length
   ·obtain⟨n0,n1⟩:=yg (iS k ky) (iS (k+1) hn) (uz ho k hn) UX tP;obtain⟨t0,t1,t2⟩:=iS (k+1) hn;rw[if_pos (by omega),dif_pos hn,if_pos (gU _ _ hn),List.getElem?_eq_getElem hn];simp only[Option.map_some,U,kI1];rw[wrap_small (x:=N.runs[i].calls[k+1].arr+(late N.runs[i].calls[k] a).dep) (by omega) (by omega),wrap_small (by omega) (by omega)]
   ·rw[if_neg (by omega),dif_neg hn]
 ·unfold Dy fq;dsimp only;rw[List.getElem?_eq_getElem hi,Option.elim_some,if_neg (by simp)];simp only[Int.toNat_natCast,pG _ _ hi,U,Rv _ _ hi,if_true,TU,hrT,U2,if_true]
 ·cases gi (N.runs[i].calls.drop c) a with
  |none=>rfl
  |some r=>simp only[rW,←List.map_set];simp only[EX,List.getElem?_eq_getElem hi];rfl
def RA(ms:List PV)(len kk:Int)(er:List PV)(N:aj)(i:Nat)(runs:List PV)(j k:Nat)(x:List PV):=((j:Int),(k:Int),ms,(0:Int),len,kk,x,(i:Int),N.bd,N.within,N.cap,(0:Int),(0:Int),(0:Int),er,N.stops.map Stop.pv,N.ai.map aF.pv,runs,N.paths.map Path.pv,N.aM.map aZ.pv,())
theorem W5(ms:List PV)(len:Int)(kk:Nat)(xB:kk<1000)(er:List PV)(W4:er.length≤1000)(da:_→Option PV)(N:aj)(h:Om N)(i:Nat)(runs:List PV):cF.run (lx cF da) ((N.aq.length:Int),0,ms,0,len,(kk:Int),N.aq.map aN.pv,(i:Int),N.bd,N.within,N.cap,0,0,0,er,N.stops.map Stop.pv,N.ai.map aF.pv,runs,N.paths.map Path.pv,N.aM.map aZ.pv,())=da (ms,0,len,((kk+1:Nat):Int),0,0,0,N.bd,N.within,N.cap,er++[.int .i64 0],N.stops.map Stop.pv,N.ai.map aF.pv,runs,(N.aq.filter (Ha i)).map aN.pv,N.paths.map Path.pv,N.aM.map aZ.pv,()):=by
 have hk:=h.aq;have X0:1003<rounds:=by decide
 have OX:=ME er W4;have hrT:∀x,((er++[x]).length*8≤aa∧0<8)=True:=fun x=>eq_true (OX x);have U2:IntKind.i64.wrap ((kk:Int)+1)=((kk+1:Nat):Int):=ao (by omega);refine Rs (fun k=>((N.aq.length:Int),(k:Int),ms,(0:Int),len,(kk:Int),N.aq.map aN.pv,(i:Int),N.bd,N.within,N.cap,(0:Int),(0:Int),(0:Int),er,N.stops.map Stop.pv,N.ai.map aF.pv,runs,N.paths.map Path.pv,N.aM.map aZ.pv,())) (RA ms len kk er N i runs) (body3:=ly cF da) N.aq (Ha i) (fun x=>da (ms,0,len,((kk+1:Nat):Int),0,0,0,N.bd,N.within,N.cap,er++[.int .i64 0],N.stops.map Stop.pv,N.ai.map aF.pv,runs,x,N.paths.map Path.pv,N.aM.map aZ.pv,())) (fun j k x rec ky hx hj hg=>?_) (fun j x rec hx hj=>?_) (fun k rec ky=>?_) (fun rec=>?_) (by omega)
 ·unfold RA ly;dsimp only;rw[if_pos (by rw[decide_eq_true_eq];omega),if_pos (gU _ _ (by omega)),Int.toNat_natCast,hg];simp only[U,EY,uB,asBool,Bool.not_not,ao (show k<9223372036854775807 by omega),ao (show j<9223372036854775807 by omega),gU j x.length (by omega),if_true,Int.toNat_natCast,List.getElem?_eq_getElem (show j<x.length by omega)]
 ·unfold RA ly;dsimp only;rw[if_neg (by rw[hx];simp)];simp only[Int.toNat_natCast,Int.toNat_zero,Nat.sub_zero,List.drop_zero];rw[if_pos (by exact⟨by omega,by omega,by omega,trivial⟩),if_pos (by exact⟨trivial,trivial,by omega,by omega⟩),if_pos (by refine⟨by omega,by omega,?_,trivial⟩;simp only[List.length_append,List.length_take,List.length_replicate,List.length_drop];omega)];rw[if_pos (OX _),U2,List.take_append_of_le_length (by simp;omega),List.take_take,Nat.min_self]
 ·unfold lx;dsimp only;rw[if_pos (by rw[decide_eq_true_eq];omega),if_pos (gU _ _ (by simpa using ky)),Int.toNat_natCast,List.getElem?_map,List.getElem?_eq_getElem ky];simp only[Option.map_some,U,EY,uB,asBool,ao (show k<9223372036854775807 by omega),fa];cases hp:Ha i N.aq[k]with
  |true=>simp only[Bool.not_true,Bool.false_eq_true,if_false,if_true]
  |false=>simp only[Bool.not_false,if_true,Bool.false_eq_true,if_false];rw[if_neg (by rw[decide_eq_true_eq];omega)];rfl
 ·unfold lx;dsimp only;rw[if_neg (by simp),if_pos (OX _),U2]
theorem RB(ms:List PV)(len:Int)(kk:Nat)(xB:kk<1000)(er:List PV)(W4:er.length≤1000)(da:_→Option PV)(l:List iM)(hl:l.length<1000)(q:PV)(ad7:bk ms (kk:Int)=some q)(hlen:len=(l.length:Int))(ky:kk<l.length)(N:aj)(h:Om N)(UH:∀m∈l,m.Ok)(hv:(eA N).2.2=0)(hmc:∀m∈l,m.calls.length≤1000)(hL:mZ q l[kk]):iL cF (B3 ms len kk N er) da=da (B3 ms len (kk+1:Nat) (if gT l[kk]=0 then(if(EJ N l[kk]).2=0 then(EJ N l[kk]).1 else N)else N) (er++[.int .i64 (if gT l[kk]=0 then(EJ N l[kk]).2 else gT l[kk])])):=by
 have OX:=ME er W4;have hrT:∀x,((er++[x]).length*8≤aa∧0<8)=True:=fun x=>eq_true (OX x);have U2:IntKind.i64.wrap ((kk:Int)+1)=((kk+1:Nat):Int):=ao (by omega);have hm:=UH _ (List.getElem_mem ky);have hc:=hmc _ (List.getElem_mem ky);have bp:decide ((kk:Int)<len)=true:=by rw[decide_eq_true_eq];omega
 generalize l[kk]=m at hm hc hL⊢;have hmk:=(Hb hL.agg).trans (G3 m hm);have hr:=h.runs;have ht:=pF N m (by
  have:1000≤maxLen:=by decide
  omega)
 have Uv:PV.agg [cell q 0,cell q 1,cell q 2,cell q 3,cell q 4,cell q 5,cell q 6,cell q 7,cell q 8,cell q 9,cell q 10,cell q 11,cell q 12]=MD q:=rfl;have ht:=(zn (abm N) hL.agg).trans ht;conv=>lhs;unfold B3 iL
 dsimp only;rw[if_pos bp,ad7];simp only[U,Uv,hmk,asInt,if_true,bne_self_eq_false,Bool.false_eq_true,if_false,j5,xO,ht];simp only[fa,decide_eq_true_eq];by_cases Fi:gT m=0;case neg=>rw[if_neg Fi,if_neg Fi,if_neg Fi,if_pos (OX _),U2];rfl
 rw[if_pos Fi,if_pos Fi,if_pos Fi];unfold EJ Dt;simp only[hL.h4,hL.h5,hL.h6,hL.h7,hL.h8,hL.h9,hL.Fh,hL.WZ,hL.W0,U];simp only[asInt,bx,ab,asBool,if_true,U,fa,decide_eq_true_eq,hrT,U2,if_true];by_cases k5:m.kind=5
 ·simp only[k5,if_true];cases htg:zU N.runs m with
  |some i=>simp only[bY,List.length_cons,List.length_nil,Nat.reduceAdd,if_true,U,List.getD_cons_zero,List.getD_cons_succ,asInt,asBool,Option.isSome_some];rfl
  |none=>
   have hT:=nC m.calls N.stops.length 0 3155932800 hm.calls.1;simp only[res]at hT;have WX:=uA m.calls (by omega);simp only[bY,List.length_cons,List.length_nil,Nat.reduceAdd,if_true,U,List.getD_cons_zero,List.getD_cons_succ,asInt,asBool,Option.isSome_none,Bool.false_eq_true,if_false,List.length_map,bu,Bool.or_eq_true,decide_eq_true_eq,hT,tR];by_cases l0:m.bh<0∨m.bh≥(N.ai.length:Int)
   ·rw[if_pos l0,if_pos l0];rfl
   ·rw[if_neg l0,if_neg l0];by_cases he:(bw m.calls (N.stops.length:Int) 0 3155932800).2=0
    ·rw[if_pos he,if_neg (show¬((N.runs.length:Int)≥1024) by omega),WX];simp only[U,ab,if_true,he,ne_eq,not_true,if_false,if_neg (show¬(N.runs.length≥1024) by omega)];rw[if_pos (by
      have:101*80≤aa:=by decide
      rw[List.length_append,List.length_map,List.length_singleton];omega)]
     unfold B3;rw[List.map_append];rfl
    ·rw[if_neg he,if_pos he];simp only[if_neg he];rfl
 ·simp only[if_neg k5];cases htg:zU N.runs m with
  |none=>simp only[bY,List.length_cons,List.length_nil,Nat.reduceAdd,if_true,U,List.getD_cons_zero,List.getD_cons_succ,asInt,asBool,Bool.not_false];rfl
  |some i=>
   obtain⟨hi,zg,_⟩:=BQ htg;have px:ae (i:Int) N.runs.length:=⟨by omega,by omega⟩;have se:=tG hv N.runs[i] (List.getElem_mem hi);simp only[bY,List.length_cons,List.length_nil,Nat.reduceAdd,if_true,U,List.getD_cons_zero,List.getD_cons_succ,asInt,asBool,Bool.not_true,Bool.false_eq_true,if_false,pG _ _ hi,List.getElem?_eq_getElem hi,px,Dv,Int.toNat_natCast,List.length_map,bu,dP,Bool.or_eq_true,decide_eq_true_eq];have Ss:((decide (m.kind=1)||decide (m.kind=3))&&(decide (m.call<0)||decide (m.call≥(N.runs[i].calls.length:Int))))=decide ((m.kind=1∨m.kind=3)∧(m.call<0∨m.call≥(N.runs[i].calls.length:Int))):=by rw[Bool.eq_iff_iff];simp
   rw[Ss];simp only[decide_eq_true_eq];by_cases hn:(m.kind=1∨m.kind=3)∧(m.call<0∨m.call≥(N.runs[i].calls.length:Int))
   ·rw[if_pos hn,if_pos hn];rfl
   rw[if_neg hn,if_neg hn];by_cases k1:m.kind=1
   ·simp only[k1,if_true];have N1:¬(m.call<0∨m.call≥(N.runs[i].calls.length:Int)):=fun hh=>hn ⟨.inl k1,hh⟩;have ad6:=not_or.1 N1;unfold prop;rw[if_neg N1,if_neg (show¬(m.call<0∨m.call≥(N.runs[i].calls.length:Int))from N1)];by_cases hs:m.bP< -43200∨m.bP>43200
    ·rw[if_pos hs,if_pos hs];rfl
    rw[if_neg hs,if_neg hs];obtain⟨c,Cg⟩:∃c:Nat,m.call=(c:Int):=⟨m.call.toNat,by omega⟩;have uW:c<N.runs[i].calls.length:=by omega
    have hlen:=h.calls N.runs[i] (List.getElem_mem hi);have ho:=wZ N.runs[i].calls (by
     have:1000≤maxLen:=by decide
     omega)
    have hrq:MQ (cell N.runs[i].pn 7)=some (.rs 5 (N.runs[i].calls.map av.pv)):=rfl;simp only[hrq,U,ho,asBool];cases WY:tN N.runs[i].calls with
    |false=>rfl
    |true=>
     have ek:0≤(N.runs[i].calls.length:Int)∧(N.runs[i].calls.length:Int)≤(N.runs[i].calls.length:Int)∧(N.runs[i].calls.length:Int).toNat*32≤aa∧0<32∧0<5:=by
      have:1000*32≤aa:=by decide
      refine⟨by omega,by omega,?_,by decide,by decide⟩;rw[Int.toNat_natCast];omega
     rw[if_neg (by decide),if_pos (by rw[Int.toNat_natCast]at ek;exact ek)];simp only[Cg,Int.toNat_natCast];obtain⟨a1,a2⟩:=My WY uW (show-43200≤m.bP by omega) (show m.bP≤43200 by omega);have hA:=W3 ms len kk xB er W4 da N h i c hi uW WY _ a1 (by omega);have Su:∀z:PV,List.take (List.replicate N.runs[i].calls.length z).length (N.runs[i].calls.map av.pv)++List.drop N.runs[i].calls.length (List.replicate N.runs[i].calls.length z)=N.runs[i].calls.map av.pv:=fun z=>by rw[List.length_replicate,List.take_of_length_le (by simp),List.drop_eq_nil_of_le (by simp),List.append_nil]
     have key:∀A,A=mP N.runs[i].calls c m.bP→cF.run (fq cF da) ((i:Int),(c:Int),A,(N.runs[i].calls.length:Int),0,(i:Int),ms,0,len,(kk:Int),N.runs.map cn.pn,N.runs[i].calls.map av.pv,N.bd,N.within,N.cap,0,0,0,er,N.stops.map Stop.pv,N.ai.map aF.pv,N.aq.map aN.pv,N.paths.map Path.pv,N.aM.map aZ.pv,())=match gi (N.runs[i].calls.drop c) (mP N.runs[i].calls c m.bP)with|some r=>da (B3 ms len (kk+1:Nat) (EX N i (N.runs[i].calls.take c++r)) (er++[.int .i64 0]))|none=>da (B3 ms len (kk+1:Nat) N (er++[.int .i64 10])):=by intro A sx;subst sx;unfold Dy at hA;rw[List.getElem?_eq_getElem hi]at hA;exact hA
     have hlm:=mD;obtain⟨s0,s1,s2⟩:=nF WY c uW;cases c with
     |zero=>rw[if_neg (by decide),if_pos (gU _ _ uW)];simp only[List.getElem?_map,List.getElem?_eq_getElem uW,Option.map_some,U,y8,asInt,if_true,Su];refine(key _ ?_).trans (by split<;>rename_i hx<;>simp only[hx,EX,List.getElem?_eq_getElem hi]<;>rfl);rw[wrap_small (by omega) (by omega)];unfold mP;rw[List.getElem?_eq_getElem uW];simp only[hU,Option.map_some,Option.map_none,Option.getD_none,Option.getD_some];by_cases hx:N.runs[i].calls[0].arr+m.bP<0<;>simp[hx]
     |succ j=>
      have hj:j<N.runs[i].calls.length:=by omega
      rw[if_pos (by omega),uw j (by omega),if_pos (gU _ _ hj)];simp only[Int.toNat_natCast,List.getElem?_map,List.getElem?_eq_getElem hj,Option.map_some,U,y8,y9,asInt,if_true,Su,gU _ _ uW,List.getElem?_eq_getElem uW];refine(key _ ?_).trans (by split<;>rename_i hx<;>simp only[hx,EX,List.getElem?_eq_getElem hi]<;>rfl);rw[wrap_small (by omega) (by omega)];unfold mP;rw[List.getElem?_eq_getElem uW];simp only[hU,List.getElem?_eq_getElem hj,Option.map_some,Option.getD_some]
   simp only[if_neg k1];by_cases k2:m.kind=2
   ·simp only[k2,if_true,pG _ _ hi,U,U1,←List.map_set];rfl
   simp only[if_neg k2];by_cases k3:m.kind=3
   ·simp only[k3,if_true];have N1:=not_or.1 (fun hh=>hn ⟨.inr k3,hh⟩:¬(m.call<0∨m.call≥(N.runs[i].calls.length:Int)));obtain⟨c,Cg⟩:∃c:Nat,m.call=(c:Int):=⟨m.call.toNat,by omega⟩;have uW:c<N.runs[i].calls.length:=by omega
    simp only[Cg,Int.toNat_natCast,gU c _ uW,if_true,List.getElem?_map,List.getElem?_eq_getElem uW,Option.map_some,U,Ry,←List.map_set,abl,List.length_set,List.length_map,px,List.getElem?_set_self hi,Dv,List.getElem?_set_self uW,Rz,List.set_set,j5];simp only[BT,List.getElem?_eq_getElem uW];rfl
   simp only[if_neg k3];by_cases k4:m.kind=4
   ·simp only[k4,if_true];have hT:=nC m.calls N.stops.length 0 3155932800 hm.calls.1;simp only[res]at hT;have WX:=uA m.calls (by omega);simp only[hT,U,bY,List.length_cons,List.length_nil,Nat.reduceAdd,if_true,List.getD_cons_zero,List.getD_cons_succ,asInt,tR];by_cases he:(bw m.calls (N.stops.length:Int) 0 3155932800).2=0
    ·simp only[he,WX,U,ab,if_true,ne_eq,not_true,if_false];rw[W5 ms len kk xB er W4 da N h i,TU,rW];rw[←List.map_set];rfl
    ·rw[if_neg he,if_pos he];simp only[if_neg he];rfl
   simp only[if_neg k4];rfl
def Oq(N:aj)(m:iM):aj:=if gT m=0 then(if(EJ N m).2=0 then(EJ N m).1 else N)else N
def abn(N:aj)(m:iM):Int:=if gT m=0 then(EJ N m).2 else gT m
def W6(N:aj)(er:List Int):List iM→aj×List Int
 |[]=>(N,er)
 |m::l=>W6 (Oq N m) (er++[abn N m]) l
theorem Ot{N:aj}{m:iM}(h:(eA N).2.2=0):(eA (Oq N m)).2.2=0:=by
 unfold Oq;by_cases h1:gT m=0
 ·rw[if_pos h1];by_cases h2:(EJ N m).2=0
  ·rw[if_pos h2];exact Oi N m h h1 h2
  ·rw[if_neg h2];exact h
 ·rw[if_neg h1];exact h
end Go.Ab.Tt
namespace Go.Ab.Tt
set_option maxRecDepth 100000
set_option linter.unusedVariables false
set_option linter.unusedSimpArgs false
structure oQ(N N':aj)(m:iM):Prop where
 stops:N'.stops=N.stops
 ai:N'.ai=N.ai
 paths:N'.paths=N.paths
 aM:N'.aM=N.aM
 bd:N'.bd=N.bd
 within:N'.within=N.within
 cap:N'.cap=N.cap
 aq:N'.aq.length≤N.aq.length∧∀x∈N'.aq,x∈N.aq
 len:N'.runs.length≤N.runs.length+1
 runs:∀r∈N'.runs,(∃r0∈N.runs,r.dv=r0.dv∧r.inst=r0.inst∧r.id=r0.id∧r.day=r0.day∧r.bh=r0.bh)∨(r.dv= -1∧r.inst=m.inst∧r.id=m.dv∧r.day=m.day∧r.bh=m.bh)
theorem oQ.rfl'(N:aj)(m:iM):oQ N N m:=⟨rfl,rfl,rfl,rfl,rfl,rfl,rfl,⟨Nat.le_refl _,fun _ h=>h⟩,Nat.le_succ _,fun r h=>.inl ⟨r,h,rfl,rfl,rfl,rfl,rfl⟩⟩
theorem w7{N:aj}{m:iM}{i:Nat}{r x:cn}(hr:N.runs[i]?=some r)(h:x.dv=r.dv∧x.inst=r.inst∧x.id=r.id∧x.day=r.day∧x.bh=r.bh)(ls:List aN)(hl:ls.length≤N.aq.length∧∀y∈ls,y∈N.aq):oQ N {N with runs:=N.runs.set i x,aq:=ls} m:=by
 refine⟨rfl,rfl,rfl,rfl,rfl,rfl,rfl,hl,by simp,fun q hq=>.inl ?_⟩;rcases List.mem_or_eq_of_mem_set hq with hq|hq
 ·exact⟨q,hq,rfl,rfl,rfl,rfl,rfl⟩
 ·subst hq;exact⟨r,List.mem_of_getElem? hr,h⟩
theorem RC(N:aj)(m:iM):oQ N (EJ N m).1 m:=by
 unfold EJ;by_cases k5:m.kind=5
 ·rw[if_pos k5];split
  ·exact oQ.rfl' N m
  ·split
   ·exact oQ.rfl' N m
   ·split
    ·exact oQ.rfl' N m
    ·split
     ·exact oQ.rfl' N m
     ·refine⟨rfl,rfl,rfl,rfl,rfl,rfl,rfl,⟨Nat.le_refl _,fun _ h=>h⟩,by simp,fun r h=>?_⟩;rcases List.mem_append.1 h with h|h
      ·exact .inl ⟨r,h,rfl,rfl,rfl,rfl,rfl⟩
      ·simp only[List.mem_singleton]at h;subst h;exact .inr ⟨rfl,rfl,rfl,rfl,rfl⟩
 ·rw[if_neg k5];cases zU N.runs m with
  |none=>exact oQ.rfl' N m
  |some i=>
   dsimp only;cases hr:N.runs[i]? with
   |none=>exact oQ.rfl' N m
   |some r=>
    have Zz:N.aq.length≤N.aq.length∧∀y∈N.aq,y∈N.aq:=⟨Nat.le_refl _,fun _ h=>h⟩;dsimp only;split
    ·exact oQ.rfl' N m
    ·split
     ·cases prop r.calls m.call m.bP with
      |mk o e=>
       cases o with
       |none=>exact oQ.rfl' N m
       |some l=>exact w7 (x:={r with calls:=l}) hr ⟨rfl,rfl,rfl,rfl,rfl⟩ N.aq Zz
     ·split
      ·exact w7 (x:={r with rH:=true}) hr ⟨rfl,rfl,rfl,rfl,rfl⟩ N.aq Zz
      ·split
       ·exact w7 (x:={r with calls:=BT r.calls m.call.toNat}) hr ⟨rfl,rfl,rfl,rfl,rfl⟩ N.aq Zz
       ·split
        ·split
         ·exact oQ.rfl' N m
         ·exact w7 (x:={r with calls:=m.calls}) hr ⟨rfl,rfl,rfl,rfl,rfl⟩ _ ⟨List.length_filter_le _ _,fun y h=>(List.mem_filter.1 h).1⟩
        ·exact oQ.rfl' N m
theorem RD(N:aj)(m:iM):oQ N (Oq N m) m:=by
 unfold Oq;split
 ·split
  ·exact RC N m
  ·exact oQ.rfl' N m
 ·exact oQ.rfl' N m
theorem EZ{x:Int}(h1: -9223372036854775808≤x)(h2:x≤9223372036854775807):jJ x:=by show(decide ((-9223372036854775808:Int)≤x)&&decide (x≤(9223372036854775807:Int)))=true;simp[h1,h2]
theorem Hc{l:List av}{n:Int}(h:(bw l n 0 3155932800).2=0)(hn:n≤100000):l.length≤32∧∀y∈l,y.Ok:=by obtain⟨h1,h2⟩:=tH h;refine⟨h2,fun y hy=>?_⟩;obtain⟨k,hk,rfl⟩:=List.mem_iff_getElem.1 hy;have he:=zd h k hk;unfold mb at he;rw[List.getElem?_eq_getElem hk]at he;have ho:∃p,kX l[k] p n 0 3155932800=0:=⟨_,he⟩;obtain⟨p,ho⟩:=ho;obtain⟨a1,a2,a3,_⟩:=oM ho;obtain⟨b1,b2,_⟩:=rU ho;exact⟨EZ (by omega) (by omega),EZ (by omega) (by omega),EZ (by omega) (by omega)⟩
theorem RE{N N':aj}{m:iM}(h:Om N)(hs:oQ N N' m)(hv:(eA N').2.2=0)(hm:m.Ok)(hl:N.runs.length<100):Om N':=by
 have O1:1000≤maxLen:=by decide
 have hcv:=tG hv;have sA:=xV ((mC N').1 hv).1;refine⟨⟨?_,?_,?_,?_,?_,?_,?_,?_,?_⟩,?_,?_,?_,?_,?_,?_,?_⟩
 ·rw[hs.stops];exact h.ok.stops
 ·rw[hs.ai];exact h.ok.ai
 ·refine⟨by have:=hs.len;omega,fun r hr=>?_⟩;obtain⟨c1,c2⟩:=Hc (hcv r hr) (by omega);rcases hs.runs r hr with⟨r0,h0,e1,e2,e3,e4,e5⟩|⟨e1,e2,e3,e4,e5⟩
  ·have g:=h.ok.runs.2 r0 h0;exact⟨by rw[e1];exact g.dv,by rw[e4];exact g.day,by rw[e2];exact g.inst,by rw[e3];exact g.id,by rw[e5];exact g.bh,by omega,c2⟩
  ·exact⟨by rw[e1];exact EZ (by omega) (by omega),by rw[e4];exact hm.day,by rw[e2];exact hm.inst,by rw[e3];exact hm.dv,by rw[e5];exact hm.bh,by omega,c2⟩
 ·exact⟨Nat.le_trans hs.aq.1 h.ok.aq.1,fun x hx=>h.ok.aq.2 x (hs.aq.2 x hx)⟩
 ·rw[hs.paths];exact h.ok.paths
 ·rw[hs.aM];exact h.ok.aM
 ·rw[hs.bd];exact h.ok.bd
 ·rw[hs.within];exact h.ok.within
 ·rw[hs.cap];exact h.ok.cap
 ·rw[hs.stops];exact h.stops
 ·rw[hs.ai];exact h.ai
 ·have:=hs.len;omega
 ·exact Nat.le_trans hs.aq.1 h.aq
 ·rw[hs.paths];exact h.paths
 ·rw[hs.aM];exact h.aM
 ·intro r hr;have:=(Hc (hcv r hr) (by omega)).1;omega
def U3(x:aj×List Int):PV:=.bj [x.1.pv,.rs 1 (x.2.map fun e=>.int .i64 e)]
theorem RF(ms:List PV)(l:List iM)(O1:∀k,(hk:k<l.length)→∃q,ms[k]?=some q∧mZ q l[k])(hl:l.length≤50)(UH:∀m∈l,m.Ok)(hmc:∀m∈l,m.calls.length≤1000):∀(j k:Nat)(N:aj)(er:List Int)(fu:Nat),k+j=l.length→j<fu→Om N→(eA N).2.2=0→N.runs.length+j<100→er.length≤k→cD (iL cF) fu (B3 ms (l.length:Int) k N (er.map fun e=>.int .i64 e))=some (U3 (W6 N er (l.drop k))):=by
 intro j;induction j with
 |zero=>
  intro k N er fu hk hf hN hv hr he;obtain⟨fu,rfl⟩:∃f,fu=f+1:=⟨fu-1,by omega⟩;have:k=l.length:=by omega
  subst this;rw[cD,List.drop_length];unfold B3 iL;dsimp only;rw[if_neg (by simp),j5];rfl
 |succ j ih=>
  intro k N er fu hk hf hN hv hr he;obtain⟨fu,rfl⟩:∃f,fu=f+1:=⟨fu-1,by omega⟩;have ky:k<l.length:=by omega
  obtain⟨q,Yu,Ui⟩:=O1 k ky;rw[cD,RB _ _ k (by omega) _ (by simp;omega) _ l (by omega) q (by rw[aK];exact Yu) rfl ky N hN UH hv hmc Ui];have hs:=RD N l[k];have Ib:=Ot (m:=l[k]) hv;have hlen:=hs.len;have:=ih (k+1) (Oq N l[k]) (er++[abn N l[k]]) fu (by omega) (by omega) (RE hN hs Ib (UH _ (List.getElem_mem ky)) (by omega)) Ib (by omega) (by simp;omega);rw[List.map_append]at this;rw[List.drop_eq_getElem_cons ky];exact this
theorem RG(p:PV)(ms:List PV)(N:aj)(l:List iM)(hp:Dx p N)(Az:ms.length=l.length)(O1:∀k,(hk:k<l.length)→∃q,ms[k]?=some q∧mZ q l[k])(h:Om N)(hv:(eA N).2.2=0)(hl:l.length≤50)(hr:N.runs.length≤40)(UH:∀m∈l,m.Ok)(hmc:∀m∈l,m.calls.length≤1000):e9 [p,.rs 13 ms]=some (U3 (W6 N [] l)):=by
 have X0:1003<rounds:=by decide
 have AA:=BH N h.ok (by have:=h.paths;omega);have f1:=BI (N.stops.map Stop.pv) (by simpa using h.stops);have f2:=ze (N.ai.map aF.pv) (by simpa using h.ai);have f3:=Da (N.runs.map cn.pv) (by simp;omega);have f4:=BJ (N.aq.map aN.pv) (by simpa using h.aq);have f5:=tI (N.paths.map Path.pv) (by simpa using h.paths);have f6:=vd (N.aM.map aZ.pv) (by simpa using h.aM);have key:=RF ms l O1 hl UH hmc l.length 0 N [] rounds (by omega) (by omega) h hv (by omega) (by simp);simp only[e9,tv,hp.hA,hp.h0,hp.h1,hp.h2,hp.h3,hp.h4,hp.h5,hp.h6,hp.h7,hp.h8,U];simp only[ab,if_true,U,f1,f2,f3,f4,f5,List.length_map];refine bJ (fun k=>((N.runs.length:Int),(k:Int),ms,N.stops.map Stop.pv,N.ai.map aF.pv,N.runs.map cn.pv,N.aq.map aN.pv,N.paths.map Path.pv,N.aM.map aZ.pv,N.bd,N.within,N.cap,(0:Int),(0:Int),(0:Int),N.aM.map aZ.pv,N.bd,N.within,N.cap,N.stops.map Stop.pv,N.ai.map aF.pv,N.runs.map cn.pv,N.aq.map aN.pv,N.paths.map Path.pv,N.aM.map aZ.pv,N.bd,N.within,N.cap,(0:Int),(0:Int),(0:Int),N.stops.map Stop.pv,N.ai.map aF.pv,mix cn.pn cn.pv N.runs k,N.aq.map aN.pv,N.paths.map Path.pv,())) N.runs.length (fun k hk rec=>?_) (fun rec=>?_) (by omega) (by rw[GL];rfl)
 ·have fc:=BK (N.runs[k].calls.map av.pv) (by simpa using h.calls _ (List.getElem_mem hk));unfold oS;dsimp only;rw[if_pos (by rw[decide_eq_true_eq];omega),if_pos (Eu _ _ _ _ hk),Int.toNat_natCast,Mg _ _ _ _ hk];simp only[U,Gu,fc,ab,if_true,Eu _ _ _ _ hk,MC,ao (show k<9223372036854775807 by omega)];have:=Mh cn.pn cn.pv N.runs k hk;rw[←this];rfl
 ·unfold oS;dsimp only;rw[if_neg (by simp),f6];simp only[U,ab,if_true,xO,AA];simp only[fT,bY,List.length_cons,List.length_nil,Nat.reduceAdd,if_true,List.getD_cons_zero,List.getD_cons_succ,asInt,U,hv,Et,List.length_map,Az];rw[kF];exact key
end Go.Ab.Tt
namespace Go.Ab.Tt
set_option maxRecDepth 100000
set_option linter.unusedVariables false
set_option linter.unusedSimpArgs false
end Go.Ab.Tt
namespace Go.Ab.Tt
set_option maxRecDepth 100000
set_option linter.unusedVariables false
set_option linter.unusedSimpArgs false
def E0(A B:aj)(k:Nat):Bool:=decide (A.runs[k]?≠B.runs[k]?)
def E1(A B:aj)(n:Nat):List Nat:=(List.range n).filter (E0 A B)
theorem Ou(A B:aj)(k:Nat):E1 A B (k+1)=if E0 A B k=true then E1 A B k++[k]else E1 A B k:=by unfold E1;rw[List.range_succ,List.filter_append];by_cases h:E0 A B k=true<;>simp[h]
theorem RH(A B:aj)(k:Nat):(E1 A B k).length≤k:=by unfold E1;exact Nat.le_trans (List.length_filter_le _ _) (by simp)
def RI(k:Nat):PV:=.int .i64 k
def mx(A B:aj):Nat:=max A.runs.length B.runs.length
theorem Ov(x y:cn)(hx:x.calls.length≤maxLen):fk [x.pv,y.pv]=some (.bool (decide (x=y))):=by have hc:=pd x.calls y.calls hx;simp only[fk,rD,adL,Wy,NT,NU,NV,Wz,ZO,ZP,Gu,U];simp only[asInt,bx,asBool,ab,if_true,U,hc,dP,bu,fa,lF,TA];generalize decide (x.dv=y.dv)=a1;generalize decide (x.day=y.day)=a2;generalize decide (x.inst=y.inst)=a3;generalize decide (x.id=y.id)=a4;generalize decide (x.bh=y.bh)=a5;generalize decide (x.rH=y.rH)=a7;generalize decide (x.calls=y.calls)=a8;generalize decide (x.free=y.free)=a6;cases a1<;>cases a2<;>cases a3<;>cases a4<;>rfl
theorem E2(A B:aj)(hA:A.runs.length≤1000∧∀x∈A.runs,x.calls.length≤maxLen)(hB:B.runs.length≤1000):bV [A.pv,B.pv]=some (.rs 1 ((E1 A B (mx A B)).map RI)):=by
 have X0:1003<rounds:=by decide
 simp only[bV,jH,qM,rI,rJ,rK,rL,rM,rN,rO,rP,rQ,U,List.length_map];refine bJ (fun k=>(((mx A B:Nat):Int),(k:Int),A.stops.map Stop.pv,A.ai.map aF.pv,A.runs.map cn.pv,A.aq.map aN.pv,A.paths.map Path.pv,A.aM.map aZ.pv,A.bd,A.within,A.cap,B.stops.map Stop.pv,B.ai.map aF.pv,B.runs.map cn.pv,B.aq.map aN.pv,B.paths.map Path.pv,B.aM.map aZ.pv,B.bd,B.within,B.cap,(E1 A B k).map RI,())) (mx A B) (fun k hk rec=>?_) (fun rec=>?_) (by unfold mx;omega) ?_
 ·have hl:=RH A B k;have hm:k<1000:=by unfold mx at hk;omega
  have ek:((E1 A B k).map RI++[PV.int .i64 (k:Int)]).length*8≤aa∧0<8:=ME _ (by simp;omega) _;have cR:∀x:cn,PV.agg [cell x.pv 0,cell x.pv 1,cell x.pv 2,cell x.pv 3,cell x.pv 4,cell x.pv 5,cell x.pv 6,cell x.pv 7]=x.pv:=ZN;unfold j9;dsimp only;rw[if_pos (by rw[decide_eq_true_eq];omega)];simp only[List.length_map,bu,aK,List.getElem?_map,ao (show k<9223372036854775807 by omega),Ou];by_cases ha:k<A.runs.length
  ·by_cases hb:k<B.runs.length
   ·have hs:=Ov A.runs[k] B.runs[k] (hA.2 _ (List.getElem_mem ha));rw[show(decide ((k:Int)≥(A.runs.length:Int))||decide ((k:Int)≥(B.runs.length:Int)))=false by rw[decide_eq_false (by omega),decide_eq_false (by omega)];rfl];simp only[U,cond_false,List.getElem?_eq_getElem ha,List.getElem?_eq_getElem hb,Option.map_some,ZN,hs,asBool];have hd:E0 A B k= !decide (A.runs[k]=B.runs[k]):=by unfold E0;rw[List.getElem?_eq_getElem ha,List.getElem?_eq_getElem hb];simp
    rw[hd];by_cases he:A.runs[k]=B.runs[k]
    ·simp[he]
    ·simp only[he,decide_false,Bool.not_false,if_true,if_pos ek,List.map_append];rfl
   ·have hd:E0 A B k=true:=by unfold E0;rw[List.getElem?_eq_getElem ha,List.getElem?_eq_none (by omega)];simp
    rw[show(decide ((k:Int)≥(A.runs.length:Int))||decide ((k:Int)≥(B.runs.length:Int)))=true by rw[decide_eq_true (show(k:Int)≥(B.runs.length:Int) by omega)];simp,hd];simp only[U,cond_true,if_true,if_pos ek,List.map_append];rfl
  ·have hd:E0 A B k=true:=by
    unfold E0;have hb:k<B.runs.length:=by unfold mx at hk;omega
    rw[List.getElem?_eq_getElem hb,List.getElem?_eq_none (by omega)];simp
   rw[show(decide ((k:Int)≥(A.runs.length:Int))||decide ((k:Int)≥(B.runs.length:Int)))=true by rw[decide_eq_true (show(k:Int)≥(A.runs.length:Int) by omega)];simp,hd];simp only[U,cond_true,if_true,if_pos ek,List.map_append];rfl
 ·unfold j9;dsimp only;rw[if_neg (by simp)]
 ·have:(if(B.runs.length:Int)>(A.runs.length:Int)then(B.runs.length:Int)else(A.runs.length:Int))=((mx A B:Nat):Int):=by unfold mx;split<;>omega
  rw[this];rfl
end Go.Ab.Tt
namespace Go.Ab.Tt
set_option maxRecDepth 100000
set_option linter.unusedVariables false
set_option linter.unusedSimpArgs false
def Cp:List av:=[⟨0,100,100,true,false⟩,⟨1,200,200,false,true⟩]
def U4(r:List cn):aj:=⟨[⟨[65],0,false,0⟩,⟨[66],0,false,0⟩],[⟨[82],0,false⟩],r,[],[],[],0,0,0⟩
def Dz:aj:=U4 [⟨0,0,0,[116,48],0,false,false,Cp⟩]
def pe(kind:Int)(dv:Bytes)(inst call bP:Int)(calls:List av):iM:=⟨0,1,0,10,kind,dv,0,inst,call,bP,0,false,calls⟩
def eW:PV:=.agg [.rs 4 [.agg [.str [65],.int .i64 0,.bool false,.int .i64 0],.agg [.str [66],.int .i64 0,.bool false,.int .i64 0]],.rs 3 [.agg [.str [82],.int .i64 0,.bool false]],.rs 8 [.agg [.int .i64 0,.int .i64 0,.int .i64 0,.str [116,48],.int .i64 0,.bool false,.bool false,.rs 5 (Cp.map av.pv)]],.rs 0 [],.rs 0 [],.rs 0 [],.int .i64 0,.int .i64 0,.int .i64 0]
def aH(kind:Int)(dv:Bytes):PV:=.agg [.int .i64 0,.int .i64 1,.int .i64 0,.int .i64 10,.int .i64 kind,.str dv,.int .i64 0,.int .i64 0,.int .i64 0,.int .i64 0,.int .i64 0,.bool false,.rs 0 []]
theorem W7:fE []=some eW:=rfl
theorem TV(k:Int)(t:Bytes):gO [.int .i64 k,.str t]=some (aH k t):=rfl
theorem Kr:fP []=some (.rs 5 (Cp.map av.pv)):=rfl
theorem abo:asAgg 9 eW=some ():=rfl
theorem W8(k:Int)(t:Bytes):asAgg 13 (aH k t)=some ():=rfl
theorem MF:Dx (.agg [cell eW 0,cell eW 1,cell eW 2,cell eW 3,cell eW 4,cell eW 5,cell eW 6,cell eW 7,cell eW 8]) Dz:=⟨rfl,rfl,rfl,rfl,rfl,rfl,rfl,rfl,rfl,rfl⟩
theorem RJ:Dz.Ok:=by
 have h1:100≤maxLen:=by decide
 refine⟨⟨by show 2≤maxLen;omega,?_⟩,⟨by show 1≤maxLen;omega,?_⟩,⟨by show 1≤maxLen;omega,?_⟩,⟨by show 0≤maxLen;omega,fun _ h=>by cases h⟩,⟨by show 0≤maxLen;omega,fun _ h=>by cases h⟩,⟨by show 0≤maxLen;omega,fun _ h=>by cases h⟩,by decide,by decide,by decide⟩
 ·intro y hy;simp only[Dz,U4,List.mem_cons,List.not_mem_nil,or_false]at hy;rcases hy with rfl|rfl
  ·exact⟨by show 1≤maxLen;omega,by decide,by decide⟩
  ·exact⟨by show 1≤maxLen;omega,by decide,by decide⟩
 ·intro y hy;simp only[Dz,U4,List.mem_cons,List.not_mem_nil,or_false]at hy;subst hy;exact⟨by show 1≤maxLen;omega,by decide⟩
 ·intro y hy;simp only[Dz,U4,List.mem_cons,List.not_mem_nil,or_false]at hy;subst hy;refine⟨by decide,by decide,by decide,by show 2≤maxLen;omega,by decide,by show 2≤maxLen;omega,fun z hz=>?_⟩;simp only[Cp,List.mem_cons,List.not_mem_nil,or_false]at hz;rcases hz with rfl|rfl<;>exact⟨by decide,by decide,by decide⟩
theorem yn:(eA Dz).2.2=0:=by decide+kernel
theorem MG:Om Dz:=by refine⟨RJ,by decide,by decide,by decide,by decide,by decide,by decide,fun r hr=>?_⟩;simp only[Dz,U4,List.mem_cons,List.not_mem_nil,or_false]at hr;subst hr;exact(by decide:2≤1000)
theorem uD(k:Int)(t:Bytes)(i c s:Int)(l:List av)(hk:jJ k)(ht:t.length≤100)(hi:jJ i)(hc:jJ c)(hs:jJ s)(hl:l=[]∨l=Cp):(pe k t i c s l).Ok∧(pe k t i c s l).calls.length≤1000:=by
 have h1:100≤maxLen:=by decide
 have hl2:l.length≤2∧∀y∈l,y.Ok:=by
  rcases hl with rfl|rfl
  ·exact⟨by decide,fun _ h=>by cases h⟩
  ·refine⟨by decide,fun z hz=>?_⟩;simp only[Cp,List.mem_cons,List.not_mem_nil,or_false]at hz;rcases hz with rfl|rfl<;>exact⟨by decide,by decide,by decide⟩
 refine⟨⟨by show jJ 0;decide,by show jJ 1;decide,by show jJ 0;decide,by show jJ 10;decide,hk,by show t.length≤maxLen;omega,by show jJ 0;decide,hi,hc,hs,by show jJ 0;decide,⟨by show l.length≤maxLen;omega,hl2.2⟩⟩,by show l.length≤1000;omega⟩
theorem E3{p:PV}{A B:aj}(hp:Dx p A):bV [p,B.pv]=bV [A.pv,B.pv]:=by simp only[bV,jH,hp.hA,hp.h0,hp.h1,hp.h2,hp.h3,hp.h4,hp.h5,hp.h6,hp.h7,hp.h8,qM,rI,rJ,rK,rL,rM,rN,rO,rP,rQ,U]
theorem qS{q:PV}{m:iM}(hq:mZ q m)(hm:m.Ok∧m.calls.length≤1000){v:PV}(h:B2 Dz m=v):aY [.agg [cell eW 0,cell eW 1,cell eW 2,cell eW 3,cell eW 4,cell eW 5,cell eW 6,cell eW 7,cell eW 8],q]=some v:=(Kq MF hq).trans ((Kp Dz m MG hm.1 hm.2).trans (by rw[h]))
def exL:aj:=U4 [⟨0,0,0,[116,48],0,false,false,[⟨0,160,160,true,false⟩,⟨1,260,260,false,true⟩]⟩]
def Ow:aj:=U4 [⟨0,0,0,[116,48],0,false,true,Cp⟩]
def exD:aj:=U4 [⟨0,0,0,[116,48],0,false,false,Cp⟩,⟨-1,0,0,[120],0,false,false,Cp⟩]
theorem RL{m:iM}{N:aj}(h1:gT m=0)(h2:EJ Dz m=(N,0)):B2 Dz m=.bj [N.pv,.int .i64 0]:=by unfold B2 aPV;rw[if_pos yn,if_pos h1,h2];rfl
theorem RM{m:iM}{N:aj}{e:Int}(h1:gT m=0)(h2:EJ Dz m=(N,e))(he:e≠0):B2 Dz m=.bj [z9,.int .i64 e]:=by unfold B2 aPV;rw[if_pos yn,if_pos h1,h2,if_neg he]
theorem abp:mZ (.agg [cell (aH 1 [116,48]) 0,cell (aH 1 [116,48]) 1,cell (aH 1 [116,48]) 2,cell (aH 1 [116,48]) 3,cell (aH 1 [116,48]) 4,cell (aH 1 [116,48]) 5,cell (aH 1 [116,48]) 6,cell (aH 1 [116,48]) 7,cell (aH 1 [116,48]) 8,.int .i64 60,cell (aH 1 [116,48]) 10,cell (aH 1 [116,48]) 11,cell (aH 1 [116,48]) 12]) (pe 1 [116,48] 0 0 60 []):=⟨rfl,rfl,rfl,rfl,rfl,rfl,rfl,rfl,rfl,rfl,rfl,rfl,rfl,rfl⟩
theorem abq:(pe 1 [116,48] 0 0 60 []).Ok∧(pe 1 [116,48] 0 0 60 []).calls.length≤1000:=uD _ _ _ _ _ _ (by decide) (by decide) (by decide) (by decide) (by decide) (.inl rfl)
theorem abr:aY [.agg [cell eW 0,cell eW 1,cell eW 2,cell eW 3,cell eW 4,cell eW 5,cell eW 6,cell eW 7,cell eW 8],.agg [cell (aH 1 [116,48]) 0,cell (aH 1 [116,48]) 1,cell (aH 1 [116,48]) 2,cell (aH 1 [116,48]) 3,cell (aH 1 [116,48]) 4,cell (aH 1 [116,48]) 5,cell (aH 1 [116,48]) 6,cell (aH 1 [116,48]) 7,cell (aH 1 [116,48]) 8,.int .i64 60,cell (aH 1 [116,48]) 10,cell (aH 1 [116,48]) 11,cell (aH 1 [116,48]) 12]]=some (.bj [exL.pv,.int .i64 0]):=qS abp abq (RL (by decide+kernel) (by kernel_rfl))
theorem RN:mZ (.agg [cell (aH 2 [116,48]) 0,cell (aH 2 [116,48]) 1,cell (aH 2 [116,48]) 2,cell (aH 2 [116,48]) 3,cell (aH 2 [116,48]) 4,cell (aH 2 [116,48]) 5,cell (aH 2 [116,48]) 6,cell (aH 2 [116,48]) 7,cell (aH 2 [116,48]) 8,cell (aH 2 [116,48]) 9,cell (aH 2 [116,48]) 10,cell (aH 2 [116,48]) 11,cell (aH 2 [116,48]) 12]) (pe 2 [116,48] 0 0 0 []):=⟨rfl,rfl,rfl,rfl,rfl,rfl,rfl,rfl,rfl,rfl,rfl,rfl,rfl,rfl⟩
theorem RO:(pe 2 [116,48] 0 0 0 []).Ok∧(pe 2 [116,48] 0 0 0 []).calls.length≤1000:=uD _ _ _ _ _ _ (by decide) (by decide) (by decide) (by decide) (by decide) (.inl rfl)
theorem abt:aY [.agg [cell eW 0,cell eW 1,cell eW 2,cell eW 3,cell eW 4,cell eW 5,cell eW 6,cell eW 7,cell eW 8],.agg [cell (aH 2 [116,48]) 0,cell (aH 2 [116,48]) 1,cell (aH 2 [116,48]) 2,cell (aH 2 [116,48]) 3,cell (aH 2 [116,48]) 4,cell (aH 2 [116,48]) 5,cell (aH 2 [116,48]) 6,cell (aH 2 [116,48]) 7,cell (aH 2 [116,48]) 8,cell (aH 2 [116,48]) 9,cell (aH 2 [116,48]) 10,cell (aH 2 [116,48]) 11,cell (aH 2 [116,48]) 12]]=some (.bj [Ow.pv,.int .i64 0]):=qS RN RO (RL (by decide+kernel) (by kernel_rfl))
theorem abu:mZ (.agg [cell (aH 1 [116,48]) 0,cell (aH 1 [116,48]) 1,cell (aH 1 [116,48]) 2,cell (aH 1 [116,48]) 3,cell (aH 1 [116,48]) 4,cell (aH 1 [116,48]) 5,cell (aH 1 [116,48]) 6,.int .i64 1,cell (aH 1 [116,48]) 8,cell (aH 1 [116,48]) 9,cell (aH 1 [116,48]) 10,cell (aH 1 [116,48]) 11,cell (aH 1 [116,48]) 12]) (pe 1 [116,48] 1 0 0 []):=⟨rfl,rfl,rfl,rfl,rfl,rfl,rfl,rfl,rfl,rfl,rfl,rfl,rfl,rfl⟩
theorem abv:(pe 1 [116,48] 1 0 0 []).Ok∧(pe 1 [116,48] 1 0 0 []).calls.length≤1000:=uD _ _ _ _ _ _ (by decide) (by decide) (by decide) (by decide) (by decide) (.inl rfl)
theorem abw:aY [.agg [cell eW 0,cell eW 1,cell eW 2,cell eW 3,cell eW 4,cell eW 5,cell eW 6,cell eW 7,cell eW 8],.agg [cell (aH 1 [116,48]) 0,cell (aH 1 [116,48]) 1,cell (aH 1 [116,48]) 2,cell (aH 1 [116,48]) 3,cell (aH 1 [116,48]) 4,cell (aH 1 [116,48]) 5,cell (aH 1 [116,48]) 6,.int .i64 1,cell (aH 1 [116,48]) 8,cell (aH 1 [116,48]) 9,cell (aH 1 [116,48]) 10,cell (aH 1 [116,48]) 11,cell (aH 1 [116,48]) 12]]=some (.bj [z9,.int .i64 16]):=qS abu abv (RM (N:=Dz) (by decide+kernel) (by kernel_rfl) (by decide))
theorem abx:mZ (.agg [cell (aH 1 [116,48]) 0,cell (aH 1 [116,48]) 1,cell (aH 1 [116,48]) 2,cell (aH 1 [116,48]) 3,cell (aH 1 [116,48]) 4,cell (aH 1 [116,48]) 5,cell (aH 1 [116,48]) 6,.int .i64 0,.int .i64 2,cell (aH 1 [116,48]) 9,cell (aH 1 [116,48]) 10,cell (aH 1 [116,48]) 11,cell (aH 1 [116,48]) 12]) (pe 1 [116,48] 0 2 0 []):=⟨rfl,rfl,rfl,rfl,rfl,rfl,rfl,rfl,rfl,rfl,rfl,rfl,rfl,rfl⟩
theorem aby:(pe 1 [116,48] 0 2 0 []).Ok∧(pe 1 [116,48] 0 2 0 []).calls.length≤1000:=uD _ _ _ _ _ _ (by decide) (by decide) (by decide) (by decide) (by decide) (.inl rfl)
theorem abz:aY [.agg [cell eW 0,cell eW 1,cell eW 2,cell eW 3,cell eW 4,cell eW 5,cell eW 6,cell eW 7,cell eW 8],.agg [cell (aH 1 [116,48]) 0,cell (aH 1 [116,48]) 1,cell (aH 1 [116,48]) 2,cell (aH 1 [116,48]) 3,cell (aH 1 [116,48]) 4,cell (aH 1 [116,48]) 5,cell (aH 1 [116,48]) 6,.int .i64 0,.int .i64 2,cell (aH 1 [116,48]) 9,cell (aH 1 [116,48]) 10,cell (aH 1 [116,48]) 11,cell (aH 1 [116,48]) 12]]=some (.bj [z9,.int .i64 9]):=qS abx aby (RM (N:=Dz) (by decide+kernel) (by kernel_rfl) (by decide))
theorem abA:mZ (.agg [cell (aH 5 [120]) 0,cell (aH 5 [120]) 1,cell (aH 5 [120]) 2,cell (aH 5 [120]) 3,cell (aH 5 [120]) 4,cell (aH 5 [120]) 5,cell (aH 5 [120]) 6,cell (aH 5 [120]) 7,cell (aH 5 [120]) 8,cell (aH 5 [120]) 9,cell (aH 5 [120]) 10,cell (aH 5 [120]) 11,.rs 5 (Cp.map av.pv)]) (pe 5 [120] 0 0 0 Cp):=⟨rfl,rfl,rfl,rfl,rfl,rfl,rfl,rfl,rfl,rfl,rfl,rfl,rfl,rfl⟩
theorem abB:(pe 5 [120] 0 0 0 Cp).Ok∧(pe 5 [120] 0 0 0 Cp).calls.length≤1000:=uD _ _ _ _ _ _ (by decide) (by decide) (by decide) (by decide) (by decide) (.inr rfl)
theorem abC:aY [.agg [cell eW 0,cell eW 1,cell eW 2,cell eW 3,cell eW 4,cell eW 5,cell eW 6,cell eW 7,cell eW 8],.agg [cell (aH 5 [120]) 0,cell (aH 5 [120]) 1,cell (aH 5 [120]) 2,cell (aH 5 [120]) 3,cell (aH 5 [120]) 4,cell (aH 5 [120]) 5,cell (aH 5 [120]) 6,cell (aH 5 [120]) 7,cell (aH 5 [120]) 8,cell (aH 5 [120]) 9,cell (aH 5 [120]) 10,cell (aH 5 [120]) 11,.rs 5 (Cp.map av.pv)]]=some (.bj [exD.pv,.int .i64 0]):=qS abA abB (RL (by decide+kernel) (by kernel_rfl))
theorem U5:mZ (.agg [cell (aH 5 [120]) 0,cell (aH 5 [120]) 1,cell (aH 5 [120]) 2,cell (aH 5 [120]) 3,cell (aH 5 [120]) 4,.str [116,48],cell (aH 5 [120]) 6,cell (aH 5 [120]) 7,cell (aH 5 [120]) 8,cell (aH 5 [120]) 9,cell (aH 5 [120]) 10,cell (aH 5 [120]) 11,.rs 5 (Cp.map av.pv)]) (pe 5 [116,48] 0 0 0 Cp):=⟨rfl,rfl,rfl,rfl,rfl,rfl,rfl,rfl,rfl,rfl,rfl,rfl,rfl,rfl⟩
theorem RP:(pe 5 [116,48] 0 0 0 Cp).Ok∧(pe 5 [116,48] 0 0 0 Cp).calls.length≤1000:=uD _ _ _ _ _ _ (by decide) (by decide) (by decide) (by decide) (by decide) (.inr rfl)
theorem abD:aY [.agg [cell eW 0,cell eW 1,cell eW 2,cell eW 3,cell eW 4,cell eW 5,cell eW 6,cell eW 7,cell eW 8],.agg [cell (aH 5 [120]) 0,cell (aH 5 [120]) 1,cell (aH 5 [120]) 2,cell (aH 5 [120]) 3,cell (aH 5 [120]) 4,.str [116,48],cell (aH 5 [120]) 6,cell (aH 5 [120]) 7,cell (aH 5 [120]) 8,cell (aH 5 [120]) 9,cell (aH 5 [120]) 10,cell (aH 5 [120]) 11,.rs 5 (Cp.map av.pv)]]=some (.bj [z9,.int .i64 6]):=qS U5 RP (RM (N:=Dz) (by decide+kernel) (by kernel_rfl) (by decide))
theorem Ks:bV [.agg [cell eW 0,cell eW 1,cell eW 2,cell eW 3,cell eW 4,cell eW 5,cell eW 6,cell eW 7,cell eW 8],.agg [cell Ow.pv 0,cell Ow.pv 1,cell Ow.pv 2,cell Ow.pv 3,cell Ow.pv 4,cell Ow.pv 5,cell Ow.pv 6,cell Ow.pv 7,cell Ow.pv 8]]=some (.rs 1 [.int .i64 0]):=by refine(E3 (B:=Ow) MF).trans ((E2 Dz Ow ⟨by decide,fun x hx=>RJ.runs.2 x hx|>.calls.1⟩ (by decide)).trans ?_);kernel_rfl
theorem Ox:br [.agg [cell eW 0,cell eW 1,cell eW 2,cell eW 3,cell eW 4,cell eW 5,cell eW 6,cell eW 7,cell eW 8],.agg [cell (aH 2 [116,48]) 0,cell (aH 2 [116,48]) 1,cell (aH 2 [116,48]) 2,cell (aH 2 [116,48]) 3,cell (aH 2 [116,48]) 4,cell (aH 2 [116,48]) 5,cell (aH 2 [116,48]) 6,cell (aH 2 [116,48]) 7,cell (aH 2 [116,48]) 8,cell (aH 2 [116,48]) 9,cell (aH 2 [116,48]) 10,cell (aH 2 [116,48]) 11,cell (aH 2 [116,48]) 12]]=some (.bj [.int .i64 0,.bool true]):=(zn MF RN).trans ((pF Dz _ (by decide)).trans (by kernel_rfl))
theorem W9:e9 [.agg [cell eW 0,cell eW 1,cell eW 2,cell eW 3,cell eW 4,cell eW 5,cell eW 6,cell eW 7,cell eW 8],.rs 13 [.agg [cell (aH 5 [120]) 0,cell (aH 5 [120]) 1,cell (aH 5 [120]) 2,cell (aH 5 [120]) 3,cell (aH 5 [120]) 4,.str [116,48],cell (aH 5 [120]) 6,cell (aH 5 [120]) 7,cell (aH 5 [120]) 8,cell (aH 5 [120]) 9,cell (aH 5 [120]) 10,cell (aH 5 [120]) 11,.rs 5 (Cp.map av.pv)],.agg [cell (aH 2 [116,48]) 0,cell (aH 2 [116,48]) 1,cell (aH 2 [116,48]) 2,cell (aH 2 [116,48]) 3,cell (aH 2 [116,48]) 4,cell (aH 2 [116,48]) 5,cell (aH 2 [116,48]) 6,cell (aH 2 [116,48]) 7,cell (aH 2 [116,48]) 8,cell (aH 2 [116,48]) 9,cell (aH 2 [116,48]) 10,cell (aH 2 [116,48]) 11,cell (aH 2 [116,48]) 12]]]=some (.bj [Ow.pv,.rs 1 [.int .i64 6,.int .i64 0]]):=by
 refine(RG _ _ Dz [pe 5 [116,48] 0 0 0 Cp,pe 2 [116,48] 0 0 0 []] MF rfl (fun k hk=>?_) MG yn (by decide) (by decide) ?_ ?_).trans ?_
 ·match k,hk with
  |0,_=>exact⟨_,rfl,U5⟩
  |1,_=>exact⟨_,rfl,RN⟩
 ·intro m hm;simp only[List.mem_cons,List.not_mem_nil,or_false]at hm;rcases hm with rfl|rfl
  ·exact RP.1
  ·exact RO.1
 ·intro m hm;simp only[List.mem_cons,List.not_mem_nil,or_false]at hm;rcases hm with rfl|rfl
  ·exact RP.2
  ·exact RO.2
 ·kernel_rfl
theorem ad8:asAgg 9 z9=some ():=rfl
theorem RQ:c9 []=some (.bool true):=by simp only[c9,jU,iF,W7,TV,Kr,abo,W8,U,ab,if_true,abr,abt,abw,abz,abC,abD,bY,List.length_cons,List.length_nil,Nat.reduceAdd,List.getD_cons_zero,List.getD_cons_succ,asInt,qM,ad8,Ox,W9,Ks];kernel_rfl
end Go.Ab.Tt
namespace Go.Ab.Tt
set_option maxRecDepth 100000
set_option linter.unusedVariables false
set_option linter.unusedSimpArgs false
theorem Kt{l:List aF}(h:(fm l).2=0):l.length≤64:=by
 unfold fm at h;by_cases sA:l.length>64
 ·rw[if_pos sA]at h;cases h
 ·omega
theorem Oy{l:List aZ}{a b c:Int}(h:(dF l a b c).2=0):l.length≤16:=by
 unfold dF at h;split at h
 ·cases h
 ·by_cases h16:l.length>16
  ·rw[if_pos h16]at h;cases h
  ·omega
def B4(N:aj):Bool:= !(decide ((N.stops.length:Int)>5)||decide ((N.runs.length:Int)>7)||decide ((N.aq.length:Int)>30)||decide ((N.paths.length:Int)>60))&&(!((List.range N.runs.length).any fun k=>(N.runs[k]?).elim false fun r=>decide ((r.calls.length:Int)>6))&&decide ((eA N).2.2=0))
theorem RR(N:aj)(h:N.Ok):jA [N.pv]=some (.bool (B4 N)):=by
 have hm:=bg;have hr:=h.runs.1;simp only[jA,tx,qM,rI,rJ,rK,rL,rM,rN,rO,rP,rQ,U,bu,List.length_map];unfold B4;by_cases hc:(decide ((N.stops.length:Int)>5)||decide ((N.runs.length:Int)>7)||decide ((N.aq.length:Int)>30)||decide ((N.paths.length:Int)>60))=true
 ·rw[if_pos hc,hc];rfl
 ·rw[if_neg hc];have OS:(decide ((N.stops.length:Int)>5)||decide ((N.runs.length:Int)>7)||decide ((N.aq.length:Int)>30)||decide ((N.paths.length:Int)>60))=false:=by simpa using hc
  rw[OS,Bool.not_false,Bool.true_and];refine(oG (fun k=>((k:Int),N.stops.map Stop.pv,N.ai.map aF.pv,N.runs.map cn.pv,N.aq.map aN.pv,N.paths.map Path.pv,N.aM.map aZ.pv,N.bd,N.within,N.cap,())) N.runs.length (fun k=>(N.runs[k]?).elim false fun r=>decide ((r.calls.length:Int)>6)) (no:=some (.bool false)) (fin:=some (.bool (decide ((eA N).2.2=0)))) (fun k hk rec=>?_) (fun rec=>?_) (by have:=aU;omega) rfl).trans ?_
  ·unfold oT;dsimp only;rw[List.length_map,if_pos (by rw[decide_eq_true_eq];omega),aK,List.getElem?_map,List.getElem?_eq_getElem hk];simp only[Option.map_some,U,Gu,ab,if_true,List.length_map,ao (show k<9223372036854775807 by omega),Option.elim];rfl
  ·unfold oT;dsimp only;rw[List.length_map,if_neg (by simp)];have hp:N.paths.length≤4096:=by simp only[Bool.or_eq_false_iff,decide_eq_false_iff_not]at OS;omega
   simp only[xO,Rt N h hp,U,asBool]
  ·cases((List.range N.runs.length).any fun k=>(N.runs[k]?).elim false fun r=>decide ((r.calls.length:Int)>6))<;>rfl
theorem Oz{N:aj}(h:B4 N=true):N.runs.length≤7∧N.paths.length≤60∧(eA N).2.2=0∧(N.Ok→Om N):=by
 unfold B4 at h;simp only[Bool.and_eq_true,Bool.not_eq_true',Bool.or_eq_false_iff,decide_eq_false_iff_not,decide_eq_true_eq]at h;obtain⟨⟨⟨⟨h1,h2⟩,h3⟩,h4⟩,h7,hv⟩:=h;have se:∀r∈N.runs,r.calls.length≤6:=fun r hr=>by obtain⟨k,hk,rfl⟩:=List.getElem_of_mem hr;rw[List.any_eq_false]at h7;have:=h7 k (by simpa using hk);rw[List.getElem?_eq_getElem hk]at this;simp only[Option.elim,decide_eq_true_eq]at this;omega
 have hz:=(mC N).1 hv;have r1:=Kt hz.2.1;have r2:=Oy hz.2.2.2.2.2;exact⟨by omega,by omega,hv,fun ho=>⟨ho,by omega,by omega,by omega,by omega,by omega,by omega,fun r hr=>by have:=se r hr;omega⟩⟩
theorem Hd(N:aj)(m:iM)(h:N.Ok)(hm:m.Ok):dR [N.pv,m.pv]=some (.bool true):=by
 have O1:1000≤maxLen:=by decide
 simp only[dR,iG,qM,rI,rJ,rK,rL,rM,rN,rO,rP,rQ,U,xO,RR N h];simp only[EL,EM,EN,EO,EP,ER,ES,ET,EU,EV,EW,wW,wX,Dr,U,asInt,bx,ab,if_true,asBool,TP,bu,RQ];by_cases hc:(!B4 N||decide ((m.dv.length:Int)>1024))=true
 ·rw[if_pos hc]
 ·rw[if_neg hc];simp only[Bool.or_eq_true,not_or,Bool.not_eq_true',Bool.not_eq_false]at hc;obtain⟨hr,_,hv,hl⟩:=Oz hc.1;have h1:=pF N m (by omega);have h2:=Kn N m (by omega);rw[h1,h2];unfold Dt TT;cases zU N.runs m with
  |none=>rfl
  |some k=>simp only[U,bY,List.length_cons,List.length_nil,Nat.reduceAdd,List.getD_cons_zero,List.getD_cons_succ,if_true,asInt,asBool];rw[if_neg (by rw[decide_eq_true_eq];omega)];simp only[beq_self_eq_true,cond_true,U];rfl
end Go.Ab.Tt
