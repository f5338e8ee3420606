import Derived.Test.YtcmhmlnkhmefbaaGreatOvZ1
import Derived.Test.YtcmhmlnkhmefbaaGreatSh3
import Derived.Test.YtcmhmlnkhmefbaaGreatNkP2
namespace Go.Ab.Tt
set_option maxRecDepth 100000
set_option linter.unusedVariables false
set_option linter.unusedSimpArgs false
def Dc(ms:List PV)(len k:Int)(N:ag)(er:List PV):=(ms,(0:Int),len,k,(0:Int),(0:Int),(0:Int),N.aR,N.within,N.cap,er,N.stops.map Stop.pv,N.af.map ax.pv,N.runs.map bq.mW,N.ah.map aC.pv,N.paths.map Path.pv,N.au.map aS.pv,())
def E1(ms:List PV)(len kk:Int)(er:List PV)(N:ag)(i c:Nat)(a:Int)(k:Nat)(out:List PV):=((i:Int),(c:Int),a,((N.runs[i]?).elim 0 fun r=>(r.calls.length:Int)),(k:Int),(i:Int),ms,(0:Int),len,kk,N.runs.map bq.mW,out,N.aR,N.within,N.cap,(0:Int),(0:Int),(0:Int),er,N.stops.map Stop.pv,N.af.map ax.pv,N.ah.map aC.pv,N.paths.map Path.pv,N.au.map aS.pv,())
theorem II(er:List PV)(h:er.length≤1000)(x:PV):(er++[x]).length*8≤aa∧0<8:=by
 have:1001*8≤aa:=by decide
 refine⟨?_,by decide⟩;rw[List.length_append,List.length_singleton];omega
theorem Z4(ms:List PV)(len:Int)(kk:Nat)(yU:kk<1000)(er:List PV)(Z5:er.length≤1000)(cV:_→Option PV)(N:ag)(h:Dv N)(i c:Nat)(hi:i<N.runs.length)(hc:c<N.runs[i].calls.length)(ho:ot N.runs[i].calls=true)(a:Int)(h0:0≤a)(h1:a≤8000000000):bI.run (fE bI cV) (E1 ms len kk er N i c a 0 (N.runs[i].calls.map ao.pv))=match fb (N.runs[i].calls.drop c) a with|some r=>cV (Dc ms len (kk+1:Nat) (Gp N i (N.runs[i].calls.take c++r)) (er++[.int .i64 0]))|none=>cV (Dc ms len (kk+1:Nat) N (er++[.int .i64 10])):=by
 have hlen:=h.calls N.runs[i] (List.getElem_mem hi);have T9:1003<rounds:=by decide
 have im:=kU ho;have JW:=II er Z5;have hrT:∀x,((er++[x]).length*8≤aa∧0<8)=True:=fun x=>eq_true (JW x);have Ub:IntKind.i64.wrap ((kk:Int)+1)=((kk+1:Nat):Int):=ak (by omega);refine(Db (E1 ms len kk er N i c) N.runs[i].calls c (cV (Dc ms len (kk+1:Nat) N (er++[.int .i64 10]))) (fun out=>cV (ms,0,len,((kk+1:Nat):Int),0,0,0,N.aR,N.within,N.cap,er++[.int .i64 0],N.stops.map Stop.pv,N.af.map ax.pv,(N.runs.map bq.mW).set i (.agg [.int .i64 N.runs[i].cX,.int .i64 N.runs[i].day,.int .i64 N.runs[i].inst,.str N.runs[i].id,.int .i64 N.runs[i].bd,.bool N.runs[i].free,.bool N.runs[i].rj,.cK 5 out]),N.ah.map aC.pv,N.paths.map Path.pv,N.au.map aS.pv,())) (fun k a out rec hk iM=>?_) (fun k a pre rec hk iM hp Rr XQ=>?_) (fun a out rec=>?_) im (se ho) hc (by omega) a h0 h1).trans ?_
 ·unfold E1 fE;dsimp only;rw[List.getElem?_eq_getElem hi,Option.elim_some,if_pos (by rw[decide_eq_true_eq];omega),if_pos (by rw[decide_eq_true_eq];omega),ak (by omega),Int.toNat_natCast]
 ·obtain⟨d0,d1⟩:=pZ (im k iM);obtain⟨s0,s1,s2⟩:=im k iM;have hlm:=ig;have hol:=IA pre N.runs[i].calls k hp (by omega);have YJ:∀x,((outs pre N.runs[i].calls k).set k x).length=N.runs[i].calls.length:=fun x=>by rw[List.length_set,hol]
  unfold E1 fE;dsimp only;rw[List.getElem?_eq_getElem hi,Option.elim_some,if_pos (by rw[decide_eq_true_eq];omega),if_neg (by rw[decide_eq_true_eq];omega)];simp only[Int.toNat_natCast,l5 _ _ hi,U,Da,List.length_map,gU k _ iM,if_true,List.getElem?_map,List.getElem?_eq_getElem iM,Option.map_some,hol,IB pre _ k hp iM,kI2,OY,C8 (im k iM),E0,XR,XS,YJ,IE _ _ _ (show k<(outs pre N.runs[i].calls k).length by omega),List.set_set,wrap_small (show-100000000000≤a+fa N.runs[i].calls[k] by omega) (show a+fa N.runs[i].calls[k]≤100000000000 by omega),XT,OZ,ak (show k<9223372036854775807 by omega),IC pre _ k hp iM,decide_eq_true_eq,hrT,Ub,if_true];have dK:=C9 (im k iM) Rr XQ;by_cases ov:(late N.runs[i].calls[k] a).dep>gC
  ·rw[if_pos (show(late N.runs[i].calls[k] a).dep>3155932800 by omega),if_pos ov];rfl
  ·rw[if_neg (show¬(late N.runs[i].calls[k] a).dep>3155932800 by omega),if_neg ov];by_cases hn:k+1<N.runs[i].calls.length
   ·obtain⟨n0,n1⟩:=vK (im k iM) (im (k+1) hn) (se ho k hn) Rr ov;obtain⟨t0,t1,t2⟩:=im (k+1) hn;rw[if_pos (by omega),dif_pos hn,if_pos (gU _ _ hn),List.getElem?_eq_getElem hn];simp only[Option.map_some,U,kI1];rw[wrap_small (x:=N.runs[i].calls[k+1].arr+(late N.runs[i].calls[k] a).dep) (by omega) (by omega),wrap_small (by omega) (by omega)]
   ·rw[if_neg (by omega),dif_neg hn]
 ·unfold E1 fE;dsimp only;rw[List.getElem?_eq_getElem hi,Option.elim_some,if_neg (by simp)];simp only[Int.toNat_natCast,l5 _ _ hi,U,T5 _ _ hi,if_true,T6,hrT,Ub,if_true]
 ·cases fb (N.runs[i].calls.drop c) a with
  |none=>rfl
  |some r=>simp only[qd,←List.map_set];simp only[Gp,List.getElem?_eq_getElem hi];rfl
def Uc(ms:List PV)(len kk:Int)(er:List PV)(N:ag)(i:Nat)(runs:List PV)(j k:Nat)(x:List PV):=((j:Int),(k:Int),ms,(0:Int),len,kk,x,(i:Int),N.aR,N.within,N.cap,(0:Int),(0:Int),(0:Int),er,N.stops.map Stop.pv,N.af.map ax.pv,runs,N.paths.map Path.pv,N.au.map aS.pv,())
theorem Z6(ms:List PV)(len:Int)(kk:Nat)(yU:kk<1000)(er:List PV)(Z5:er.length≤1000)(cV:_→Option PV)(N:ag)(h:Dv N)(i:Nat)(runs:List PV):bI.run (l6 bI cV) ((N.ah.length:Int),0,ms,0,len,(kk:Int),N.ah.map aC.pv,(i:Int),N.aR,N.within,N.cap,0,0,0,er,N.stops.map Stop.pv,N.af.map ax.pv,runs,N.paths.map Path.pv,N.au.map aS.pv,())=cV (ms,0,len,((kk+1:Nat):Int),0,0,0,N.aR,N.within,N.cap,er++[.int .i64 0],N.stops.map Stop.pv,N.af.map ax.pv,runs,(N.ah.filter (IF i)).map aC.pv,N.paths.map Path.pv,N.au.map aS.pv,()):=by
 have hk:=h.ah;have T9:1003<rounds:=by decide
 have JW:=II er Z5;have hrT:∀x,((er++[x]).length*8≤aa∧0<8)=True:=fun x=>eq_true (JW x);have Ub:IntKind.i64.wrap ((kk:Int)+1)=((kk+1:Nat):Int):=ak (by omega);refine T3 (fun k=>((N.ah.length:Int),(k:Int),ms,(0:Int),len,(kk:Int),N.ah.map aC.pv,(i:Int),N.aR,N.within,N.cap,(0:Int),(0:Int),(0:Int),er,N.stops.map Stop.pv,N.af.map ax.pv,runs,N.paths.map Path.pv,N.au.map aS.pv,())) (Uc ms len kk er N i runs) (body3:=l7 bI cV) N.ah (IF i) (fun x=>cV (ms,0,len,((kk+1:Nat):Int),0,0,0,N.aR,N.within,N.cap,er++[.int .i64 0],N.stops.map Stop.pv,N.af.map ax.pv,runs,x,N.paths.map Path.pv,N.au.map aS.pv,())) (fun j k x rec iM hx hj hg=>?_) (fun j x rec hx hj=>?_) (fun k rec iM=>?_) (fun rec=>?_) (by omega)
 ·unfold Uc l7;dsimp only;rw[if_pos (by rw[decide_eq_true_eq];omega),if_pos (gU _ _ (by omega)),Int.toNat_natCast,hg];simp only[U,Gq,vM,asBool,Bool.not_not,ak (show k<9223372036854775807 by omega),ak (show j<9223372036854775807 by omega),gU j x.length (by omega),if_true,Int.toNat_natCast,List.getElem?_eq_getElem (show j<x.length by omega)]
 ·unfold Uc l7;dsimp only;rw[if_neg (by rw[hx];simp)];simp only[Int.toNat_natCast,Int.toNat_zero,Nat.sub_zero,List.drop_zero];rw[if_pos (by exact⟨by omega,by omega,by omega,trivial⟩),if_pos (by exact⟨trivial,trivial,by omega,by omega⟩),if_pos (by refine⟨by omega,by omega,?_,trivial⟩;simp only[List.length_append,List.length_take,List.length_replicate,List.length_drop];omega)];rw[if_pos (JW _),Ub,List.take_append_of_le_length (by simp;omega),List.take_take,Nat.min_self]
 ·unfold l6;dsimp only;rw[if_pos (by rw[decide_eq_true_eq];omega),if_pos (gU _ _ (by simpa using iM)),Int.toNat_natCast,List.getElem?_map,List.getElem?_eq_getElem iM];simp only[Option.map_some,U,Gq,vM,asBool,ak (show k<9223372036854775807 by omega),dU];cases hp:IF i N.ah[k]with
  |true=>simp only[Bool.not_true,Bool.false_eq_true,if_false,if_true]
  |false=>simp only[Bool.not_false,if_true,Bool.false_eq_true,if_false];rw[if_neg (by rw[decide_eq_true_eq];omega)];rfl
 ·unfold l6;dsimp only;rw[if_neg (by simp),if_pos (JW _),Ub]
theorem Ud(ms:List PV)(len:Int)(kk:Nat)(yU:kk<1000)(er:List PV)(Z5:er.length≤1000)(cV:_→Option PV)(l:List eZ)(hl:l.length<1000)(q:PV)(afN:aQ ms (kk:Int)=some q)(hlen:len=(l.length:Int))(iM:kk<l.length)(N:ag)(h:Dv N)(FI:∀m∈l,m.Ok)(hv:(dg N).2.2=0)(O4:∀m∈l,m.calls.length≤1000)(hL:nu q l[kk]):jc bI (Dc ms len kk N er) cV=cV (Dc ms len (kk+1:Nat) (if eM l[kk]=0 then(if(Bi N l[kk]).2=0 then(Bi N l[kk]).1 else N)else N) (er++[.int .i64 (if eM l[kk]=0 then(Bi N l[kk]).2 else eM l[kk])])):=by
 have JW:=II er Z5;have hrT:∀x,((er++[x]).length*8≤aa∧0<8)=True:=fun x=>eq_true (JW x);have Ub:IntKind.i64.wrap ((kk:Int)+1)=((kk+1:Nat):Int):=ak (by omega);have hm:=FI _ (List.getElem_mem iM);have hc:=O4 _ (List.getElem_mem iM);have bu:decide ((kk:Int)<len)=true:=by rw[decide_eq_true_eq];omega
 generalize l[kk]=m at hm hc hL⊢;have hmk:=(IH hL.agg).trans (Iw m hm);have hr:=h.runs;have ht:=u7 N m (by
  have:1000≤maxLen:=by decide
  omega)
 have Rm:PV.agg [cell q 0,cell q 1,cell q 2,cell q 3,cell q 4,cell q 5,cell q 6,cell q 7,cell q 8,cell q 9,cell q 10,cell q 11,cell q 12]=O2 q:=rfl;have ht:=(AA (O3 N) hL.agg).trans ht;conv=>lhs;unfold Dc jc
 dsimp only;rw[if_pos bu,afN];simp only[U,Rm,hmk,asInt,if_true,bne_self_eq_false,Bool.false_eq_true,if_false,gR,tu,ht];simp only[dU,decide_eq_true_eq];by_cases DF:eM m=0;case neg=>rw[if_neg DF,if_neg DF,if_neg DF,if_pos (JW _),Ub];rfl
 rw[if_pos DF,if_pos DF,if_pos DF];unfold Bi Iy;simp only[hL.h4,hL.h5,hL.h6,hL.h7,hL.h8,hL.h9,hL.GN,hL.Z1,hL.Z2,U];simp only[asInt,bh,ab,asBool,if_true,U,dU,decide_eq_true_eq,hrT,Ub,if_true];by_cases k5:m.kind=5
 ·simp only[k5,if_true];cases IG:yC N.runs m with
  |some i=>simp only[bA,List.length_cons,List.length_nil,Nat.reduceAdd,if_true,U,List.getD_cons_zero,List.getD_cons_succ,asInt,asBool,Option.isSome_some];rfl
  |none=>
   have eS:=oG m.calls N.stops.length 0 3155932800 hm.calls.1;simp only[res]at eS;have ZZ:=vL m.calls (by omega);simp only[bA,List.length_cons,List.length_nil,Nat.reduceAdd,if_true,U,List.getD_cons_zero,List.getD_cons_succ,asInt,asBool,Option.isSome_none,Bool.false_eq_true,if_false,List.length_map,aW,Bool.or_eq_true,decide_eq_true_eq,eS,l0];by_cases la:m.bd<0∨m.bd≥(N.af.length:Int)
   ·rw[if_pos la,if_pos la];rfl
   ·rw[if_neg la,if_neg la];by_cases he:(bj m.calls (N.stops.length:Int) 0 3155932800).2=0
    ·rw[if_pos he,if_neg (show¬((N.runs.length:Int)≥1024) by omega),ZZ];simp only[U,ab,if_true,he,ne_eq,not_true,if_false,if_neg (show¬(N.runs.length≥1024) by omega)];rw[if_pos (by
      have:101*80≤aa:=by decide
      rw[List.length_append,List.length_map,List.length_singleton];omega)]
     unfold Dc;rw[List.map_append];rfl
    ·rw[if_neg he,if_pos he];simp only[if_neg he];rfl
 ·simp only[if_neg k5];cases IG:yC N.runs m with
  |none=>simp only[bA,List.length_cons,List.length_nil,Nat.reduceAdd,if_true,U,List.getD_cons_zero,List.getD_cons_succ,asInt,asBool,Bool.not_false];rfl
  |some i=>
   obtain⟨hi,As,_⟩:=uX IG;have pq:ae (i:Int) N.runs.length:=⟨by omega,by omega⟩;have s9:=uN hv N.runs[i] (List.getElem_mem hi);simp only[bA,List.length_cons,List.length_nil,Nat.reduceAdd,if_true,U,List.getD_cons_zero,List.getD_cons_succ,asInt,asBool,Bool.not_true,Bool.false_eq_true,if_false,l5 _ _ hi,List.getElem?_eq_getElem hi,pq,Da,Int.toNat_natCast,List.length_map,aW,cT,Bool.or_eq_true,decide_eq_true_eq];have Rk:((decide (m.kind=1)||decide (m.kind=3))&&(decide (m.call<0)||decide (m.call≥(N.runs[i].calls.length:Int))))=decide ((m.kind=1∨m.kind=3)∧(m.call<0∨m.call≥(N.runs[i].calls.length:Int))):=by rw[Bool.eq_iff_iff];simp
   rw[Rk];simp only[decide_eq_true_eq];by_cases hn:(m.kind=1∨m.kind=3)∧(m.call<0∨m.call≥(N.runs[i].calls.length:Int))
   ·rw[if_pos hn,if_pos hn];rfl
   rw[if_neg hn,if_neg hn];by_cases k1:m.kind=1
   ·simp only[k1,if_true];have GP:¬(m.call<0∨m.call≥(N.runs[i].calls.length:Int)):=fun hh=>hn ⟨.inl k1,hh⟩;have afM:=not_or.1 GP;unfold prop;rw[if_neg GP,if_neg (show¬(m.call<0∨m.call≥(N.runs[i].calls.length:Int))from GP)];by_cases hs:m.bm< -43200∨m.bm>43200
    ·rw[if_pos hs,if_pos hs];rfl
    rw[if_neg hs,if_neg hs];obtain⟨c,BG⟩:∃c:Nat,m.call=(c:Int):=⟨m.call.toNat,by omega⟩;have tq:c<N.runs[i].calls.length:=by omega
    have hlen:=h.calls N.runs[i] (List.getElem_mem hi);have ho:=yn N.runs[i].calls (by
     have:1000≤maxLen:=by decide
     omega)
    have hrq:Pj (cell N.runs[i].mW 7)=some (.rs 5 (N.runs[i].calls.map ao.pv)):=rfl;simp only[hrq,U,ho,asBool];cases Z0:ot N.runs[i].calls with
    |false=>rfl
    |true=>
     have dh:0≤(N.runs[i].calls.length:Int)∧(N.runs[i].calls.length:Int)≤(N.runs[i].calls.length:Int)∧(N.runs[i].calls.length:Int).toNat*32≤aa∧0<32∧0<5:=by
      have:1000*32≤aa:=by decide
      refine⟨by omega,by omega,?_,by decide,by decide⟩;rw[Int.toNat_natCast];omega
     rw[if_neg (by decide),if_pos (by rw[Int.toNat_natCast]at dh;exact dh)];simp only[BG,Int.toNat_natCast];obtain⟨a1,a2⟩:=Gl Z0 tq (show-43200≤m.bm by omega) (show m.bm≤43200 by omega);have hA:=Z4 ms len kk yU er Z5 cV N h i c hi tq Z0 _ a1 (by omega);have U6:∀z:PV,List.take (List.replicate N.runs[i].calls.length z).length (N.runs[i].calls.map ao.pv)++List.drop N.runs[i].calls.length (List.replicate N.runs[i].calls.length z)=N.runs[i].calls.map ao.pv:=fun z=>by rw[List.length_replicate,List.take_of_length_le (by simp),List.drop_eq_nil_of_le (by simp),List.append_nil]
     have key:∀A,A=lr N.runs[i].calls c m.bm→bI.run (fE bI cV) ((i:Int),(c:Int),A,(N.runs[i].calls.length:Int),0,(i:Int),ms,0,len,(kk:Int),N.runs.map bq.mW,N.runs[i].calls.map ao.pv,N.aR,N.within,N.cap,0,0,0,er,N.stops.map Stop.pv,N.af.map ax.pv,N.ah.map aC.pv,N.paths.map Path.pv,N.au.map aS.pv,())=match fb (N.runs[i].calls.drop c) (lr N.runs[i].calls c m.bm)with|some r=>cV (Dc ms len (kk+1:Nat) (Gp N i (N.runs[i].calls.take c++r)) (er++[.int .i64 0]))|none=>cV (Dc ms len (kk+1:Nat) N (er++[.int .i64 10])):=by intro A tw;subst tw;unfold E1 at hA;rw[List.getElem?_eq_getElem hi]at hA;exact hA
     have hlm:=ig;obtain⟨s0,s1,s2⟩:=kU Z0 c tq;cases c with
     |zero=>rw[if_neg (by decide),if_pos (gU _ _ tq)];simp only[List.getElem?_map,List.getElem?_eq_getElem tq,Option.map_some,U,pN,asInt,if_true,U6];refine(key _ ?_).trans (by split<;>rename_i hx<;>simp only[hx,Gp,List.getElem?_eq_getElem hi]<;>rfl);rw[wrap_small (by omega) (by omega)];unfold lr;rw[List.getElem?_eq_getElem tq];simp only[eT,Option.map_some,Option.map_none,Option.getD_none,Option.getD_some];by_cases hx:N.runs[i].calls[0].arr+m.bm<0<;>simp[hx]
     |succ j=>
      have hj:j<N.runs[i].calls.length:=by omega
      rw[if_pos (by omega),mE j (by omega),if_pos (gU _ _ hj)];simp only[Int.toNat_natCast,List.getElem?_map,List.getElem?_eq_getElem hj,Option.map_some,U,pN,pO,asInt,if_true,U6,gU _ _ tq,List.getElem?_eq_getElem tq];refine(key _ ?_).trans (by split<;>rename_i hx<;>simp only[hx,Gp,List.getElem?_eq_getElem hi]<;>rfl);rw[wrap_small (by omega) (by omega)];unfold lr;rw[List.getElem?_eq_getElem tq];simp only[eT,List.getElem?_eq_getElem hj,Option.map_some,Option.getD_some]
   simp only[if_neg k1];by_cases k2:m.kind=2
   ·simp only[k2,if_true,l5 _ _ hi,U,T7,←List.map_set];rfl
   simp only[if_neg k2];by_cases k3:m.kind=3
   ·simp only[k3,if_true];have GP:=not_or.1 (fun hh=>hn ⟨.inr k3,hh⟩:¬(m.call<0∨m.call≥(N.runs[i].calls.length:Int)));obtain⟨c,BG⟩:∃c:Nat,m.call=(c:Int):=⟨m.call.toNat,by omega⟩;have tq:c<N.runs[i].calls.length:=by omega
    simp only[BG,Int.toNat_natCast,gU c _ tq,if_true,List.getElem?_map,List.getElem?_eq_getElem tq,Option.map_some,U,Mp,←List.map_set,ZY,List.length_set,List.length_map,pq,List.getElem?_set_self hi,Da,List.getElem?_set_self tq,Mq,List.set_set,gR];simp only[Ay,List.getElem?_eq_getElem tq];rfl
   simp only[if_neg k3];by_cases k4:m.kind=4
   ·simp only[k4,if_true];have eS:=oG m.calls N.stops.length 0 3155932800 hm.calls.1;simp only[res]at eS;have ZZ:=vL m.calls (by omega);simp only[eS,U,bA,List.length_cons,List.length_nil,Nat.reduceAdd,if_true,List.getD_cons_zero,List.getD_cons_succ,asInt,l0];by_cases he:(bj m.calls (N.stops.length:Int) 0 3155932800).2=0
    ·simp only[he,ZZ,U,ab,if_true,ne_eq,not_true,if_false];rw[Z6 ms len kk yU er Z5 cV N h i,T6,qd];rw[←List.map_set];rfl
    ·rw[if_neg he,if_pos he];simp only[if_neg he];rfl
   simp only[if_neg k4];rfl
def zs(N:ag)(m:eZ):ag:=if eM m=0 then(if(Bi N m).2=0 then(Bi N m).1 else N)else N
def Dd(N:ag)(m:eZ):Int:=if eM m=0 then(Bi N m).2 else eM m
def DN(N:ag)(er:List Int):List eZ→ag×List Int
 |[]=>(N,er)
 |m::l=>DN (zs N m) (er++[Dd N m]) l
theorem zt{N:ag}{m:eZ}(h:(dg N).2.2=0):(dg (zs N m)).2.2=0:=by
 unfold zs;by_cases h1:eM m=0
 ·rw[if_pos h1];by_cases h2:(Bi N m).2=0
  ·rw[if_pos h2];exact QF N m h h1 h2
  ·rw[if_neg h2];exact h
 ·rw[if_neg h1];exact h
end Go.Ab.Tt
namespace Go.Ab.Tt
set_option maxRecDepth 100000
set_option linter.unusedVariables false
set_option linter.unusedSimpArgs false
structure pW(N N':ag)(m:eZ):Prop where
 stops:N'.stops=N.stops
 af:N'.af=N.af
 paths:N'.paths=N.paths
 au:N'.au=N.au
 aR:N'.aR=N.aR
 within:N'.within=N.within
 cap:N'.cap=N.cap
 ah:N'.ah.length≤N.ah.length∧∀x∈N'.ah,x∈N.ah
 len:N'.runs.length≤N.runs.length+1
 runs:∀r∈N'.runs,(∃r0∈N.runs,r.cX=r0.cX∧r.inst=r0.inst∧r.id=r0.id∧r.day=r0.day∧r.bd=r0.bd)∨(r.cX= -1∧r.inst=m.inst∧r.id=m.cX∧r.day=m.day∧r.bd=m.bd)
theorem pW.rfl'(N:ag)(m:eZ):pW N N m:=⟨rfl,rfl,rfl,rfl,rfl,rfl,rfl,⟨Nat.le_refl _,fun _ h=>h⟩,Nat.le_succ _,fun r h=>.inl ⟨r,h,rfl,rfl,rfl,rfl,rfl⟩⟩
theorem yo{N:ag}{m:eZ}{i:Nat}{r x:bq}(hr:N.runs[i]?=some r)(h:x.cX=r.cX∧x.inst=r.inst∧x.id=r.id∧x.day=r.day∧x.bd=r.bd)(ls:List aC)(hl:ls.length≤N.ah.length∧∀y∈ls,y∈N.ah):pW N {N with runs:=N.runs.set i x,ah:=ls} m:=by
 refine⟨rfl,rfl,rfl,rfl,rfl,rfl,rfl,hl,by simp,fun q hq=>.inl ?_⟩;rcases List.mem_or_eq_of_mem_set hq with hq|hq
 ·exact⟨q,hq,rfl,rfl,rfl,rfl,rfl⟩
 ·subst hq;exact⟨r,List.mem_of_getElem? hr,h⟩
theorem Ue(N:ag)(m:eZ):pW N (Bi N m).1 m:=by
 unfold Bi;by_cases k5:m.kind=5
 ·rw[if_pos k5];split
  ·exact pW.rfl' N m
  ·split
   ·exact pW.rfl' N m
   ·split
    ·exact pW.rfl' N m
    ·split
     ·exact pW.rfl' N m
     ·refine⟨rfl,rfl,rfl,rfl,rfl,rfl,rfl,⟨Nat.le_refl _,fun _ h=>h⟩,by simp,fun r h=>?_⟩;rcases List.mem_append.1 h with h|h
      ·exact .inl ⟨r,h,rfl,rfl,rfl,rfl,rfl⟩
      ·simp only[List.mem_singleton]at h;subst h;exact .inr ⟨rfl,rfl,rfl,rfl,rfl⟩
 ·rw[if_neg k5];cases yC N.runs m with
  |none=>exact pW.rfl' N m
  |some i=>
   dsimp only;cases hr:N.runs[i]? with
   |none=>exact pW.rfl' N m
   |some r=>
    have hls:N.ah.length≤N.ah.length∧∀y∈N.ah,y∈N.ah:=⟨Nat.le_refl _,fun _ h=>h⟩;dsimp only;split
    ·exact pW.rfl' N m
    ·split
     ·cases prop r.calls m.call m.bm with
      |mk o e=>
       cases o with
       |none=>exact pW.rfl' N m
       |some l=>exact yo (x:={r with calls:=l}) hr ⟨rfl,rfl,rfl,rfl,rfl⟩ N.ah hls
     ·split
      ·exact yo (x:={r with rj:=true}) hr ⟨rfl,rfl,rfl,rfl,rfl⟩ N.ah hls
      ·split
       ·exact yo (x:={r with calls:=Ay r.calls m.call.toNat}) hr ⟨rfl,rfl,rfl,rfl,rfl⟩ N.ah hls
       ·split
        ·split
         ·exact pW.rfl' N m
         ·exact yo (x:={r with calls:=m.calls}) hr ⟨rfl,rfl,rfl,rfl,rfl⟩ _ ⟨List.length_filter_le _ _,fun y h=>(List.mem_filter.1 h).1⟩
        ·exact pW.rfl' N m
theorem De(N:ag)(m:eZ):pW N (zs N m) m:=by
 unfold zs;split
 ·split
  ·exact Ue N m
  ·exact pW.rfl' N m
 ·exact pW.rfl' N m
theorem Gs{x:Int}(h1: -9223372036854775808≤x)(h2:x≤9223372036854775807):j9 x:=by show(decide ((-9223372036854775808:Int)≤x)&&decide (x≤(9223372036854775807:Int)))=true;simp[h1,h2]
theorem IJ{l:List ao}{n:Int}(h:(bj l n 0 3155932800).2=0)(hn:n≤100000):l.length≤32∧∀y∈l,y.Ok:=by obtain⟨h1,h2⟩:=uO h;refine⟨h2,fun y hy=>?_⟩;obtain⟨k,hk,rfl⟩:=List.mem_iff_getElem.1 hy;have he:=Ap h k hk;unfold lG at he;rw[List.getElem?_eq_getElem hk]at he;have ho:∃p,kT l[k] p n 0 3155932800=0:=⟨_,he⟩;obtain⟨p,ho⟩:=ho;obtain⟨a1,a2,a3,_⟩:=pT ho;obtain⟨b1,b2,_⟩:=sU ho;exact⟨Gs (by omega) (by omega),Gs (by omega) (by omega),Gs (by omega) (by omega)⟩
theorem Df{N N':ag}{m:eZ}(h:Dv N)(hs:pW N N' m)(hv:(dg N').2.2=0)(hm:m.Ok)(hl:N.runs.length<100):Dv N':=by
 have S1:1000≤maxLen:=by decide
 have hcv:=uN hv;have tz:=zj ((nr N').1 hv).1;refine⟨⟨?_,?_,?_,?_,?_,?_,?_,?_,?_⟩,?_,?_,?_,?_,?_,?_,?_⟩
 ·rw[hs.stops];exact h.ok.stops
 ·rw[hs.af];exact h.ok.af
 ·refine⟨by have:=hs.len;omega,fun r hr=>?_⟩;obtain⟨c1,c2⟩:=IJ (hcv r hr) (by omega);rcases hs.runs r hr with⟨r0,h0,e1,e2,e3,e4,e5⟩|⟨e1,e2,e3,e4,e5⟩
  ·have g:=h.ok.runs.2 r0 h0;exact⟨by rw[e1];exact g.cX,by rw[e4];exact g.day,by rw[e2];exact g.inst,by rw[e3];exact g.id,by rw[e5];exact g.bd,by omega,c2⟩
  ·exact⟨by rw[e1];exact Gs (by omega) (by omega),by rw[e4];exact hm.day,by rw[e2];exact hm.inst,by rw[e3];exact hm.cX,by rw[e5];exact hm.bd,by omega,c2⟩
 ·exact⟨Nat.le_trans hs.ah.1 h.ok.ah.1,fun x hx=>h.ok.ah.2 x (hs.ah.2 x hx)⟩
 ·rw[hs.paths];exact h.ok.paths
 ·rw[hs.au];exact h.ok.au
 ·rw[hs.aR];exact h.ok.aR
 ·rw[hs.within];exact h.ok.within
 ·rw[hs.cap];exact h.ok.cap
 ·rw[hs.stops];exact h.stops
 ·rw[hs.af];exact h.af
 ·have:=hs.len;omega
 ·exact Nat.le_trans hs.ah.1 h.ah
 ·rw[hs.paths];exact h.paths
 ·rw[hs.au];exact h.au
 ·intro r hr;have:=(IJ (hcv r hr) (by omega)).1;omega
def E2(x:ag×List Int):PV:=.aZ [x.1.pv,.rs 1 (x.2.map fun e=>.int .i64 e)]
theorem Uf(ms:List PV)(l:List eZ)(S1:∀k,(hk:k<l.length)→∃q,ms[k]?=some q∧nu q l[k])(hl:l.length≤50)(FI:∀m∈l,m.Ok)(O4:∀m∈l,m.calls.length≤1000):∀(j k:Nat)(N:ag)(er:List Int)(fu:Nat),k+j=l.length→j<fu→Dv N→(dg N).2.2=0→N.runs.length+j<100→er.length≤k→bW (jc bI) fu (Dc ms (l.length:Int) k N (er.map fun e=>.int .i64 e))=some (E2 (DN N er (l.drop k))):=by
 intro j;induction j with
 |zero=>
  intro k N er fu hk hf hN hv hr he;obtain⟨fu,rfl⟩:∃f,fu=f+1:=⟨fu-1,by omega⟩;have:k=l.length:=by omega
  subst this;rw[bW,List.drop_length];unfold Dc jc;dsimp only;rw[if_neg (by simp),gR];rfl
 |succ j ih=>
  intro k N er fu hk hf hN hv hr he;obtain⟨fu,rfl⟩:∃f,fu=f+1:=⟨fu-1,by omega⟩;have iM:k<l.length:=by omega
  obtain⟨q,hq1,Xd⟩:=S1 k iM;rw[bW,Ud _ _ k (by omega) _ (by simp;omega) _ l (by omega) q (by rw[aq];exact hq1) rfl iM N hN FI hv O4 Xd];have hs:=De N l[k];have DC:=zt (m:=l[k]) hv;have hlen:=hs.len;have:=ih (k+1) (zs N l[k]) (er++[Dd N l[k]]) fu (by omega) (by omega) (Df hN hs DC (FI _ (List.getElem_mem iM)) (by omega)) DC (by omega) (by simp;omega);rw[List.map_append]at this;rw[List.drop_eq_getElem_cons iM];exact this
theorem IK(p:PV)(ms:List PV)(N:ag)(l:List eZ)(hp:Az p N)(BM:ms.length=l.length)(S1:∀k,(hk:k<l.length)→∃q,ms[k]?=some q∧nu q l[k])(h:Dv N)(hv:(dg N).2.2=0)(hl:l.length≤50)(hr:N.runs.length≤40)(FI:∀m∈l,m.Ok)(O4:∀m∈l,m.calls.length≤1000):dN [p,.rs 13 ms]=some (E2 (DN N [] l)):=by
 have T9:1003<rounds:=by decide
 have AJ:=CR N h.ok (by have:=h.paths;omega);have f1:=CS (N.stops.map Stop.pv) (by simpa using h.stops);have f2:=Aq (N.af.map ax.pv) (by simpa using h.af);have f3:=EH (N.runs.map bq.pv) (by simp;omega);have f4:=CT (N.ah.map aC.pv) (by simpa using h.ah);have f5:=uQ (N.paths.map Path.pv) (by simpa using h.paths);have f6:=wm (N.au.map aS.pv) (by simpa using h.au);have key:=Uf ms l S1 hl FI O4 l.length 0 N [] rounds (by omega) (by omega) h hv (by omega) (by simp);simp only[dN,uz,hp.hA,hp.h0,hp.h1,hp.h2,hp.h3,hp.h4,hp.h5,hp.h6,hp.h7,hp.h8,U];simp only[ab,if_true,U,f1,f2,f3,f4,f5,List.length_map];refine bp (fun k=>((N.runs.length:Int),(k:Int),ms,N.stops.map Stop.pv,N.af.map ax.pv,N.runs.map bq.pv,N.ah.map aC.pv,N.paths.map Path.pv,N.au.map aS.pv,N.aR,N.within,N.cap,(0:Int),(0:Int),(0:Int),N.au.map aS.pv,N.aR,N.within,N.cap,N.stops.map Stop.pv,N.af.map ax.pv,N.runs.map bq.pv,N.ah.map aC.pv,N.paths.map Path.pv,N.au.map aS.pv,N.aR,N.within,N.cap,(0:Int),(0:Int),(0:Int),N.stops.map Stop.pv,N.af.map ax.pv,mix bq.mW bq.pv N.runs k,N.ah.map aC.pv,N.paths.map Path.pv,())) N.runs.length (fun k hk rec=>?_) (fun rec=>?_) (by omega) (by rw[Ie];rfl)
 ·have fc:=CU (N.runs[k].calls.map ao.pv) (by simpa using h.calls _ (List.getElem_mem hk));unfold qe;dsimp only;rw[if_pos (by rw[decide_eq_true_eq];omega),if_pos (F6 _ _ _ _ hk),Int.toNat_natCast,OG _ _ _ _ hk];simp only[U,AQ,fc,ab,if_true,F6 _ _ _ _ hk,O1,ak (show k<9223372036854775807 by omega)];have:=OH bq.mW bq.pv N.runs k hk;rw[←this];rfl
 ·unfold qe;dsimp only;rw[if_neg (by simp),f6];simp only[U,ab,if_true,tu,AJ];simp only[ga,bA,List.length_cons,List.length_nil,Nat.reduceAdd,if_true,List.getD_cons_zero,List.getD_cons_succ,asInt,U,hv,F5,List.length_map,BM];rw[jg];exact key
theorem Ug(N:ag)(l:List eZ)(h:Dv N)(hv:(dg N).2.2=0)(hl:l.length≤50)(hr:N.runs.length≤40)(FI:∀m∈l,m.Ok)(O4:∀m∈l,m.calls.length≤1000):dN [N.pv,.rs 13 (l.map eZ.pv)]=some (E2 (DN N [] l)):=IK N.pv (l.map eZ.pv) N l (O3 N) (by simp) (fun k hk=>⟨l[k].pv,by simp[hk],acW _⟩) h hv hl hr FI O4
end Go.Ab.Tt
namespace Go.Ab.Tt
set_option maxRecDepth 100000
set_option linter.unusedVariables false
set_option linter.unusedSimpArgs false
theorem IL{m:eZ}(h:eM m=0)(hk:m.kind=1∨m.kind=3):0≤m.call:=by
 unfold eM at h;by_cases h1:wi m.source 0 7=false
 ·rw[if_pos h1]at h;cases h
 rw[if_neg h1]at h;by_cases h2:m.seq<1
 ·rw[if_pos h2]at h;cases h
 rw[if_neg h2]at h;by_cases h3:(!wi m.eY 0 3155932800|| !wi m.du 0 3155932800||decide (m.eY≥m.du))=true
 ·rw[if_pos h3]at h;cases h
 rw[if_neg h3]at h;by_cases h4:wi m.kind 1 6=false
 ·rw[if_pos h4]at h;cases h
 rw[if_neg h4]at h;by_cases h5:dS m.cX=false
 ·rw[if_pos h5]at h;cases h
 rw[if_neg h5]at h;by_cases h6:wi m.day 0 36524=false
 ·rw[if_pos h6]at h;cases h
 rw[if_neg h6]at h;by_cases h7:m.inst<0
 ·rw[if_pos h7]at h;cases h
 rw[if_neg h7]at h;have hu:(decide (m.kind=1)||decide (m.kind=3))=true:=by rcases hk with hk|hk<;>simp[hk]
 simp only[hu,Bool.true_and]at h;by_cases h8:wi m.call 0 31=true
 ·simp only[wi,Bool.and_eq_true,decide_eq_true_eq]at h8;omega
 ·have:wi m.call 0 31=false:=by simpa using h8
  simp only[this,Bool.not_false,Bool.true_or,if_true]at h;cases h
theorem IM(l:List bq)(hl:l.length≤1000)(hc:∀r∈l,r.calls.length≤1000):gT [.rs 8 (l.map bq.pv)]=some (.rs 8 (l.map bq.pv)):=by
 have T9:1003<rounds:=by decide
 have Ri:1000*32≤aa:=by decide
 have oZ:1001*80≤aa:=by decide
 simp only[gT,wO,ab,if_true,U];refine bp (fun k=>(l.map bq.pv,(k:Int),(l.take k).map bq.pv,())) l.length (fun k hk rec=>?_) (fun rec=>?_) (by omega) rfl
 ·unfold ru;dsimp only;have AJ:=hc _ (List.getElem_mem hk);rw[List.length_map,if_pos (by rw[decide_eq_true_eq];omega),aq,List.getElem?_map,List.getElem?_eq_getElem hk];simp only[Option.map_some,U,AQ,ab,if_true];rw[if_pos (by refine⟨?_,by decide⟩;simp only[List.nil_append,List.length_map];omega),if_pos (by refine⟨?_,by decide⟩;simp only[List.length_append,List.length_map,List.length_take,List.length_singleton];omega),ak (by omega),List.take_succ_eq_append_getElem hk,List.map_append];rfl
 ·unfold ru;dsimp only;rw[List.length_map,if_neg (by simp),List.take_length]
theorem E3{l:List bq}{m:eZ}{i:Nat}(h:yC l m=some i):Mn l m=i:=by unfold Mn;rw[h]
theorem E4{l:List bq}{m:eZ}(h:yC l m=none):Mn l m= -1:=by unfold Mn;rw[h]
theorem QL(N:ag)(m:eZ)(h:Dv N)(hm:m.Ok)(hc:m.calls.length≤1000)(k5:m.kind=5):jW [N.pv,m.pv]=some (Rs N m):=by
 have hr:=h.runs;have ht:=C7 N m (by
  have:1000≤maxLen:=by decide
  omega)
 have eS:=zb m.calls N.stops.length 0 3155932800 hm.calls.1;have Wq:=IM N.runs (by omega) h.calls;have Ob:=IM [C2 m] (by simp) (by intro r hr;simp only[List.mem_singleton]at hr;subst hr;exact hc);have e2:List.map bq.pv [C2 m]=[.agg [.int .i64 (-1),.int .i64 m.day,.int .i64 m.inst,.str m.cX,.int .i64 m.bd,.bool m.free,.bool false,.rs 5 (m.calls.map ao.pv)]]:=rfl;rw[e2]at Ob;simp only[jW,uE,mF,nW,nX,nY,nZ,oa,ob,oc,od,og,U];simp only[AU,AV,AW,AX,AY,AZ,A0,A1,A2,A3,A4,tf,tg,yg,U,asInt,bh,ab,if_true,asBool,List.length_map,tu,TV,ht,eS,Wq,Ob,aW,Bool.or_eq_true,decide_eq_true_eq,l0];unfold Rs Bi;rw[if_pos k5];cases IG:yC N.runs m with
 |some i=>rw[E3 IG,if_pos (by omega)];simp only[Option.isSome_some,if_true];rfl
 |none=>
  rw[E4 IG,if_neg (by omega)];simp only[Option.isSome_none,Bool.false_eq_true,if_false];by_cases la:m.bd<0∨m.bd≥(N.af.length:Int)
  ·rw[if_pos la,if_pos la];rfl
  ·rw[if_neg la,if_neg la];by_cases he:(bj m.calls (N.stops.length:Int) 0 3155932800).2=0
   ·rw[if_pos he,if_neg (show¬((N.runs.length:Int)≥1024) by omega),if_pos (by
     have:101*80≤aa:=by decide
     refine⟨?_,by decide⟩;rw[List.length_append,List.length_map,List.length_singleton];omega)]
    simp only[he,ne_eq,not_true,if_false,if_neg (show¬(N.runs.length≥1024) by omega),if_true,←e2,←List.map_append];rfl
   ·rw[if_neg he,if_pos he,if_neg he];rfl
theorem afO(x:bq)(l:List ao):PV.agg (cell x.mW 0::cell x.mW 1::cell x.mW 2::cell x.mW 3::cell x.mW 4::cell x.mW 5::cell x.mW 6::.rs 5 (l.map ao.pv)::over [] [])=({x with calls:=l}:bq).pv:=rfl
theorem Mt(l:List bq)(i:Nat)(x:bq):((l.map bq.mW).set i x.pv).map PV.strip=(l.set i x).map bq.pv:=by have h1:=oJ l i x;rw[List.map_set]at h1⊢;rw[←h1];rfl
theorem Mu(l:List ao)(n s:Int):(∃r,prop l n s=(some r,0))∨∃e,prop l n s=(none,e)∧e≠0:=by
 unfold prop;by_cases h1:n<0∨n≥(l.length:Int)
 ·rw[if_pos h1];exact .inr ⟨1,rfl,by decide⟩
 rw[if_neg h1];by_cases h2:s< -43200∨s>43200
 ·rw[if_pos h2];exact .inr ⟨2,rfl,by decide⟩
 rw[if_neg h2];by_cases h3:ot l=false
 ·rw[if_pos h3];exact .inr ⟨10,rfl,by decide⟩
 rw[if_neg h3];cases fb (l.drop n.toNat) (lr l n.toNat s)with
 |some r=>exact .inl ⟨_,rfl⟩
 |none=>exact .inr ⟨10,rfl,by decide⟩
def WD(N:ag)(m:eZ)(i k:Nat):=(N.runs.map bq.pv,(k:Int),(i:Int),(N.runs.take k).map bq.mW,N.stops.map Stop.pv,N.af.map ax.pv,N.runs.map bq.pv,N.ah.map aC.pv,N.paths.map Path.pv,N.au.map aS.pv,N.aR,N.within,N.cap,m.source,m.seq,m.eY,m.du,m.kind,m.cX,m.day,m.inst,m.call,m.bm,m.bd,m.free,m.calls.map ao.pv,(0:Int),(0:Int),(0:Int),N.stops.map Stop.pv,N.af.map ax.pv,N.runs.map bq.pv,N.ah.map aC.pv,N.paths.map Path.pv,N.au.map aS.pv,N.aR,N.within,N.cap,())
theorem WE(N:ag)(m:eZ)(h:Dv N)(hm:m.Ok)(DF:eM m=0)(hc:m.calls.length≤1000)(k5:m.kind≠5){i:Nat}(IG:yC N.runs m=some i)(rec:_→Option PV):l8 bI (WD N m i N.runs.length) rec=some (Rs N m):=by
 have hr:=h.runs;obtain⟨hi,_,_⟩:=uX IG;have pq:ae (i:Int) N.runs.length:=⟨by omega,by omega⟩;have hlen:=h.calls N.runs[i] (List.getElem_mem hi);unfold WD l8;dsimp only;rw[List.length_map,if_neg (by simp),List.take_length];unfold Rs Bi;rw[if_neg k5,IG];simp only[dU,aq,List.getElem?_map,List.getElem?_eq_getElem hi,Option.map_some,U,AQ,ab,if_true,aW,cT,List.length_map,Int.toNat_natCast,decide_eq_true_eq,pq];by_cases k1:m.kind=1
 ·have eS:=IL DF (.inl k1);simp only[k1,decide_true,Bool.true_or,Bool.true_and,decide_eq_true_eq,true_or,true_and,if_true,reduceCtorEq,Int.reduceEq,if_false,decide_false,Bool.or_false];by_cases GP:m.call≥(N.runs[i].calls.length:Int)
  ·rw[if_pos GP,if_pos (show m.call<0∨m.call≥(N.runs[i].calls.length:Int)from .inr GP)];rfl
  ·rw[if_neg GP,if_neg (show¬(m.call<0∨m.call≥(N.runs[i].calls.length:Int)) by omega)];rw[T2 _ _ _ hlen];unfold TZ;simp only[U,bA,List.length_cons,List.length_nil,Nat.reduceAdd,if_true,List.getD_cons_zero,List.getD_cons_succ,asInt,l0];rcases Mu N.runs[i].calls m.call m.bm with⟨l,hp⟩|⟨e,hp,he⟩
   ·rw[hp];simp only[if_true,Option.getD_some,afO,Mt];rfl
   ·rw[hp];simp only[if_neg he];rfl
 ·have Rk:((decide (m.kind=1)||decide (m.kind=3))&&decide (m.call≥(N.runs[i].calls.length:Int)))=decide ((m.kind=1∨m.kind=3)∧(m.call<0∨m.call≥(N.runs[i].calls.length:Int))):=by
   rw[Bool.eq_iff_iff];simp only[Bool.and_eq_true,Bool.or_eq_true,decide_eq_true_eq];constructor
   ·rintro⟨a,b⟩;exact⟨a,.inr b⟩
   ·rintro⟨a,b⟩;exact⟨a,by have:=IL DF a;omega⟩
  rw[Rk];simp only[decide_eq_true_eq];by_cases hn:(m.kind=1∨m.kind=3)∧(m.call<0∨m.call≥(N.runs[i].calls.length:Int))
  ·rw[if_pos hn,if_pos hn];rfl
  rw[if_neg hn,if_neg hn];simp only[if_neg k1];by_cases k2:m.kind=2
  ·simp only[k2,if_true,l5 _ _ hi,U,T7,oJ,Int.reduceEq,if_false];rfl
  simp only[if_neg k2];by_cases k3:m.kind=3
  ·simp only[k3,if_true,Int.reduceEq,if_false];have GP:=not_or.1 (fun hh=>hn ⟨.inr k3,hh⟩:¬(m.call<0∨m.call≥(N.runs[i].calls.length:Int)));obtain⟨c,BG⟩:∃c:Nat,m.call=(c:Int):=⟨m.call.toNat,by omega⟩;have tq:c<N.runs[i].calls.length:=by omega
   simp only[BG,l5 _ _ hi,U,Da,List.length_map,Int.toNat_natCast,gU c _ tq,if_true,List.getElem?_map,List.getElem?_eq_getElem tq,Option.map_some,Mp,←List.map_set,ZY,List.length_set,pq,List.getElem?_set_self hi,List.getElem?_set_self tq,Mq,List.set_set,gR];simp only[Ay,List.getElem?_eq_getElem tq];rfl
  simp only[if_neg k3];by_cases k4:m.kind=4
  ·simp only[k4,if_true];have eS:=zb m.calls N.stops.length 0 3155932800 hm.calls.1;simp only[eS,U,asInt,if_true,l0];by_cases he:(bj m.calls (N.stops.length:Int) 0 3155932800).2=0
   ·have dh:(([]:List PV)++m.calls.map ao.pv).length*32≤aa∧0<32:=by
     have:1000*32≤aa:=by decide
     refine⟨?_,by decide⟩;rw[List.nil_append,List.length_map];omega
    have hu:=Gn N.ah i (by have:=h.ah;omega);rw[if_pos he,if_pos dh];simp only[he,l5 _ _ hi,U,hu,ab,if_true,ne_eq,not_true,if_false,List.nil_append,T6,qd,oJ];rfl
   ·rw[if_neg he,if_pos he,if_neg he];rfl
  simp only[if_neg k4,if_true,gR];rfl
theorem QM(N:ag)(m:eZ)(h:Dv N)(hm:m.Ok)(hc:m.calls.length≤1000):jX [N.pv,m.pv]=some (va N m):=by
 have hr:=h.runs;have T9:1003<rounds:=by decide
 have hvd:=ID N h.ok (by have:=h.paths;omega);have hmk:=WA m hm;have ht:=C7 N m (by
  have:1000≤maxLen:=by decide
  omega)
 simp only[jX,uu,mF,nW,nX,nY,nZ,oa,ob,oc,od,og,U,tu,hvd];simp only[asBool,U,AU,AV,AW,AX,AY,AZ,A0,A1,A2,A3,A4,tf,tg,yg,asInt,bh,ab,if_true,TV,hmk,l0,ht,tu,dU,decide_eq_true_eq];unfold va;by_cases hv:(dg N).2.2=0
 ·rw[if_neg (by simp[hv]),if_pos hv];by_cases he:eM m=0
  ·rw[if_pos he,if_pos he];by_cases k5:m.kind=5
   ·have ha:=QL N m h hm hc k5;rw[if_pos k5,ha];unfold Rs;by_cases hx:(Bi N m).2=0
    ·rw[if_pos hx];rfl
    ·rw[if_neg hx];rfl
   ·rw[if_neg k5];cases IG:yC N.runs m with
    |none=>rw[E4 IG,if_pos (by omega)];unfold Rs Bi;rw[if_neg k5,IG];rfl
    |some i=>
     obtain⟨hi,_,_⟩:=uX IG;rw[E3 IG,if_neg (by omega)];refine bp (WD N m i) N.runs.length (fun k hk rec=>?_) (fun rec=>WE N m h hm he hc k5 IG rec) (by omega) rfl;have Ri:1000*32≤aa:=by decide
     have oZ:101*80≤aa:=by decide
     have AJ:=h.calls _ (List.getElem_mem hk);unfold WD l8;dsimp only;rw[List.length_map,if_pos (by rw[decide_eq_true_eq];omega),aq,List.getElem?_map,List.getElem?_eq_getElem hk];simp only[Option.map_some,U,AQ,ab,if_true];rw[if_pos (by refine⟨?_,by decide⟩;simp only[List.nil_append,List.length_map];omega),if_pos (by simp only[List.length_append,List.length_map,List.length_take,List.length_singleton];omega),ak (by omega),List.take_succ_eq_append_getElem hk,List.map_append];rfl
  ·rw[if_neg he,if_neg he];rfl
 ·rw[if_pos (by simp[hv]),if_neg hv];rfl
end Go.Ab.Tt
namespace Go.Ab.Tt
set_option maxRecDepth 100000
set_option linter.unusedVariables false
set_option linter.unusedSimpArgs false
theorem IP{N:ag}{m:eZ}(hv:(dg N).2.2=0):va N m=if Dd N m=0 then .aZ [(zs N m).pv,.int .i64 0]else .aZ [z9,.int .i64 (Dd N m)]:=by
 unfold va Dd zs Rs;rw[if_pos hv];by_cases h1:eM m=0
 ·rw[if_pos h1,if_pos h1,if_pos h1];by_cases h2:(Bi N m).2=0
  ·rw[if_pos h2,if_pos h2,if_pos h2]
  ·rw[if_neg h2,if_neg h2]
 ·rw[if_neg h1,if_neg h1,if_neg h1]
theorem WG{N:ag}{m:eZ}(h:Dd N m≠0):zs N m=N:=by
 unfold Dd at h;unfold zs;by_cases h1:eM m=0
 ·rw[if_pos h1]at h⊢;rw[if_neg h]
 ·rw[if_neg h1]
def Z7(ms:List PV)(k:Nat)(N:ag)(er:List PV):=(ms,(k:Int),PV.rs 4 (N.stops.map Stop.pv),PV.rs 3 (N.af.map ax.pv),PV.rs 8 (N.runs.map bq.pv),PV.rs 5 (N.ah.map aC.pv),PV.rs 4 (N.paths.map Path.pv),PV.rs 6 (N.au.map aS.pv),PV.int .i64 N.aR,PV.int .i64 N.within,PV.int .i64 N.cap,(0:Int),(0:Int),(0:Int),er,())
theorem QN(l:List eZ)(hl:l.length≤50)(FI:∀m∈l,m.Ok)(O4:∀m∈l,m.calls.length≤1000):∀(j k:Nat)(N:ag)(er:List Int)(fu:Nat),k+j=l.length→j<fu→Dv N→(dg N).2.2=0→N.runs.length+j<100→er.length≤k→bW (ow bI) fu (Z7 (l.map eZ.pv) k N (er.map fun e=>.int .i64 e))=some (E2 (DN N er (l.drop k))):=by
 intro j;induction j with
 |zero=>
  intro k N er fu hk hf hN hv hr he;obtain⟨fu,rfl⟩:∃f,fu=f+1:=⟨fu-1,by omega⟩;have:k=l.length:=by omega
  subst this;rw[bW,List.drop_length];unfold Z7 ow;dsimp only;rw[List.length_map,if_neg (by simp)];rfl
 |succ j ih=>
  intro k N er fu hk hf hN hv hr he;obtain⟨fu,rfl⟩:∃f,fu=f+1:=⟨fu-1,by omega⟩;have iM:k<l.length:=by omega
  have zP:=QM N l[k] hN (FI _ (List.getElem_mem iM)) (O4 _ (List.getElem_mem iM));rw[IP hv]at zP;have hs:=De N l[k];have DC:=zt (m:=l[k]) hv;have hlen:=hs.len;have afP:=Df hN hs DC (FI _ (List.getElem_mem iM)) (by omega);have:=ih (k+1) (zs N l[k]) (er++[Dd N l[k]]) fu (by omega) (by omega) afP DC (by omega) (by simp;omega);rw[List.map_append]at this;rw[List.drop_eq_getElem_cons iM,bW];refine Eq.trans ?_ this;have Rm:∀m:eZ,PV.agg [cell m.pv 0,cell m.pv 1,cell m.pv 2,cell m.pv 3,cell m.pv 4,cell m.pv 5,cell m.pv 6,cell m.pv 7,cell m.pv 8,cell m.pv 9,cell m.pv 10,cell m.pv 11,cell m.pv 12]=m.pv:=fun _=>rfl;have JW:=II (er.map fun e=>PV.int .i64 e) (by simp;omega);have Ub:IntKind.i64.wrap ((k:Int)+1)=((k+1:Nat):Int):=ak (by omega);unfold Z7 ow;dsimp only;rw[List.length_map,if_pos (by rw[decide_eq_true_eq];omega),aq,List.getElem?_map,List.getElem?_eq_getElem iM];simp only[Option.map_some,U,Rm,tu,zP];by_cases hx:Dd N l[k]=0
  ·rw[if_pos hx,hx];simp only[U,bA,List.length_cons,List.length_nil,Nat.reduceAdd,if_true,List.getD_cons_zero,List.getD_cons_succ,asInt,mF,beq_self_eq_true,Ub];rw[if_pos (JW _)];rfl
  ·have hz:asAgg 9 z9=some ():=rfl;rw[if_neg hx];simp only[U,bA,List.length_cons,List.length_nil,Nat.reduceAdd,if_true,List.getD_cons_zero,List.getD_cons_succ,asInt,hz,dU,hx,decide_false,Bool.false_eq_true,if_false,Ub];rw[if_pos (JW _),WG hx];rfl
theorem WH(N:ag)(l:List eZ)(h:Dv N)(hv:(dg N).2.2=0)(hl:l.length≤50)(hr:N.runs.length≤40)(FI:∀m∈l,m.Ok)(O4:∀m∈l,m.calls.length≤1000):nq [N.pv,.rs 13 (l.map eZ.pv)]=some (E2 (DN N [] l)):=by
 have T9:1003<rounds:=by decide
 have key:=QN l hl FI O4 l.length 0 N [] rounds (by omega) (by omega) h hv (by omega) (by simp);simp only[nq,y9,mF,nW,nX,nY,nZ,oa,ob,oc,od,og,U];simp only[ab,if_true,U,jg];exact key
def Gt(A B:ag)(k:Nat):Bool:=decide (A.runs[k]?≠B.runs[k]?)
def Gu(A B:ag)(n:Nat):List Nat:=(List.range n).filter (Gt A B)
theorem QO(A B:ag)(k:Nat):Gu A B (k+1)=if Gt A B k=true then Gu A B k++[k]else Gu A B k:=by unfold Gu;rw[List.range_succ,List.filter_append];by_cases h:Gt A B k=true<;>simp[h]
theorem Uh(A B:ag)(k:Nat):(Gu A B k).length≤k:=by unfold Gu;exact Nat.le_trans (List.length_filter_le _ _) (by simp)
def Ui(k:Nat):PV:=.int .i64 k
def mx(A B:ag):Nat:=max A.runs.length B.runs.length
theorem QP(x y:bq)(hx:x.calls.length≤maxLen):fx [x.pv,y.pv]=some (.bool (decide (x=y))):=by have hc:=qm x.calls y.calls hx;simp only[fx,sN,afr,Wb,LN,LO,LP,Wc,ZC,ZD,AQ,U];simp only[asInt,bh,asBool,ab,if_true,U,hc,cT,aW,dU,jy,OD];generalize decide (x.cX=y.cX)=a1;generalize decide (x.day=y.day)=a2;generalize decide (x.inst=y.inst)=a3;generalize decide (x.id=y.id)=a4;generalize decide (x.bd=y.bd)=a5;generalize decide (x.rj=y.rj)=a7;generalize decide (x.calls=y.calls)=a8;generalize decide (x.free=y.free)=a6;cases a1<;>cases a2<;>cases a3<;>cases a4<;>rfl
theorem Gv(A B:ag)(hA:A.runs.length≤1000∧∀x∈A.runs,x.calls.length≤maxLen)(hB:B.runs.length≤1000):bY [A.pv,B.pv]=some (.rs 1 ((Gu A B (mx A B)).map Ui)):=by
 have T9:1003<rounds:=by decide
 simp only[bY,j7,mF,nW,nX,nY,nZ,oa,ob,oc,od,og,U,List.length_map];refine bp (fun k=>(((mx A B:Nat):Int),(k:Int),A.stops.map Stop.pv,A.af.map ax.pv,A.runs.map bq.pv,A.ah.map aC.pv,A.paths.map Path.pv,A.au.map aS.pv,A.aR,A.within,A.cap,B.stops.map Stop.pv,B.af.map ax.pv,B.runs.map bq.pv,B.ah.map aC.pv,B.paths.map Path.pv,B.au.map aS.pv,B.aR,B.within,B.cap,(Gu A B k).map Ui,())) (mx A B) (fun k hk rec=>?_) (fun rec=>?_) (by unfold mx;omega) ?_
 ·have hl:=Uh A B k;have hm:k<1000:=by unfold mx at hk;omega
  have dh:((Gu A B k).map Ui++[PV.int .i64 (k:Int)]).length*8≤aa∧0<8:=II _ (by simp;omega) _;have cQ:∀x:bq,PV.agg [cell x.pv 0,cell x.pv 1,cell x.pv 2,cell x.pv 3,cell x.pv 4,cell x.pv 5,cell x.pv 6,cell x.pv 7]=x.pv:=abc;unfold kJ;dsimp only;rw[if_pos (by rw[decide_eq_true_eq];omega)];simp only[List.length_map,aW,aq,List.getElem?_map,ak (show k<9223372036854775807 by omega),QO];by_cases ha:k<A.runs.length
  ·by_cases hb:k<B.runs.length
   ·have hs:=QP A.runs[k] B.runs[k] (hA.2 _ (List.getElem_mem ha));rw[show(decide ((k:Int)≥(A.runs.length:Int))||decide ((k:Int)≥(B.runs.length:Int)))=false by rw[decide_eq_false (by omega),decide_eq_false (by omega)];rfl];simp only[U,cond_false,List.getElem?_eq_getElem ha,List.getElem?_eq_getElem hb,Option.map_some,abc,hs,asBool];have hd:Gt A B k= !decide (A.runs[k]=B.runs[k]):=by unfold Gt;rw[List.getElem?_eq_getElem ha,List.getElem?_eq_getElem hb];simp
    rw[hd];by_cases he:A.runs[k]=B.runs[k]
    ·simp[he]
    ·simp only[he,decide_false,Bool.not_false,if_true,if_pos dh,List.map_append];rfl
   ·have hd:Gt A B k=true:=by unfold Gt;rw[List.getElem?_eq_getElem ha,List.getElem?_eq_none (by omega)];simp
    rw[show(decide ((k:Int)≥(A.runs.length:Int))||decide ((k:Int)≥(B.runs.length:Int)))=true by rw[decide_eq_true (show(k:Int)≥(B.runs.length:Int) by omega)];simp,hd];simp only[U,cond_true,if_true,if_pos dh,List.map_append];rfl
  ·have hd:Gt A B k=true:=by
    unfold Gt;have hb:k<B.runs.length:=by unfold mx at hk;omega
    rw[List.getElem?_eq_getElem hb,List.getElem?_eq_none (by omega)];simp
   rw[show(decide ((k:Int)≥(A.runs.length:Int))||decide ((k:Int)≥(B.runs.length:Int)))=true by rw[decide_eq_true (show(k:Int)≥(A.runs.length:Int) by omega)];simp,hd];simp only[U,cond_true,if_true,if_pos dh,List.map_append];rfl
 ·unfold kJ;dsimp only;rw[if_neg (by simp)]
 ·have:(if(B.runs.length:Int)>(A.runs.length:Int)then(B.runs.length:Int)else(A.runs.length:Int))=((mx A B:Nat):Int):=by unfold mx;split<;>omega
  rw[this];rfl
end Go.Ab.Tt
namespace Go.Ab.Tt
set_option maxRecDepth 100000
set_option linter.unusedVariables false
set_option linter.unusedSimpArgs false
def DO:List ao:=[⟨0,100,100,true,false⟩,⟨1,200,200,false,true⟩]
def XU(r:List bq):ag:=⟨[⟨[65],0,false,0⟩,⟨[66],0,false,0⟩],[⟨[82],0,false⟩],r,[],[],[],0,0,0⟩
def E5:ag:=XU [⟨0,0,0,[116,48],0,false,false,DO⟩]
def qn(kind:Int)(cX:Bytes)(inst call bm:Int)(calls:List ao):eZ:=⟨0,1,0,10,kind,cX,0,inst,call,bm,0,false,calls⟩
def fe:PV:=.agg [.rs 4 [.agg [.str [65],.int .i64 0,.bool false,.int .i64 0],.agg [.str [66],.int .i64 0,.bool false,.int .i64 0]],.rs 3 [.agg [.str [82],.int .i64 0,.bool false]],.rs 8 [.agg [.int .i64 0,.int .i64 0,.int .i64 0,.str [116,48],.int .i64 0,.bool false,.bool false,.rs 5 (DO.map ao.pv)]],.rs 0 [],.rs 0 [],.rs 0 [],.int .i64 0,.int .i64 0,.int .i64 0]
def aI(kind:Int)(cX:Bytes):PV:=.agg [.int .i64 0,.int .i64 1,.int .i64 0,.int .i64 10,.int .i64 kind,.str cX,.int .i64 0,.int .i64 0,.int .i64 0,.int .i64 0,.int .i64 0,.bool false,.rs 0 []]
theorem Z8:fK []=some fe:=rfl
theorem WI(k:Int)(t:Bytes):ir [.int .i64 k,.str t]=some (aI k t):=rfl
theorem Mv:fY []=some (.rs 5 (DO.map ao.pv)):=rfl
theorem acX:asAgg 9 fe=some ():=rfl
theorem Z9(k:Int)(t:Bytes):asAgg 13 (aI k t)=some ():=rfl
theorem O5:Az (.agg [cell fe 0,cell fe 1,cell fe 2,cell fe 3,cell fe 4,cell fe 5,cell fe 6,cell fe 7,cell fe 8]) E5:=⟨rfl,rfl,rfl,rfl,rfl,rfl,rfl,rfl,rfl,rfl⟩
theorem Uj:E5.Ok:=by
 have h1:100≤maxLen:=by decide
 refine⟨⟨by show 2≤maxLen;omega,?_⟩,⟨by show 1≤maxLen;omega,?_⟩,⟨by show 1≤maxLen;omega,?_⟩,⟨by show 0≤maxLen;omega,fun _ h=>by cases h⟩,⟨by show 0≤maxLen;omega,fun _ h=>by cases h⟩,⟨by show 0≤maxLen;omega,fun _ h=>by cases h⟩,by decide,by decide,by decide⟩
 ·intro y hy;simp only[E5,XU,List.mem_cons,List.not_mem_nil,or_false]at hy;rcases hy with rfl|rfl
  ·exact⟨by show 1≤maxLen;omega,by decide,by decide⟩
  ·exact⟨by show 1≤maxLen;omega,by decide,by decide⟩
 ·intro y hy;simp only[E5,XU,List.mem_cons,List.not_mem_nil,or_false]at hy;subst hy;exact⟨by show 1≤maxLen;omega,by decide⟩
 ·intro y hy;simp only[E5,XU,List.mem_cons,List.not_mem_nil,or_false]at hy;subst hy;refine⟨by decide,by decide,by decide,by show 2≤maxLen;omega,by decide,by show 2≤maxLen;omega,fun z hz=>?_⟩;simp only[DO,List.mem_cons,List.not_mem_nil,or_false]at hz;rcases hz with rfl|rfl<;>exact⟨by decide,by decide,by decide⟩
theorem zu:(dg E5).2.2=0:=by decide+kernel
theorem O6:Dv E5:=by refine⟨Uj,by decide,by decide,by decide,by decide,by decide,by decide,fun r hr=>?_⟩;simp only[E5,XU,List.mem_cons,List.not_mem_nil,or_false]at hr;subst hr;exact(by decide:2≤1000)
theorem vN(k:Int)(t:Bytes)(i c s:Int)(l:List ao)(hk:j9 k)(ht:t.length≤100)(hi:j9 i)(hc:j9 c)(hs:j9 s)(hl:l=[]∨l=DO):(qn k t i c s l).Ok∧(qn k t i c s l).calls.length≤1000:=by
 have h1:100≤maxLen:=by decide
 have hl2:l.length≤2∧∀y∈l,y.Ok:=by
  rcases hl with rfl|rfl
  ·exact⟨by decide,fun _ h=>by cases h⟩
  ·refine⟨by decide,fun z hz=>?_⟩;simp only[DO,List.mem_cons,List.not_mem_nil,or_false]at hz;rcases hz with rfl|rfl<;>exact⟨by decide,by decide,by decide⟩
 refine⟨⟨by show j9 0;decide,by show j9 1;decide,by show j9 0;decide,by show j9 10;decide,hk,by show t.length≤maxLen;omega,by show j9 0;decide,hi,hc,hs,by show j9 0;decide,⟨by show l.length≤maxLen;omega,hl2.2⟩⟩,by show l.length≤1000;omega⟩
theorem Gw{p:PV}{A B:ag}(hp:Az p A):bY [p,B.pv]=bY [A.pv,B.pv]:=by simp only[bY,j7,hp.hA,hp.h0,hp.h1,hp.h2,hp.h3,hp.h4,hp.h5,hp.h6,hp.h7,hp.h8,mF,nW,nX,nY,nZ,oa,ob,oc,od,og,U]
theorem sf{q:PV}{m:eZ}(hq:nu q m)(hm:m.Ok∧m.calls.length≤1000){v:PV}(h:va E5 m=v):bl [.agg [cell fe 0,cell fe 1,cell fe 2,cell fe 3,cell fe 4,cell fe 5,cell fe 6,cell fe 7,cell fe 8],q]=some v:=(Ms O5 hq).trans ((Mr E5 m O6 hm.1 hm.2).trans (by rw[h]))
def exL:ag:=XU [⟨0,0,0,[116,48],0,false,false,[⟨0,160,160,true,false⟩,⟨1,260,260,false,true⟩]⟩]
def QQ:ag:=XU [⟨0,0,0,[116,48],0,false,true,DO⟩]
def exD:ag:=XU [⟨0,0,0,[116,48],0,false,false,DO⟩,⟨-1,0,0,[120],0,false,false,DO⟩]
theorem Uk{m:eZ}{N:ag}(h1:eM m=0)(h2:Bi E5 m=(N,0)):va E5 m=.aZ [N.pv,.int .i64 0]:=by unfold va Rs;rw[if_pos zu,if_pos h1,h2];rfl
theorem Ul{m:eZ}{N:ag}{e:Int}(h1:eM m=0)(h2:Bi E5 m=(N,e))(he:e≠0):va E5 m=.aZ [z9,.int .i64 e]:=by unfold va Rs;rw[if_pos zu,if_pos h1,h2,if_neg he]
theorem acY:nu (.agg [cell (aI 1 [116,48]) 0,cell (aI 1 [116,48]) 1,cell (aI 1 [116,48]) 2,cell (aI 1 [116,48]) 3,cell (aI 1 [116,48]) 4,cell (aI 1 [116,48]) 5,cell (aI 1 [116,48]) 6,cell (aI 1 [116,48]) 7,cell (aI 1 [116,48]) 8,.int .i64 60,cell (aI 1 [116,48]) 10,cell (aI 1 [116,48]) 11,cell (aI 1 [116,48]) 12]) (qn 1 [116,48] 0 0 60 []):=⟨rfl,rfl,rfl,rfl,rfl,rfl,rfl,rfl,rfl,rfl,rfl,rfl,rfl,rfl⟩
theorem acZ:(qn 1 [116,48] 0 0 60 []).Ok∧(qn 1 [116,48] 0 0 60 []).calls.length≤1000:=vN _ _ _ _ _ _ (by decide) (by decide) (by decide) (by decide) (by decide) (.inl rfl)
theorem ac0:bl [.agg [cell fe 0,cell fe 1,cell fe 2,cell fe 3,cell fe 4,cell fe 5,cell fe 6,cell fe 7,cell fe 8],.agg [cell (aI 1 [116,48]) 0,cell (aI 1 [116,48]) 1,cell (aI 1 [116,48]) 2,cell (aI 1 [116,48]) 3,cell (aI 1 [116,48]) 4,cell (aI 1 [116,48]) 5,cell (aI 1 [116,48]) 6,cell (aI 1 [116,48]) 7,cell (aI 1 [116,48]) 8,.int .i64 60,cell (aI 1 [116,48]) 10,cell (aI 1 [116,48]) 11,cell (aI 1 [116,48]) 12]]=some (.aZ [exL.pv,.int .i64 0]):=sf acY acZ (Uk (by decide+kernel) (by kernel_rfl))
theorem Um:nu (.agg [cell (aI 2 [116,48]) 0,cell (aI 2 [116,48]) 1,cell (aI 2 [116,48]) 2,cell (aI 2 [116,48]) 3,cell (aI 2 [116,48]) 4,cell (aI 2 [116,48]) 5,cell (aI 2 [116,48]) 6,cell (aI 2 [116,48]) 7,cell (aI 2 [116,48]) 8,cell (aI 2 [116,48]) 9,cell (aI 2 [116,48]) 10,cell (aI 2 [116,48]) 11,cell (aI 2 [116,48]) 12]) (qn 2 [116,48] 0 0 0 []):=⟨rfl,rfl,rfl,rfl,rfl,rfl,rfl,rfl,rfl,rfl,rfl,rfl,rfl,rfl⟩
theorem Un:(qn 2 [116,48] 0 0 0 []).Ok∧(qn 2 [116,48] 0 0 0 []).calls.length≤1000:=vN _ _ _ _ _ _ (by decide) (by decide) (by decide) (by decide) (by decide) (.inl rfl)
theorem ac1:bl [.agg [cell fe 0,cell fe 1,cell fe 2,cell fe 3,cell fe 4,cell fe 5,cell fe 6,cell fe 7,cell fe 8],.agg [cell (aI 2 [116,48]) 0,cell (aI 2 [116,48]) 1,cell (aI 2 [116,48]) 2,cell (aI 2 [116,48]) 3,cell (aI 2 [116,48]) 4,cell (aI 2 [116,48]) 5,cell (aI 2 [116,48]) 6,cell (aI 2 [116,48]) 7,cell (aI 2 [116,48]) 8,cell (aI 2 [116,48]) 9,cell (aI 2 [116,48]) 10,cell (aI 2 [116,48]) 11,cell (aI 2 [116,48]) 12]]=some (.aZ [QQ.pv,.int .i64 0]):=sf Um Un (Uk (by decide+kernel) (by kernel_rfl))
theorem ac2:nu (.agg [cell (aI 1 [116,48]) 0,cell (aI 1 [116,48]) 1,cell (aI 1 [116,48]) 2,cell (aI 1 [116,48]) 3,cell (aI 1 [116,48]) 4,cell (aI 1 [116,48]) 5,cell (aI 1 [116,48]) 6,.int .i64 1,cell (aI 1 [116,48]) 8,cell (aI 1 [116,48]) 9,cell (aI 1 [116,48]) 10,cell (aI 1 [116,48]) 11,cell (aI 1 [116,48]) 12]) (qn 1 [116,48] 1 0 0 []):=⟨rfl,rfl,rfl,rfl,rfl,rfl,rfl,rfl,rfl,rfl,rfl,rfl,rfl,rfl⟩
theorem ac3:(qn 1 [116,48] 1 0 0 []).Ok∧(qn 1 [116,48] 1 0 0 []).calls.length≤1000:=vN _ _ _ _ _ _ (by decide) (by decide) (by decide) (by decide) (by decide) (.inl rfl)
theorem ac4:bl [.agg [cell fe 0,cell fe 1,cell fe 2,cell fe 3,cell fe 4,cell fe 5,cell fe 6,cell fe 7,cell fe 8],.agg [cell (aI 1 [116,48]) 0,cell (aI 1 [116,48]) 1,cell (aI 1 [116,48]) 2,cell (aI 1 [116,48]) 3,cell (aI 1 [116,48]) 4,cell (aI 1 [116,48]) 5,cell (aI 1 [116,48]) 6,.int .i64 1,cell (aI 1 [116,48]) 8,cell (aI 1 [116,48]) 9,cell (aI 1 [116,48]) 10,cell (aI 1 [116,48]) 11,cell (aI 1 [116,48]) 12]]=some (.aZ [z9,.int .i64 16]):=sf ac2 ac3 (Ul (N:=E5) (by decide+kernel) (by kernel_rfl) (by decide))
theorem ac5:nu (.agg [cell (aI 1 [116,48]) 0,cell (aI 1 [116,48]) 1,cell (aI 1 [116,48]) 2,cell (aI 1 [116,48]) 3,cell (aI 1 [116,48]) 4,cell (aI 1 [116,48]) 5,cell (aI 1 [116,48]) 6,.int .i64 0,.int .i64 2,cell (aI 1 [116,48]) 9,cell (aI 1 [116,48]) 10,cell (aI 1 [116,48]) 11,cell (aI 1 [116,48]) 12]) (qn 1 [116,48] 0 2 0 []):=⟨rfl,rfl,rfl,rfl,rfl,rfl,rfl,rfl,rfl,rfl,rfl,rfl,rfl,rfl⟩
theorem ac6:(qn 1 [116,48] 0 2 0 []).Ok∧(qn 1 [116,48] 0 2 0 []).calls.length≤1000:=vN _ _ _ _ _ _ (by decide) (by decide) (by decide) (by decide) (by decide) (.inl rfl)
theorem ac7:bl [.agg [cell fe 0,cell fe 1,cell fe 2,cell fe 3,cell fe 4,cell fe 5,cell fe 6,cell fe 7,cell fe 8],.agg [cell (aI 1 [116,48]) 0,cell (aI 1 [116,48]) 1,cell (aI 1 [116,48]) 2,cell (aI 1 [116,48]) 3,cell (aI 1 [116,48]) 4,cell (aI 1 [116,48]) 5,cell (aI 1 [116,48]) 6,.int .i64 0,.int .i64 2,cell (aI 1 [116,48]) 9,cell (aI 1 [116,48]) 10,cell (aI 1 [116,48]) 11,cell (aI 1 [116,48]) 12]]=some (.aZ [z9,.int .i64 9]):=sf ac5 ac6 (Ul (N:=E5) (by decide+kernel) (by kernel_rfl) (by decide))
theorem ac8:nu (.agg [cell (aI 5 [120]) 0,cell (aI 5 [120]) 1,cell (aI 5 [120]) 2,cell (aI 5 [120]) 3,cell (aI 5 [120]) 4,cell (aI 5 [120]) 5,cell (aI 5 [120]) 6,cell (aI 5 [120]) 7,cell (aI 5 [120]) 8,cell (aI 5 [120]) 9,cell (aI 5 [120]) 10,cell (aI 5 [120]) 11,.rs 5 (DO.map ao.pv)]) (qn 5 [120] 0 0 0 DO):=⟨rfl,rfl,rfl,rfl,rfl,rfl,rfl,rfl,rfl,rfl,rfl,rfl,rfl,rfl⟩
theorem ac9:(qn 5 [120] 0 0 0 DO).Ok∧(qn 5 [120] 0 0 0 DO).calls.length≤1000:=vN _ _ _ _ _ _ (by decide) (by decide) (by decide) (by decide) (by decide) (.inr rfl)
theorem ada:bl [.agg [cell fe 0,cell fe 1,cell fe 2,cell fe 3,cell fe 4,cell fe 5,cell fe 6,cell fe 7,cell fe 8],.agg [cell (aI 5 [120]) 0,cell (aI 5 [120]) 1,cell (aI 5 [120]) 2,cell (aI 5 [120]) 3,cell (aI 5 [120]) 4,cell (aI 5 [120]) 5,cell (aI 5 [120]) 6,cell (aI 5 [120]) 7,cell (aI 5 [120]) 8,cell (aI 5 [120]) 9,cell (aI 5 [120]) 10,cell (aI 5 [120]) 11,.rs 5 (DO.map ao.pv)]]=some (.aZ [exD.pv,.int .i64 0]):=sf ac8 ac9 (Uk (by decide+kernel) (by kernel_rfl))
theorem XV:nu (.agg [cell (aI 5 [120]) 0,cell (aI 5 [120]) 1,cell (aI 5 [120]) 2,cell (aI 5 [120]) 3,cell (aI 5 [120]) 4,.str [116,48],cell (aI 5 [120]) 6,cell (aI 5 [120]) 7,cell (aI 5 [120]) 8,cell (aI 5 [120]) 9,cell (aI 5 [120]) 10,cell (aI 5 [120]) 11,.rs 5 (DO.map ao.pv)]) (qn 5 [116,48] 0 0 0 DO):=⟨rfl,rfl,rfl,rfl,rfl,rfl,rfl,rfl,rfl,rfl,rfl,rfl,rfl,rfl⟩
theorem Uo:(qn 5 [116,48] 0 0 0 DO).Ok∧(qn 5 [116,48] 0 0 0 DO).calls.length≤1000:=vN _ _ _ _ _ _ (by decide) (by decide) (by decide) (by decide) (by decide) (.inr rfl)
theorem adb:bl [.agg [cell fe 0,cell fe 1,cell fe 2,cell fe 3,cell fe 4,cell fe 5,cell fe 6,cell fe 7,cell fe 8],.agg [cell (aI 5 [120]) 0,cell (aI 5 [120]) 1,cell (aI 5 [120]) 2,cell (aI 5 [120]) 3,cell (aI 5 [120]) 4,.str [116,48],cell (aI 5 [120]) 6,cell (aI 5 [120]) 7,cell (aI 5 [120]) 8,cell (aI 5 [120]) 9,cell (aI 5 [120]) 10,cell (aI 5 [120]) 11,.rs 5 (DO.map ao.pv)]]=some (.aZ [z9,.int .i64 6]):=sf XV Uo (Ul (N:=E5) (by decide+kernel) (by kernel_rfl) (by decide))
theorem Mw:bY [.agg [cell fe 0,cell fe 1,cell fe 2,cell fe 3,cell fe 4,cell fe 5,cell fe 6,cell fe 7,cell fe 8],.agg [cell QQ.pv 0,cell QQ.pv 1,cell QQ.pv 2,cell QQ.pv 3,cell QQ.pv 4,cell QQ.pv 5,cell QQ.pv 6,cell QQ.pv 7,cell QQ.pv 8]]=some (.rs 1 [.int .i64 0]):=by refine(Gw (B:=QQ) O5).trans ((Gv E5 QQ ⟨by decide,fun x hx=>Uj.runs.2 x hx|>.calls.1⟩ (by decide)).trans ?_);kernel_rfl
theorem QR:bK [.agg [cell fe 0,cell fe 1,cell fe 2,cell fe 3,cell fe 4,cell fe 5,cell fe 6,cell fe 7,cell fe 8],.agg [cell (aI 2 [116,48]) 0,cell (aI 2 [116,48]) 1,cell (aI 2 [116,48]) 2,cell (aI 2 [116,48]) 3,cell (aI 2 [116,48]) 4,cell (aI 2 [116,48]) 5,cell (aI 2 [116,48]) 6,cell (aI 2 [116,48]) 7,cell (aI 2 [116,48]) 8,cell (aI 2 [116,48]) 9,cell (aI 2 [116,48]) 10,cell (aI 2 [116,48]) 11,cell (aI 2 [116,48]) 12]]=some (.aZ [.int .i64 0,.bool true]):=(AA O5 Um).trans ((u7 E5 _ (by decide)).trans (by kernel_rfl))
theorem aaa:dN [.agg [cell fe 0,cell fe 1,cell fe 2,cell fe 3,cell fe 4,cell fe 5,cell fe 6,cell fe 7,cell fe 8],.rs 13 [.agg [cell (aI 5 [120]) 0,cell (aI 5 [120]) 1,cell (aI 5 [120]) 2,cell (aI 5 [120]) 3,cell (aI 5 [120]) 4,.str [116,48],cell (aI 5 [120]) 6,cell (aI 5 [120]) 7,cell (aI 5 [120]) 8,cell (aI 5 [120]) 9,cell (aI 5 [120]) 10,cell (aI 5 [120]) 11,.rs 5 (DO.map ao.pv)],.agg [cell (aI 2 [116,48]) 0,cell (aI 2 [116,48]) 1,cell (aI 2 [116,48]) 2,cell (aI 2 [116,48]) 3,cell (aI 2 [116,48]) 4,cell (aI 2 [116,48]) 5,cell (aI 2 [116,48]) 6,cell (aI 2 [116,48]) 7,cell (aI 2 [116,48]) 8,cell (aI 2 [116,48]) 9,cell (aI 2 [116,48]) 10,cell (aI 2 [116,48]) 11,cell (aI 2 [116,48]) 12]]]=some (.aZ [QQ.pv,.rs 1 [.int .i64 6,.int .i64 0]]):=by
 refine(IK _ _ E5 [qn 5 [116,48] 0 0 0 DO,qn 2 [116,48] 0 0 0 []] O5 rfl (fun k hk=>?_) O6 zu (by decide) (by decide) ?_ ?_).trans ?_
 ·match k,hk with
  |0,_=>exact⟨_,rfl,XV⟩
  |1,_=>exact⟨_,rfl,Um⟩
 ·intro m hm;simp only[List.mem_cons,List.not_mem_nil,or_false]at hm;rcases hm with rfl|rfl
  ·exact Uo.1
  ·exact Un.1
 ·intro m hm;simp only[List.mem_cons,List.not_mem_nil,or_false]at hm;rcases hm with rfl|rfl
  ·exact Uo.2
  ·exact Un.2
 ·kernel_rfl
theorem afQ:asAgg 9 z9=some ():=rfl
theorem Dg:da []=some (.bool true):=by simp only[da,kv,iY,Z8,WI,Mv,acX,Z9,U,ab,if_true,ac0,ac1,ac4,ac7,ada,adb,bA,List.length_cons,List.length_nil,Nat.reduceAdd,List.getD_cons_zero,List.getD_cons_succ,asInt,mF,afQ,QR,aaa,Mw];kernel_rfl
end Go.Ab.Tt
namespace Go.Ab.Tt
set_option maxRecDepth 100000
set_option linter.unusedVariables false
set_option linter.unusedSimpArgs false
theorem My{l:List ax}(h:(fA l).2=0):l.length≤64:=by
 unfold fA at h;by_cases tz:l.length>64
 ·rw[if_pos tz]at h;cases h
 ·omega
theorem QS{l:List aS}{a b c:Int}(h:(dG l a b c).2=0):l.length≤16:=by
 unfold dG at h;split at h
 ·cases h
 ·by_cases h16:l.length>16
  ·rw[if_pos h16]at h;cases h
  ·omega
def Dh(N:ag):Bool:= !(decide ((N.stops.length:Int)>5)||decide ((N.runs.length:Int)>7)||decide ((N.ah.length:Int)>30)||decide ((N.paths.length:Int)>60))&&(!((List.range N.runs.length).any fun k=>(N.runs[k]?).elim false fun r=>decide ((r.calls.length:Int)>6))&&decide ((dg N).2.2=0))
theorem Up(N:ag)(h:N.Ok):jS [N.pv]=some (.bool (Dh N)):=by
 have hm:=aT;have hr:=h.runs.1;simp only[jS,uB,mF,nW,nX,nY,nZ,oa,ob,oc,od,og,U,aW,List.length_map];unfold Dh;by_cases hc:(decide ((N.stops.length:Int)>5)||decide ((N.runs.length:Int)>7)||decide ((N.ah.length:Int)>30)||decide ((N.paths.length:Int)>60))=true
 ·rw[if_pos hc,hc];rfl
 ·rw[if_neg hc];have Re:(decide ((N.stops.length:Int)>5)||decide ((N.runs.length:Int)>7)||decide ((N.ah.length:Int)>30)||decide ((N.paths.length:Int)>60))=false:=by simpa using hc
  rw[Re,Bool.not_false,Bool.true_and];refine(pL (fun k=>((k:Int),N.stops.map Stop.pv,N.af.map ax.pv,N.runs.map bq.pv,N.ah.map aC.pv,N.paths.map Path.pv,N.au.map aS.pv,N.aR,N.within,N.cap,())) N.runs.length (fun k=>(N.runs[k]?).elim false fun r=>decide ((r.calls.length:Int)>6)) (no:=some (.bool false)) (fin:=some (.bool (decide ((dg N).2.2=0)))) (fun k hk rec=>?_) (fun rec=>?_) (by have:=aP;omega) rfl).trans ?_
  ·unfold qf;dsimp only;rw[List.length_map,if_pos (by rw[decide_eq_true_eq];omega),aq,List.getElem?_map,List.getElem?_eq_getElem hk];simp only[Option.map_some,U,AQ,ab,if_true,List.length_map,ak (show k<9223372036854775807 by omega),Option.elim];rfl
  ·unfold qf;dsimp only;rw[List.length_map,if_neg (by simp)];have hp:N.paths.length≤4096:=by simp only[Bool.or_eq_false_iff,decide_eq_false_iff_not]at Re;omega
   simp only[tu,ID N h hp,U,asBool]
  ·cases((List.range N.runs.length).any fun k=>(N.runs[k]?).elim false fun r=>decide ((r.calls.length:Int)>6))<;>rfl
theorem QT{N:ag}(h:Dh N=true):N.runs.length≤7∧N.paths.length≤60∧(dg N).2.2=0∧(N.Ok→Dv N):=by
 unfold Dh at h;simp only[Bool.and_eq_true,Bool.not_eq_true',Bool.or_eq_false_iff,decide_eq_false_iff_not,decide_eq_true_eq]at h;obtain⟨⟨⟨⟨h1,h2⟩,h3⟩,h4⟩,h7,hv⟩:=h;have s9:∀r∈N.runs,r.calls.length≤6:=fun r hr=>by obtain⟨k,hk,rfl⟩:=List.getElem_of_mem hr;rw[List.any_eq_false]at h7;have:=h7 k (by simpa using hk);rw[List.getElem?_eq_getElem hk]at this;simp only[Option.elim,decide_eq_true_eq]at this;omega
 have hz:=(nr N).1 hv;have r1:=My hz.2.1;have r2:=QS hz.2.2.2.2.2;exact⟨by omega,by omega,hv,fun ho=>⟨ho,by omega,by omega,by omega,by omega,by omega,by omega,fun r hr=>by have:=s9 r hr;omega⟩⟩
def IQ(m:eZ):Bool:=decide ((m.cX.length:Int)≤1024)&&decide ((m.calls.length:Int)≤40)
theorem Mz(m:eZ):hZ [m.pv]=some (.bool (IQ m)):=by simp only[hZ,re,AU,AV,AW,AX,AY,AZ,A0,A1,A2,A3,A4,tf,tg,yg,U,asInt,bh,ab,if_true,asBool,cT,List.length_map];rfl
theorem WJ{m:eZ}(h:IQ m=true):m.calls.length≤40:=by simp only[IQ,Bool.and_eq_true,decide_eq_true_eq]at h;omega
theorem MA{p q:PV}{A B:ag}(hp:Az p A)(hq:Az q B)(hA:A.Ok):fj [p,q]=some (.bool (eqN A B)):=by have h:=Qr A B hA;simp only[fj,nh,mF,nW,nX,nY,nZ,oa,ob,oc,od,og,U]at h;simp only[fj,nh,hp.hA,hp.h0,hp.h1,hp.h2,hp.h3,hp.h4,hp.h5,hp.h6,hp.h7,hp.h8,hq.hA,hq.h0,hq.h1,hq.h2,hq.h3,hq.h4,hq.h5,hq.h6,hq.h7,hq.h8,U];exact h
theorem ade(N:ag):PV.agg [cell N.pv 0,cell N.pv 1,cell N.pv 2,cell N.pv 3,cell N.pv 4,cell N.pv 5,cell N.pv 6,cell N.pv 7,cell N.pv 8]=N.pv:=rfl
end Go.Ab.Tt
namespace Go.Ab.Tt
set_option maxRecDepth 100000
set_option linter.unusedVariables false
set_option linter.unusedSimpArgs false
end Go.Ab.Tt
namespace Go.Ab.Tt
set_option maxRecDepth 100000
set_option linter.unusedVariables false
set_option linter.unusedSimpArgs false
theorem IU:∀(l:List eZ)(N:ag)(er:List Int),Dv N→(dg N).2.2=0→N.runs.length+l.length<100→(∀m∈l,m.Ok)→Dv (DN N er l).1∧(DN N er l).2.length=er.length+l.length
 |[],N,er,h,_,_,_=>⟨h,rfl⟩
 |m::l,N,er,h,hv,hr,hm=>by have hs:=De N m;have DC:=zt (m:=m) hv;have hlen:=hs.len;simp only[List.length_cons]at hr;obtain⟨h1,h2⟩:=IU l (zs N m) (er++[Dd N m]) (Df h hs DC (hm m (by simp)) (by omega)) DC (by omega) (fun x hx=>hm x (by simp[hx]));refine⟨h1,?_⟩;show(DN (zs N m) (er++[Dd N m]) l).2.length=_;rw[h2];simp only[List.length_append,List.length_cons,List.length_nil];omega
theorem WK(N:ag)(l:List eZ)(h:Dv N)(hv:(dg N).2.2=0)(hl:l.length≤10)(hr:N.runs.length≤7)(FI:∀m∈l,m.Ok)(O4:∀m∈l,m.calls.length≤1000)(rec:_→Option PV):gm bI (l.map eZ.pv,(l.length:Int),N.stops.map Stop.pv,N.af.map ax.pv,N.runs.map bq.pv,N.ah.map aC.pv,N.paths.map Path.pv,N.au.map aS.pv,N.aR,N.within,N.cap,()) rec=some (.bool true):=by
 have h1:=Ug N l h hv (by omega) (by omega) FI O4;have h2:=WH N l h hv (by omega) (by omega) FI O4;obtain⟨hX,hXl⟩:=IU l N [] h hv (by omega) FI;unfold gm;dsimp only;rw[List.length_map,if_neg (by simp)];simp only[tu,h1,h2,U];generalize DN N [] l=X at hX hXl⊢;have T9:1003<rounds:=by decide
 simp only[List.length_nil,Nat.zero_add]at hXl;unfold E2;simp only[U,bA,List.length_cons,List.length_nil,Nat.reduceAdd,List.getD_cons_zero,List.getD_cons_succ,if_true,mF,ab,List.length_map,oi,decide_true,Bool.not_true,Bool.false_eq_true,if_false];refine bp (fun k=>(X.2.map fun e=>PV.int .i64 e,X.2.map fun e=>PV.int .i64 e,(k:Int),cell X.1.pv 0,cell X.1.pv 1,cell X.1.pv 2,cell X.1.pv 3,cell X.1.pv 4,cell X.1.pv 5,cell X.1.pv 6,cell X.1.pv 7,cell X.1.pv 8,cell X.1.pv 0,cell X.1.pv 1,cell X.1.pv 2,cell X.1.pv 3,cell X.1.pv 4,cell X.1.pv 5,cell X.1.pv 6,cell X.1.pv 7,cell X.1.pv 8,())) X.2.length (fun k hk rec=>?_) (fun rec=>?_) (by omega) rfl
 ·unfold jF;dsimp only;have hi:Ab.asInt .i64 (cell (PV.int .i64 X.2[k]) 0)=some X.2[k]:=rfl;rw[List.length_map,if_pos (by rw[decide_eq_true_eq];omega),aq,List.getElem?_map,List.getElem?_eq_getElem hk];simp only[Option.map_some,U,hi,bne_self_eq_false,Bool.false_eq_true,if_false,ak (show k<9223372036854775807 by omega)]
 ·unfold jF;dsimp only;rw[List.length_map,if_neg (by simp)];simp only[ade,MA (O3 X.1) (O3 X.1) hX.ok,Ts,U,asBool,Dg,cond_true]
theorem WL(N:ag)(l:List eZ)(h:N.Ok)(hl:l.length≤maxLen∧∀m∈l,m.Ok):fD [N.pv,.rs 13 (l.map eZ.pv)]=some (.bool true):=by
 simp only[fD,mB,mF,nW,nX,nY,nZ,oa,ob,oc,od,og,U,tu,Up N h];simp only[ab,if_true,U,asBool,aW,Dg,List.length_map];by_cases hc:(!Dh N||decide ((l.length:Int)>10))=true
 ·rw[if_pos hc]
 ·rw[if_neg hc];simp only[Bool.or_eq_true,not_or,Bool.not_eq_true',Bool.not_eq_false,decide_eq_true_eq]at hc;obtain⟨hr,_,hv,hL⟩:=QT hc.1;have T9:1003<rounds:=by decide
  have Rm:∀m:eZ,PV.agg [cell m.pv 0,cell m.pv 1,cell m.pv 2,cell m.pv 3,cell m.pv 4,cell m.pv 5,cell m.pv 6,cell m.pv 7,cell m.pv 8,cell m.pv 9,cell m.pv 10,cell m.pv 11,cell m.pv 12]=m.pv:=fun _=>rfl;refine(mS (fun k=>(l.map eZ.pv,(k:Int),N.stops.map Stop.pv,N.af.map ax.pv,N.runs.map bq.pv,N.ah.map aC.pv,N.paths.map Path.pv,N.au.map aS.pv,N.aR,N.within,N.cap,())) l.length (fun k=>if(l[k]?).elim true IQ=true then none else some (some (PV.bool true))) (fin:=some (.bool true)) (fun k hk sJ rec=>?_) (fun sJ rec=>?_) (by omega) rfl).trans ?_
  ·unfold gm;dsimp only;rw[List.length_map,if_pos (by rw[decide_eq_true_eq];omega),aq,List.getElem?_map,List.getElem?_eq_getElem hk];simp only[Option.map_some,U,Rm,Mz,asBool,Dg,Option.elim_some,ak (show k<9223372036854775807 by omega)];by_cases hx:IQ l[k]=true<;>simp[hx,cY]
  ·refine WK N l (hL h) hv (by omega) hr hl.2 (fun m hm=>?_) rec;obtain⟨k,hk,rfl⟩:=List.getElem_of_mem hm;have:=sJ k hk;rw[List.getElem?_eq_getElem hk,Option.elim_some]at this;by_cases hx:IQ l[k]=true
   ·have:=WJ hx;omega
   ·rw[if_neg hx]at this;cases this
  ·cases ho:(List.range l.length).findSome? (fun k=>if(l[k]?).elim true IQ=true then none else some (some (PV.bool true)))with
   |none=>rfl
   |some o=>
    obtain⟨k,_,hk⟩:=List.exists_of_findSome?_eq_some ho;by_cases hx:(l[k]?).elim true IQ=true
    ·rw[if_pos hx]at hk;cases hk
    ·rw[if_neg hx]at hk;cases hk;rfl
end Go.Ab.Tt
