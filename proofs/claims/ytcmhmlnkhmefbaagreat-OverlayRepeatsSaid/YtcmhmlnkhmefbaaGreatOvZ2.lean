import Derived.Test.YtcmhmlnkhmefbaaGreatOvZ1
import Derived.Test.YtcmhmlnkhmefbaaGreatSh3
import Derived.Test.YtcmhmlnkhmefbaaGreatNkP2
namespace Go.Ab.Tt
set_option maxRecDepth 100000
set_option linter.unusedVariables false
set_option linter.unusedSimpArgs false
def CA(ms:List PV)(len k:Int)(N:ag)(er:List PV):=(ms,(0:Int),len,k,(0:Int),(0:Int),(0:Int),N.aO,N.within,N.cap,er,N.stops.map Stop.pv,N.ae.map av.pv,N.runs.map bA.pN,N.ah.map aH.pv,N.paths.map Path.pv,N.ar.map aR.pv,())
def D9(ms:List PV)(len kk:Int)(er:List PV)(N:ag)(i c:Nat)(a:Int)(k:Nat)(out:List PV):=((i:Int),(c:Int),a,((N.runs[i]?).elim 0 fun r=>(r.calls.length:Int)),(k:Int),(i:Int),ms,(0:Int),len,kk,N.runs.map bA.pN,out,N.aO,N.within,N.cap,(0:Int),(0:Int),(0:Int),er,N.stops.map Stop.pv,N.ae.map av.pv,N.ah.map aH.pv,N.paths.map Path.pv,N.ar.map aR.pv,())
theorem Ns(er:List PV)(h:er.length≤1000)(x:PV):(er++[x]).length*8≤aa∧0<8:=by
 have:1001*8≤aa:=by decide
 refine⟨?_,by decide⟩;rw[List.length_append,List.length_singleton];omega
theorem Ye(ms:List PV)(len:Int)(kk:Nat)(xQ:kk<1000)(er:List PV)(Yf:er.length≤1000)(cX:_→Option PV)(N:ag)(h:Pk N)(i c:Nat)(hi:i<N.runs.length)(hc:c<N.runs[i].calls.length)(ho:uv N.runs[i].calls=true)(a:Int)(h0:0≤a)(h1:a≤8000000000):cd.run (fx cd cX) (D9 ms len kk er N i c a 0 (N.runs[i].calls.map aw.pv))=match gv (N.runs[i].calls.drop c) a with|some r=>cX (CA ms len (kk+1:Nat) (Fz N i (N.runs[i].calls.take c++r)) (er++[.int .i64 0]))|none=>cX (CA ms len (kk+1:Nat) N (er++[.int .i64 10])):=by
 have hlen:=h.calls N.runs[i] (List.getElem_mem hi);have Y9:1003<rounds:=by decide
 have jd:=nX ho;have PT:=Ns er Yf;have hrT:∀x,((er++[x]).length*8≤aa∧0<8)=True:=fun x=>eq_true (PT x);have V9:IntKind.i64.wrap ((kk:Int)+1)=((kk+1:Nat):Int):=an (by omega);refine(Cz (D9 ms len kk er N i c) N.runs[i].calls c (cX (CA ms len (kk+1:Nat) N (er++[.int .i64 10]))) (fun out=>cX (ms,0,len,((kk+1:Nat):Int),0,0,0,N.aO,N.within,N.cap,er++[.int .i64 0],N.stops.map Stop.pv,N.ae.map av.pv,(N.runs.map bA.pN).set i (.agg [.int .i64 N.runs[i].dw,.int .i64 N.runs[i].day,.int .i64 N.runs[i].inst,.str N.runs[i].id,.int .i64 N.runs[i].bk,.bool N.runs[i].free,.bool N.runs[i].nF,.fO 5 out]),N.ah.map aH.pv,N.paths.map Path.pv,N.ar.map aR.pv,())) (fun k a out rec hk kK=>?_) (fun k a pre rec hk kK hp V4 ha1=>?_) (fun a out rec=>?_) jd (ve ho) hc (by omega) a h0 h1).trans ?_
 ·unfold D9 fx;dsimp only;rw[List.getElem?_eq_getElem hi,Option.elim_some,if_pos (by rw[decide_eq_true_eq];omega),if_pos (by rw[decide_eq_true_eq];omega),an (by omega),Int.toNat_natCast]
 ·obtain⟨d0,d1⟩:=sC (jd k kK);obtain⟨s0,s1,s2⟩:=jd k kK;have hlm:=mR;have YY:=HD pre N.runs[i].calls k hp (by omega);have WO:∀x,((outs pre N.runs[i].calls k).set k x).length=N.runs[i].calls.length:=fun x=>by rw[List.length_set,YY]
  unfold D9 fx;dsimp only;rw[List.getElem?_eq_getElem hi,Option.elim_some,if_pos (by rw[decide_eq_true_eq];omega),if_neg (by rw[decide_eq_true_eq];omega)];simp only[Int.toNat_natCast,qf _ _ hi,U,D7,List.length_map,im k _ kK,if_true,List.getElem?_map,List.getElem?_eq_getElem kK,Option.map_some,YY,HE pre _ k hp kK,kI2,Nl,Cy (jd k kK),D8,V5,V6,WO,HG _ _ _ (show k<(outs pre N.runs[i].calls k).length by omega),List.set_set,wrap_small (show-100000000000≤a+gY N.runs[i].calls[k] by omega) (show a+gY N.runs[i].calls[k]≤100000000000 by omega),V7,Nn,an (show k<9223372036854775807 by omega),HF pre _ k hp kK,decide_eq_true_eq,hrT,V9,if_true];have ep:=HC (jd k kK) V4 ha1;by_cases ux:(late N.runs[i].calls[k] a).dep>gX
  ·rw[if_pos (show(late N.runs[i].calls[k] a).dep>3155932800 by omega),if_pos ux];rfl
  ·rw[if_neg (show¬(late N.runs[i].calls[k] a).dep>3155932800 by omega),if_neg ux];by_cases hn:k+1<N.runs[i].calls.length
   ·obtain⟨n0,n1⟩:=yT (jd k kK) (jd (k+1) hn) (ve ho k hn) V4 ux;obtain⟨t0,t1,t2⟩:=jd (k+1) hn;rw[if_pos (by omega),dif_pos hn,if_pos (im _ _ hn),List.getElem?_eq_getElem hn];simp only[Option.map_some,U,kI1];rw[wrap_small (x:=N.runs[i].calls[k+1].arr+(late N.runs[i].calls[k] a).dep) (by omega) (by omega),wrap_small (by omega) (by omega)]
   ·rw[if_neg (by omega),dif_neg hn]
 ·unfold D9 fx;dsimp only;rw[List.getElem?_eq_getElem hi,Option.elim_some,if_neg (by simp)];simp only[Int.toNat_natCast,qf _ _ hi,U,Sv _ _ hi,if_true,UY,hrT,V9,if_true]
 ·cases gv (N.runs[i].calls.drop c) a with
  |none=>rfl
  |some r=>simp only[sD,←List.map_set];simp only[Fz,List.getElem?_eq_getElem hi];rfl
def SB(ms:List PV)(len kk:Int)(er:List PV)(N:ag)(i:Nat)(runs:List PV)(j k:Nat)(x:List PV):=((j:Int),(k:Int),ms,(0:Int),len,kk,x,(i:Int),N.aO,N.within,N.cap,(0:Int),(0:Int),(0:Int),er,N.stops.map Stop.pv,N.ae.map av.pv,runs,N.paths.map Path.pv,N.ar.map aR.pv,())
theorem Yg(ms:List PV)(len:Int)(kk:Nat)(xQ:kk<1000)(er:List PV)(Yf:er.length≤1000)(cX:_→Option PV)(N:ag)(h:Pk N)(i:Nat)(runs:List PV):cd.run (lK cd cX) ((N.ah.length:Int),0,ms,0,len,(kk:Int),N.ah.map aH.pv,(i:Int),N.aO,N.within,N.cap,0,0,0,er,N.stops.map Stop.pv,N.ae.map av.pv,runs,N.paths.map Path.pv,N.ar.map aR.pv,())=cX (ms,0,len,((kk+1:Nat):Int),0,0,0,N.aO,N.within,N.cap,er++[.int .i64 0],N.stops.map Stop.pv,N.ae.map av.pv,runs,(N.ah.filter (yV i)).map aH.pv,N.paths.map Path.pv,N.ar.map aR.pv,()):=by
 have hk:=h.ah;have Y9:1003<rounds:=by decide
 have PT:=Ns er Yf;have hrT:∀x,((er++[x]).length*8≤aa∧0<8)=True:=fun x=>eq_true (PT x);have V9:IntKind.i64.wrap ((kk:Int)+1)=((kk+1:Nat):Int):=an (by omega);refine Ss (fun k=>((N.ah.length:Int),(k:Int),ms,(0:Int),len,(kk:Int),N.ah.map aH.pv,(i:Int),N.aO,N.within,N.cap,(0:Int),(0:Int),(0:Int),er,N.stops.map Stop.pv,N.ae.map av.pv,runs,N.paths.map Path.pv,N.ar.map aR.pv,())) (SB ms len kk er N i runs) (body3:=lL cd cX) N.ah (yV i) (fun x=>cX (ms,0,len,((kk+1:Nat):Int),0,0,0,N.aO,N.within,N.cap,er++[.int .i64 0],N.stops.map Stop.pv,N.ae.map av.pv,runs,x,N.paths.map Path.pv,N.ar.map aR.pv,())) (fun j k x rec kK hx hj hg=>?_) (fun j x rec hx hj=>?_) (fun k rec kK=>?_) (fun rec=>?_) (by omega)
 ·unfold SB lL;dsimp only;rw[if_pos (by rw[decide_eq_true_eq];omega),if_pos (im _ _ (by omega)),Int.toNat_natCast,hg];simp only[U,FA,vg,asBool,Bool.not_not,an (show k<9223372036854775807 by omega),an (show j<9223372036854775807 by omega),im j x.length (by omega),if_true,Int.toNat_natCast,List.getElem?_eq_getElem (show j<x.length by omega)]
 ·unfold SB lL;dsimp only;rw[if_neg (by rw[hx];simp)];simp only[Int.toNat_natCast,Int.toNat_zero,Nat.sub_zero,List.drop_zero];rw[if_pos (by exact⟨by omega,by omega,by omega,trivial⟩),if_pos (by exact⟨trivial,trivial,by omega,by omega⟩),if_pos (by refine⟨by omega,by omega,?_,trivial⟩;simp only[List.length_append,List.length_take,List.length_replicate,List.length_drop];omega)];rw[if_pos (PT _),V9,List.take_append_of_le_length (by simp;omega),List.take_take,Nat.min_self]
 ·unfold lK;dsimp only;rw[if_pos (by rw[decide_eq_true_eq];omega),if_pos (im _ _ (by simpa using kK)),Int.toNat_natCast,List.getElem?_map,List.getElem?_eq_getElem kK];simp only[Option.map_some,U,FA,vg,asBool,an (show k<9223372036854775807 by omega),fa];cases hp:yV i N.ah[k]with
  |true=>simp only[Bool.not_true,Bool.false_eq_true,if_false,if_true]
  |false=>simp only[Bool.not_false,if_true,Bool.false_eq_true,if_false];rw[if_neg (by rw[decide_eq_true_eq];omega)];rfl
 ·unfold lK;dsimp only;rw[if_neg (by simp),if_pos (PT _),V9]
theorem SC(ms:List PV)(len:Int)(kk:Nat)(xQ:kk<1000)(er:List PV)(Yf:er.length≤1000)(cX:_→Option PV)(l:List gP)(hl:l.length<1000)(q:PV)(aeR:bd ms (kk:Int)=some q)(hlen:len=(l.length:Int))(kK:kk<l.length)(N:ag)(h:Pk N)(VP:∀m∈l,m.Ok)(hv:(dD N).2.2=0)(hmc:∀m∈l,m.calls.length≤1000)(hL:nu q l[kk]):iX cd (CA ms len kk N er) cX=cX (CA ms len (kk+1:Nat) (if fU l[kk]=0 then(if(sX N l[kk]).2=0 then(sX N l[kk]).1 else N)else N) (er++[.int .i64 (if fU l[kk]=0 then(sX N l[kk]).2 else fU l[kk])])):=by
 have PT:=Ns er Yf;have hrT:∀x,((er++[x]).length*8≤aa∧0<8)=True:=fun x=>eq_true (PT x);have V9:IntKind.i64.wrap ((kk:Int)+1)=((kk+1:Nat):Int):=an (by omega);have hm:=VP _ (List.getElem_mem kK);have hc:=hmc _ (List.getElem_mem kK);have br:decide ((kk:Int)<len)=true:=by rw[decide_eq_true_eq];omega
 generalize l[kk]=m at hm hc hL⊢;have hmk:=(HH hL.agg).trans (HA m hm);have hr:=h.runs;have ht:=uz N m (by
  have:1000≤maxLen:=by decide
  omega)
 have VD:PV.agg [cell q 0,cell q 1,cell q 2,cell q 3,cell q 4,cell q 5,cell q 6,cell q 7,cell q 8,cell q 9,cell q 10,cell q 11,cell q 12]=Nr q:=rfl;have ht:=(zX (SA N) hL.agg).trans ht;conv=>lhs;unfold CA iX
 dsimp only;rw[if_pos br,aeR];simp only[U,VD,hmk,asInt,if_true,bne_self_eq_false,Bool.false_eq_true,if_false,kq,yF,ht];simp only[fa,decide_eq_true_eq];by_cases FV:fU m=0;case neg=>rw[if_neg FV,if_neg FV,if_neg FV,if_pos (PT _),V9];rfl
 rw[if_pos FV,if_pos FV,if_pos FV];unfold sX HB;simp only[hL.h4,hL.h5,hL.h6,hL.h7,hL.h8,hL.h9,hL.FT,hL.Yb,hL.Yc,U];simp only[asInt,bx,ab,asBool,if_true,U,fa,decide_eq_true_eq,hrT,V9,if_true];by_cases k5:m.kind=5
 ·simp only[k5,if_true];cases htg:Ao N.runs m with
  |some i=>simp only[bU,List.length_cons,List.length_nil,Nat.reduceAdd,if_true,U,List.getD_cons_zero,List.getD_cons_succ,asInt,asBool,Option.isSome_some];rfl
  |none=>
   have gz:=nU m.calls N.stops.length 0 3155932800 hm.calls.1;simp only[res]at gz;have X9:=vf m.calls (by omega);simp only[bU,List.length_cons,List.length_nil,Nat.reduceAdd,if_true,U,List.getD_cons_zero,List.getD_cons_succ,asInt,asBool,Option.isSome_none,Bool.false_eq_true,if_false,List.length_map,bn,Bool.or_eq_true,decide_eq_true_eq,gz,uA];by_cases mi:m.bk<0∨m.bk≥(N.ae.length:Int)
   ·rw[if_pos mi,if_pos mi];rfl
   ·rw[if_neg mi,if_neg mi];by_cases he:(bu m.calls (N.stops.length:Int) 0 3155932800).2=0
    ·rw[if_pos he,if_neg (show¬((N.runs.length:Int)≥1024) by omega),X9];simp only[U,ab,if_true,he,ne_eq,not_true,if_false,if_neg (show¬(N.runs.length≥1024) by omega)];rw[if_pos (by
      have:101*80≤aa:=by decide
      rw[List.length_append,List.length_map,List.length_singleton];omega)]
     unfold CA;rw[List.map_append];rfl
    ·rw[if_neg he,if_pos he];simp only[if_neg he];rfl
 ·simp only[if_neg k5];cases htg:Ao N.runs m with
  |none=>simp only[bU,List.length_cons,List.length_nil,Nat.reduceAdd,if_true,U,List.getD_cons_zero,List.getD_cons_succ,asInt,asBool,Bool.not_false];rfl
  |some i=>
   obtain⟨hi,zP,_⟩:=xC htg;have pS:af (i:Int) N.runs.length:=⟨by omega,by omega⟩;have sd:=uh hv N.runs[i] (List.getElem_mem hi);simp only[bU,List.length_cons,List.length_nil,Nat.reduceAdd,if_true,U,List.getD_cons_zero,List.getD_cons_succ,asInt,asBool,Bool.not_true,Bool.false_eq_true,if_false,qf _ _ hi,List.getElem?_eq_getElem hi,pS,D7,Int.toNat_natCast,List.length_map,bn,dy,Bool.or_eq_true,decide_eq_true_eq];have To:((decide (m.kind=1)||decide (m.kind=3))&&(decide (m.call<0)||decide (m.call≥(N.runs[i].calls.length:Int))))=decide ((m.kind=1∨m.kind=3)∧(m.call<0∨m.call≥(N.runs[i].calls.length:Int))):=by rw[Bool.eq_iff_iff];simp
   rw[To];simp only[decide_eq_true_eq];by_cases hn:(m.kind=1∨m.kind=3)∧(m.call<0∨m.call≥(N.runs[i].calls.length:Int))
   ·rw[if_pos hn,if_pos hn];rfl
   rw[if_neg hn,if_neg hn];by_cases k1:m.kind=1
   ·simp only[k1,if_true];have OU:¬(m.call<0∨m.call≥(N.runs[i].calls.length:Int)):=fun hh=>hn ⟨.inl k1,hh⟩;have aeQ:=not_or.1 OU;unfold prop;rw[if_neg OU,if_neg (show¬(m.call<0∨m.call≥(N.runs[i].calls.length:Int))from OU)];by_cases hs:m.bT< -43200∨m.bT>43200
    ·rw[if_pos hs,if_pos hs];rfl
    rw[if_neg hs,if_neg hs];obtain⟨c,CO⟩:∃c:Nat,m.call=(c:Int):=⟨m.call.toNat,by omega⟩;have vD:c<N.runs[i].calls.length:=by omega
    have hlen:=h.calls N.runs[i] (List.getElem_mem hi);have ho:=xH N.runs[i].calls (by
     have:1000≤maxLen:=by decide
     omega)
    have hrq:NK (cell N.runs[i].pN 7)=some (.rs 5 (N.runs[i].calls.map aw.pv)):=rfl;simp only[hrq,U,ho,asBool];cases Ya:uv N.runs[i].calls with
    |false=>rfl
    |true=>
     have eu:0≤(N.runs[i].calls.length:Int)∧(N.runs[i].calls.length:Int)≤(N.runs[i].calls.length:Int)∧(N.runs[i].calls.length:Int).toNat*32≤aa∧0<32∧0<5:=by
      have:1000*32≤aa:=by decide
      refine⟨by omega,by omega,?_,by decide,by decide⟩;rw[Int.toNat_natCast];omega
     rw[if_neg (by decide),if_pos (by rw[Int.toNat_natCast]at eu;exact eu)];simp only[CO,Int.toNat_natCast];obtain⟨a1,a2⟩:=Nk Ya vD (show-43200≤m.bT by omega) (show m.bT≤43200 by omega);have hA:=Ye ms len kk xQ er Yf cX N h i c hi vD Ya _ a1 (by omega);have Tq:∀z:PV,List.take (List.replicate N.runs[i].calls.length z).length (N.runs[i].calls.map aw.pv)++List.drop N.runs[i].calls.length (List.replicate N.runs[i].calls.length z)=N.runs[i].calls.map aw.pv:=fun z=>by rw[List.length_replicate,List.take_of_length_le (by simp),List.drop_eq_nil_of_le (by simp),List.append_nil]
     have key:∀A,A=nc N.runs[i].calls c m.bT→cd.run (fx cd cX) ((i:Int),(c:Int),A,(N.runs[i].calls.length:Int),0,(i:Int),ms,0,len,(kk:Int),N.runs.map bA.pN,N.runs[i].calls.map aw.pv,N.aO,N.within,N.cap,0,0,0,er,N.stops.map Stop.pv,N.ae.map av.pv,N.ah.map aH.pv,N.paths.map Path.pv,N.ar.map aR.pv,())=match gv (N.runs[i].calls.drop c) (nc N.runs[i].calls c m.bT)with|some r=>cX (CA ms len (kk+1:Nat) (Fz N i (N.runs[i].calls.take c++r)) (er++[.int .i64 0]))|none=>cX (CA ms len (kk+1:Nat) N (er++[.int .i64 10])):=by intro A sY;subst sY;unfold D9 at hA;rw[List.getElem?_eq_getElem hi]at hA;exact hA
     have hlm:=mR;obtain⟨s0,s1,s2⟩:=nX Ya c vD;cases c with
     |zero=>rw[if_neg (by decide),if_pos (im _ _ vD)];simp only[List.getElem?_map,List.getElem?_eq_getElem vD,Option.map_some,U,zI,asInt,if_true,Tq];refine(key _ ?_).trans (by split<;>rename_i hx<;>simp only[hx,Fz,List.getElem?_eq_getElem hi]<;>rfl);rw[wrap_small (by omega) (by omega)];unfold nc;rw[List.getElem?_eq_getElem vD];simp only[iy,Option.map_some,Option.map_none,Option.getD_none,Option.getD_some];by_cases hx:N.runs[i].calls[0].arr+m.bT<0<;>simp[hx]
     |succ j=>
      have hj:j<N.runs[i].calls.length:=by omega
      rw[if_pos (by omega),vb j (by omega),if_pos (im _ _ hj)];simp only[Int.toNat_natCast,List.getElem?_map,List.getElem?_eq_getElem hj,Option.map_some,U,zI,zJ,asInt,if_true,Tq,im _ _ vD,List.getElem?_eq_getElem vD];refine(key _ ?_).trans (by split<;>rename_i hx<;>simp only[hx,Fz,List.getElem?_eq_getElem hi]<;>rfl);rw[wrap_small (by omega) (by omega)];unfold nc;rw[List.getElem?_eq_getElem vD];simp only[iy,List.getElem?_eq_getElem hj,Option.map_some,Option.getD_some]
   simp only[if_neg k1];by_cases k2:m.kind=2
   ·simp only[k2,if_true,qf _ _ hi,U,V8,←List.map_set];rfl
   simp only[if_neg k2];by_cases k3:m.kind=3
   ·simp only[k3,if_true];have OU:=not_or.1 (fun hh=>hn ⟨.inr k3,hh⟩:¬(m.call<0∨m.call≥(N.runs[i].calls.length:Int)));obtain⟨c,CO⟩:∃c:Nat,m.call=(c:Int):=⟨m.call.toNat,by omega⟩;have vD:c<N.runs[i].calls.length:=by omega
    simp only[CO,Int.toNat_natCast,im c _ vD,if_true,List.getElem?_map,List.getElem?_eq_getElem vD,Option.map_some,U,Sy,←List.map_set,ab6,List.length_set,List.length_map,pS,List.getElem?_set_self hi,D7,List.getElem?_set_self vD,Sz,List.set_set,kq];simp only[nr,List.getElem?_eq_getElem vD];rfl
   simp only[if_neg k3];by_cases k4:m.kind=4
   ·simp only[k4,if_true];have gz:=nU m.calls N.stops.length 0 3155932800 hm.calls.1;simp only[res]at gz;have X9:=vf m.calls (by omega);simp only[gz,U,bU,List.length_cons,List.length_nil,Nat.reduceAdd,if_true,List.getD_cons_zero,List.getD_cons_succ,asInt,uA];by_cases he:(bu m.calls (N.stops.length:Int) 0 3155932800).2=0
    ·simp only[he,X9,U,ab,if_true,ne_eq,not_true,if_false];rw[Yg ms len kk xQ er Yf cX N h i,UY,sD];rw[←List.map_set];rfl
    ·rw[if_neg he,if_pos he];simp only[if_neg he];rfl
   simp only[if_neg k4];rfl
def sE(N:ag)(m:gP):ag:=if fU m=0 then(if(sX N m).2=0 then(sX N m).1 else N)else N
def Ap(N:ag)(m:gP):Int:=if fU m=0 then(sX N m).2 else fU m
def Yh(N:ag)(er:List Int):List gP→ag×List Int
 |[]=>(N,er)
 |m::l=>Yh (sE N m) (er++[Ap N m]) l
theorem Ea{N:ag}{m:gP}(h:(dD N).2.2=0):(dD (sE N m)).2.2=0:=by
 unfold sE;by_cases h1:fU m=0
 ·rw[if_pos h1];by_cases h2:(sX N m).2=0
  ·rw[if_pos h2];exact Pg N m h h1 h2
  ·rw[if_neg h2];exact h
 ·rw[if_neg h1];exact h
end Go.Ab.Tt
namespace Go.Ab.Tt
set_option maxRecDepth 100000
set_option linter.unusedVariables false
set_option linter.unusedSimpArgs false
structure po(N N':ag)(m:gP):Prop where
 stops:N'.stops=N.stops
 ae:N'.ae=N.ae
 paths:N'.paths=N.paths
 ar:N'.ar=N.ar
 aO:N'.aO=N.aO
 within:N'.within=N.within
 cap:N'.cap=N.cap
 ah:N'.ah.length≤N.ah.length∧∀x∈N'.ah,x∈N.ah
 len:N'.runs.length≤N.runs.length+1
 runs:∀r∈N'.runs,(∃r0∈N.runs,r.dw=r0.dw∧r.inst=r0.inst∧r.id=r0.id∧r.day=r0.day∧r.bk=r0.bk)∨(r.dw= -1∧r.inst=m.inst∧r.id=m.dw∧r.day=m.day∧r.bk=m.bk)
theorem po.rfl'(N:ag)(m:gP):po N N m:=⟨rfl,rfl,rfl,rfl,rfl,rfl,rfl,⟨Nat.le_refl _,fun _ h=>h⟩,Nat.le_succ _,fun r h=>.inl ⟨r,h,rfl,rfl,rfl,rfl,rfl⟩⟩
theorem xI{N:ag}{m:gP}{i:Nat}{r x:bA}(hr:N.runs[i]?=some r)(h:x.dw=r.dw∧x.inst=r.inst∧x.id=r.id∧x.day=r.day∧x.bk=r.bk)(ls:List aH)(hl:ls.length≤N.ah.length∧∀y∈ls,y∈N.ah):po N {N with runs:=N.runs.set i x,ah:=ls} m:=by
 refine⟨rfl,rfl,rfl,rfl,rfl,rfl,rfl,hl,by simp,fun q hq=>.inl ?_⟩;rcases List.mem_or_eq_of_mem_set hq with hq|hq
 ·exact⟨q,hq,rfl,rfl,rfl,rfl,rfl⟩
 ·subst hq;exact⟨r,List.mem_of_getElem? hr,h⟩
theorem SD(N:ag)(m:gP):po N (sX N m).1 m:=by
 unfold sX;by_cases k5:m.kind=5
 ·rw[if_pos k5];split
  ·exact po.rfl' N m
  ·split
   ·exact po.rfl' N m
   ·split
    ·exact po.rfl' N m
    ·split
     ·exact po.rfl' N m
     ·refine⟨rfl,rfl,rfl,rfl,rfl,rfl,rfl,⟨Nat.le_refl _,fun _ h=>h⟩,by simp,fun r h=>?_⟩;rcases List.mem_append.1 h with h|h
      ·exact .inl ⟨r,h,rfl,rfl,rfl,rfl,rfl⟩
      ·simp only[List.mem_singleton]at h;subst h;exact .inr ⟨rfl,rfl,rfl,rfl,rfl⟩
 ·rw[if_neg k5];cases Ao N.runs m with
  |none=>exact po.rfl' N m
  |some i=>
   dsimp only;cases hr:N.runs[i]? with
   |none=>exact po.rfl' N m
   |some r=>
    have hls:N.ah.length≤N.ah.length∧∀y∈N.ah,y∈N.ah:=⟨Nat.le_refl _,fun _ h=>h⟩;dsimp only;split
    ·exact po.rfl' N m
    ·split
     ·cases prop r.calls m.call m.bT with
      |mk o e=>
       cases o with
       |none=>exact po.rfl' N m
       |some l=>exact xI (x:={r with calls:=l}) hr ⟨rfl,rfl,rfl,rfl,rfl⟩ N.ah hls
     ·split
      ·exact xI (x:={r with nF:=true}) hr ⟨rfl,rfl,rfl,rfl,rfl⟩ N.ah hls
      ·split
       ·exact xI (x:={r with calls:=nr r.calls m.call.toNat}) hr ⟨rfl,rfl,rfl,rfl,rfl⟩ N.ah hls
       ·split
        ·split
         ·exact po.rfl' N m
         ·exact xI (x:={r with calls:=m.calls}) hr ⟨rfl,rfl,rfl,rfl,rfl⟩ _ ⟨List.length_filter_le _ _,fun y h=>(List.mem_filter.1 h).1⟩
        ·exact po.rfl' N m
theorem HI(N:ag)(m:gP):po N (sE N m) m:=by
 unfold sE;split
 ·split
  ·exact SD N m
  ·exact po.rfl' N m
 ·exact po.rfl' N m
theorem FB{x:Int}(h1: -9223372036854775808≤x)(h2:x≤9223372036854775807):jT x:=by show(decide ((-9223372036854775808:Int)≤x)&&decide (x≤(9223372036854775807:Int)))=true;simp[h1,h2]
theorem HJ{l:List aw}{n:Int}(h:(bu l n 0 3155932800).2=0)(hn:n≤100000):l.length≤32∧∀y∈l,y.Ok:=by obtain⟨h1,h2⟩:=ui h;refine⟨h2,fun y hy=>?_⟩;obtain⟨k,hk,rfl⟩:=List.mem_iff_getElem.1 hy;have he:=zM h k hk;unfold mw at he;rw[List.getElem?_eq_getElem hk]at he;have ho:∃p,lk l[k] p n 0 3155932800=0:=⟨_,he⟩;obtain⟨p,ho⟩:=ho;obtain⟨a1,a2,a3,_⟩:=pg ho;obtain⟨b1,b2,_⟩:=sB ho;exact⟨FB (by omega) (by omega),FB (by omega) (by omega),FB (by omega) (by omega)⟩
theorem HK{N N':ag}{m:gP}(h:Pk N)(hs:po N N' m)(hv:(dD N').2.2=0)(hm:m.Ok)(hl:N.runs.length<100):Pk N':=by
 have Ru:1000≤maxLen:=by decide
 have hcv:=uh hv;have s9:=yL ((mQ N').1 hv).1;refine⟨⟨?_,?_,?_,?_,?_,?_,?_,?_,?_⟩,?_,?_,?_,?_,?_,?_,?_⟩
 ·rw[hs.stops];exact h.ok.stops
 ·rw[hs.ae];exact h.ok.ae
 ·refine⟨by have:=hs.len;omega,fun r hr=>?_⟩;obtain⟨c1,c2⟩:=HJ (hcv r hr) (by omega);rcases hs.runs r hr with⟨r0,h0,e1,e2,e3,e4,e5⟩|⟨e1,e2,e3,e4,e5⟩
  ·have g:=h.ok.runs.2 r0 h0;exact⟨by rw[e1];exact g.dw,by rw[e4];exact g.day,by rw[e2];exact g.inst,by rw[e3];exact g.id,by rw[e5];exact g.bk,by omega,c2⟩
  ·exact⟨by rw[e1];exact FB (by omega) (by omega),by rw[e4];exact hm.day,by rw[e2];exact hm.inst,by rw[e3];exact hm.dw,by rw[e5];exact hm.bk,by omega,c2⟩
 ·exact⟨Nat.le_trans hs.ah.1 h.ok.ah.1,fun x hx=>h.ok.ah.2 x (hs.ah.2 x hx)⟩
 ·rw[hs.paths];exact h.ok.paths
 ·rw[hs.ar];exact h.ok.ar
 ·rw[hs.aO];exact h.ok.aO
 ·rw[hs.within];exact h.ok.within
 ·rw[hs.cap];exact h.ok.cap
 ·rw[hs.stops];exact h.stops
 ·rw[hs.ae];exact h.ae
 ·have:=hs.len;omega
 ·exact Nat.le_trans hs.ah.1 h.ah
 ·rw[hs.paths];exact h.paths
 ·rw[hs.ar];exact h.ar
 ·intro r hr;have:=(HJ (hcv r hr) (by omega)).1;omega
def Wa(x:ag×List Int):PV:=.bl [x.1.pv,.rs 1 (x.2.map fun e=>.int .i64 e)]
theorem SE(ms:List PV)(l:List gP)(Ru:∀k,(hk:k<l.length)→∃q,ms[k]?=some q∧nu q l[k])(hl:l.length≤50)(VP:∀m∈l,m.Ok)(hmc:∀m∈l,m.calls.length≤1000):∀(j k:Nat)(N:ag)(er:List Int)(fu:Nat),k+j=l.length→j<fu→Pk N→(dD N).2.2=0→N.runs.length+j<100→er.length≤k→cF (iX cd) fu (CA ms (l.length:Int) k N (er.map fun e=>.int .i64 e))=some (Wa (Yh N er (l.drop k))):=by
 intro j;induction j with
 |zero=>
  intro k N er fu hk hf hN hv hr he;obtain⟨fu,rfl⟩:∃f,fu=f+1:=⟨fu-1,by omega⟩;have:k=l.length:=by omega
  subst this;rw[cF,List.drop_length];unfold CA iX;dsimp only;rw[if_neg (by simp),kq];rfl
 |succ j ih=>
  intro k N er fu hk hf hN hv hr he;obtain⟨fu,rfl⟩:∃f,fu=f+1:=⟨fu-1,by omega⟩;have kK:k<l.length:=by omega
  obtain⟨q,Zy,Vp⟩:=Ru k kK;rw[cF,SC _ _ k (by omega) _ (by simp;omega) _ l (by omega) q (by rw[az];exact Zy) rfl kK N hN VP hv hmc Vp];have hs:=HI N l[k];have FU:=Ea (m:=l[k]) hv;have hlen:=hs.len;have:=ih (k+1) (sE N l[k]) (er++[Ap N l[k]]) fu (by omega) (by omega) (HK hN hs FU (VP _ (List.getElem_mem kK)) (by omega)) FU (by omega) (by simp;omega);rw[List.map_append]at this;rw[List.drop_eq_getElem_cons kK];exact this
theorem SF(p:PV)(ms:List PV)(N:ag)(l:List gP)(hp:zW p N)(Ad:ms.length=l.length)(Ru:∀k,(hk:k<l.length)→∃q,ms[k]?=some q∧nu q l[k])(h:Pk N)(hv:(dD N).2.2=0)(hl:l.length≤50)(hr:N.runs.length≤40)(VP:∀m∈l,m.Ok)(hmc:∀m∈l,m.calls.length≤1000):e9 [p,.rs 13 ms]=some (Wa (Yh N [] l)):=by
 have Y9:1003<rounds:=by decide
 have Be:=Ci N h.ok (by have:=h.paths;omega);have f1:=Cj (N.stops.map Stop.pv) (by simpa using h.stops);have f2:=zN (N.ae.map av.pv) (by simpa using h.ae);have f3:=DN (N.runs.map bA.pv) (by simp;omega);have f4:=Ck (N.ah.map aH.pv) (by simpa using h.ah);have f5:=uk (N.paths.map Path.pv) (by simpa using h.paths);have f6:=vM (N.ar.map aR.pv) (by simpa using h.ar);have key:=SE ms l Ru hl VP hmc l.length 0 N [] rounds (by omega) (by omega) h hv (by omega) (by simp);simp only[e9,tX,hp.hA,hp.h0,hp.h1,hp.h2,hp.h3,hp.h4,hp.h5,hp.h6,hp.h7,hp.h8,U];simp only[ab,if_true,U,f1,f2,f3,f4,f5,List.length_map];refine bL (fun k=>((N.runs.length:Int),(k:Int),ms,N.stops.map Stop.pv,N.ae.map av.pv,N.runs.map bA.pv,N.ah.map aH.pv,N.paths.map Path.pv,N.ar.map aR.pv,N.aO,N.within,N.cap,(0:Int),(0:Int),(0:Int),N.ar.map aR.pv,N.aO,N.within,N.cap,N.stops.map Stop.pv,N.ae.map av.pv,N.runs.map bA.pv,N.ah.map aH.pv,N.paths.map Path.pv,N.ar.map aR.pv,N.aO,N.within,N.cap,(0:Int),(0:Int),(0:Int),N.stops.map Stop.pv,N.ae.map av.pv,mix bA.pN bA.pv N.runs k,N.ah.map aH.pv,N.paths.map Path.pv,())) N.runs.length (fun k hk rec=>?_) (fun rec=>?_) (by omega) (by rw[Hi];rfl)
 ·have fc:=Cl (N.runs[k].calls.map aw.pv) (by simpa using h.calls _ (List.getElem_mem hk));unfold pt;dsimp only;rw[if_pos (by rw[decide_eq_true_eq];omega),if_pos (E4 _ _ _ _ hk),Int.toNat_natCast,M1 _ _ _ _ hk];simp only[U,EU,fc,ab,if_true,E4 _ _ _ _ hk,Nq,an (show k<9223372036854775807 by omega)];have:=M3 bA.pN bA.pv N.runs k hk;rw[←this];rfl
 ·unfold pt;dsimp only;rw[if_neg (by simp),f6];simp only[U,ab,if_true,yF,Be];simp only[fX,bU,List.length_cons,List.length_nil,Nat.reduceAdd,if_true,List.getD_cons_zero,List.getD_cons_succ,asInt,U,hv,E3,List.length_map,Ad];rw[kQ];exact key
end Go.Ab.Tt
namespace Go.Ab.Tt
set_option maxRecDepth 100000
set_option linter.unusedVariables false
set_option linter.unusedSimpArgs false
end Go.Ab.Tt
namespace Go.Ab.Tt
set_option maxRecDepth 100000
set_option linter.unusedVariables false
set_option linter.unusedSimpArgs false
theorem HL{N:ag}{m:gP}(hv:(dD N).2.2=0):rJ N m=if Ap N m=0 then .bl [(sE N m).pv,.int .i64 0]else .bl [z9,.int .i64 (Ap N m)]:=by
 unfold rJ Ap sE X7;rw[if_pos hv];by_cases h1:fU m=0
 ·rw[if_pos h1,if_pos h1,if_pos h1];by_cases h2:(sX N m).2=0
  ·rw[if_pos h2,if_pos h2,if_pos h2]
  ·rw[if_neg h2,if_neg h2]
 ·rw[if_neg h1,if_neg h1,if_neg h1]
def FC(A B:ag)(k:Nat):Bool:=decide (A.runs[k]?≠B.runs[k]?)
def FD(A B:ag)(n:Nat):List Nat:=(List.range n).filter (FC A B)
theorem Pn(A B:ag)(k:Nat):FD A B (k+1)=if FC A B k=true then FD A B k++[k]else FD A B k:=by unfold FD;rw[List.range_succ,List.filter_append];by_cases h:FC A B k=true<;>simp[h]
theorem SG(A B:ag)(k:Nat):(FD A B k).length≤k:=by unfold FD;exact Nat.le_trans (List.length_filter_le _ _) (by simp)
def SH(k:Nat):PV:=.int .i64 k
def mx(A B:ag):Nat:=max A.runs.length B.runs.length
theorem Po(x y:bA)(hx:x.calls.length≤maxLen):fm [x.pv,y.pv]=some (.bool (decide (x=y))):=by have hc:=pF x.calls y.calls hx;simp only[fm,sq,aev,Uz,OM,ON,OO,UA,XH,XI,EU,U];simp only[asInt,bx,asBool,ab,if_true,U,hc,dy,bn,fa,jC,MZ];generalize decide (x.dw=y.dw)=a1;generalize decide (x.day=y.day)=a2;generalize decide (x.inst=y.inst)=a3;generalize decide (x.id=y.id)=a4;generalize decide (x.bk=y.bk)=a5;generalize decide (x.nF=y.nF)=a7;generalize decide (x.calls=y.calls)=a8;generalize decide (x.free=y.free)=a6;cases a1<;>cases a2<;>cases a3<;>cases a4<;>rfl
theorem FE(A B:ag)(hA:A.runs.length≤1000∧∀x∈A.runs,x.calls.length≤maxLen)(hB:B.runs.length≤1000):bY [A.pv,B.pv]=some (.rs 1 ((FD A B (mx A B)).map SH)):=by
 have Y9:1003<rounds:=by decide
 simp only[bY,jR,pD,rq,rr,ru,ry,rz,rA,rB,rC,rD,U,List.length_map];refine bL (fun k=>(((mx A B:Nat):Int),(k:Int),A.stops.map Stop.pv,A.ae.map av.pv,A.runs.map bA.pv,A.ah.map aH.pv,A.paths.map Path.pv,A.ar.map aR.pv,A.aO,A.within,A.cap,B.stops.map Stop.pv,B.ae.map av.pv,B.runs.map bA.pv,B.ah.map aH.pv,B.paths.map Path.pv,B.ar.map aR.pv,B.aO,B.within,B.cap,(FD A B k).map SH,())) (mx A B) (fun k hk rec=>?_) (fun rec=>?_) (by unfold mx;omega) ?_
 ·have hl:=SG A B k;have hm:k<1000:=by unfold mx at hk;omega
  have eu:((FD A B k).map SH++[PV.int .i64 (k:Int)]).length*8≤aa∧0<8:=Ns _ (by simp;omega) _;have cT:∀x:bA,PV.agg [cell x.pv 0,cell x.pv 1,cell x.pv 2,cell x.pv 3,cell x.pv 4,cell x.pv 5,cell x.pv 6,cell x.pv 7]=x.pv:=aay;unfold kv;dsimp only;rw[if_pos (by rw[decide_eq_true_eq];omega)];simp only[List.length_map,bn,az,List.getElem?_map,an (show k<9223372036854775807 by omega),Pn];by_cases ha:k<A.runs.length
  ·by_cases hb:k<B.runs.length
   ·have hs:=Po A.runs[k] B.runs[k] (hA.2 _ (List.getElem_mem ha));rw[show(decide ((k:Int)≥(A.runs.length:Int))||decide ((k:Int)≥(B.runs.length:Int)))=false by rw[decide_eq_false (by omega),decide_eq_false (by omega)];rfl];simp only[U,cond_false,List.getElem?_eq_getElem ha,List.getElem?_eq_getElem hb,Option.map_some,aay,hs,asBool];have hd:FC A B k= !decide (A.runs[k]=B.runs[k]):=by unfold FC;rw[List.getElem?_eq_getElem ha,List.getElem?_eq_getElem hb];simp
    rw[hd];by_cases he:A.runs[k]=B.runs[k]
    ·simp[he]
    ·simp only[he,decide_false,Bool.not_false,if_true,if_pos eu,List.map_append];rfl
   ·have hd:FC A B k=true:=by unfold FC;rw[List.getElem?_eq_getElem ha,List.getElem?_eq_none (by omega)];simp
    rw[show(decide ((k:Int)≥(A.runs.length:Int))||decide ((k:Int)≥(B.runs.length:Int)))=true by rw[decide_eq_true (show(k:Int)≥(B.runs.length:Int) by omega)];simp,hd];simp only[U,cond_true,if_true,if_pos eu,List.map_append];rfl
  ·have hd:FC A B k=true:=by
    unfold FC;have hb:k<B.runs.length:=by unfold mx at hk;omega
    rw[List.getElem?_eq_getElem hb,List.getElem?_eq_none (by omega)];simp
   rw[show(decide ((k:Int)≥(A.runs.length:Int))||decide ((k:Int)≥(B.runs.length:Int)))=true by rw[decide_eq_true (show(k:Int)≥(A.runs.length:Int) by omega)];simp,hd];simp only[U,cond_true,if_true,if_pos eu,List.map_append];rfl
 ·unfold kv;dsimp only;rw[if_neg (by simp)]
 ·have:(if(B.runs.length:Int)>(A.runs.length:Int)then(B.runs.length:Int)else(A.runs.length:Int))=((mx A B:Nat):Int):=by unfold mx;split<;>omega
  rw[this];rfl
end Go.Ab.Tt
namespace Go.Ab.Tt
set_option maxRecDepth 100000
set_option linter.unusedVariables false
set_option linter.unusedSimpArgs false
def CX:List aw:=[⟨0,100,100,true,false⟩,⟨1,200,200,false,true⟩]
def Wb(r:List bA):ag:=⟨[⟨[65],0,false,0⟩,⟨[66],0,false,0⟩],[⟨[82],0,false⟩],r,[],[],[],0,0,0⟩
def Eb:ag:=Wb [⟨0,0,0,[116,48],0,false,false,CX⟩]
def pG(kind:Int)(dw:Bytes)(inst call bT:Int)(calls:List aw):gP:=⟨0,1,0,10,kind,dw,0,inst,call,bT,0,false,calls⟩
def eW:PV:=.agg [.rs 4 [.agg [.str [65],.int .i64 0,.bool false,.int .i64 0],.agg [.str [66],.int .i64 0,.bool false,.int .i64 0]],.rs 3 [.agg [.str [82],.int .i64 0,.bool false]],.rs 8 [.agg [.int .i64 0,.int .i64 0,.int .i64 0,.str [116,48],.int .i64 0,.bool false,.bool false,.rs 5 (CX.map aw.pv)]],.rs 0 [],.rs 0 [],.rs 0 [],.int .i64 0,.int .i64 0,.int .i64 0]
def aK(kind:Int)(dw:Bytes):PV:=.agg [.int .i64 0,.int .i64 1,.int .i64 0,.int .i64 10,.int .i64 kind,.str dw,.int .i64 0,.int .i64 0,.int .i64 0,.int .i64 0,.int .i64 0,.bool false,.rs 0 []]
theorem Yi:fG []=some eW:=rfl
theorem UZ(k:Int)(t:Bytes):hU [.int .i64 k,.str t]=some (aK k t):=rfl
theorem K4:fT []=some (.rs 5 (CX.map aw.pv)):=rfl
theorem ab7:asAgg 9 eW=some ():=rfl
theorem Yj(k:Int)(t:Bytes):asAgg 13 (aK k t)=some ():=rfl
theorem Nt:zW (.agg [cell eW 0,cell eW 1,cell eW 2,cell eW 3,cell eW 4,cell eW 5,cell eW 6,cell eW 7,cell eW 8]) Eb:=⟨rfl,rfl,rfl,rfl,rfl,rfl,rfl,rfl,rfl,rfl⟩
theorem SI:Eb.Ok:=by
 have h1:100≤maxLen:=by decide
 refine⟨⟨by show 2≤maxLen;omega,?_⟩,⟨by show 1≤maxLen;omega,?_⟩,⟨by show 1≤maxLen;omega,?_⟩,⟨by show 0≤maxLen;omega,fun _ h=>by cases h⟩,⟨by show 0≤maxLen;omega,fun _ h=>by cases h⟩,⟨by show 0≤maxLen;omega,fun _ h=>by cases h⟩,by decide,by decide,by decide⟩
 ·intro y hy;simp only[Eb,Wb,List.mem_cons,List.not_mem_nil,or_false]at hy;rcases hy with rfl|rfl
  ·exact⟨by show 1≤maxLen;omega,by decide,by decide⟩
  ·exact⟨by show 1≤maxLen;omega,by decide,by decide⟩
 ·intro y hy;simp only[Eb,Wb,List.mem_cons,List.not_mem_nil,or_false]at hy;subst hy;exact⟨by show 1≤maxLen;omega,by decide⟩
 ·intro y hy;simp only[Eb,Wb,List.mem_cons,List.not_mem_nil,or_false]at hy;subst hy;refine⟨by decide,by decide,by decide,by show 2≤maxLen;omega,by decide,by show 2≤maxLen;omega,fun z hz=>?_⟩;simp only[CX,List.mem_cons,List.not_mem_nil,or_false]at hz;rcases hz with rfl|rfl<;>exact⟨by decide,by decide,by decide⟩
theorem yW:(dD Eb).2.2=0:=by decide+kernel
theorem Nu:Pk Eb:=by refine⟨SI,by decide,by decide,by decide,by decide,by decide,by decide,fun r hr=>?_⟩;simp only[Eb,Wb,List.mem_cons,List.not_mem_nil,or_false]at hr;subst hr;exact(by decide:2≤1000)
theorem vh(k:Int)(t:Bytes)(i c s:Int)(l:List aw)(hk:jT k)(ht:t.length≤100)(hi:jT i)(hc:jT c)(hs:jT s)(hl:l=[]∨l=CX):(pG k t i c s l).Ok∧(pG k t i c s l).calls.length≤1000:=by
 have h1:100≤maxLen:=by decide
 have hl2:l.length≤2∧∀y∈l,y.Ok:=by
  rcases hl with rfl|rfl
  ·exact⟨by decide,fun _ h=>by cases h⟩
  ·refine⟨by decide,fun z hz=>?_⟩;simp only[CX,List.mem_cons,List.not_mem_nil,or_false]at hz;rcases hz with rfl|rfl<;>exact⟨by decide,by decide,by decide⟩
 refine⟨⟨by show jT 0;decide,by show jT 1;decide,by show jT 0;decide,by show jT 10;decide,hk,by show t.length≤maxLen;omega,by show jT 0;decide,hi,hc,hs,by show jT 0;decide,⟨by show l.length≤maxLen;omega,hl2.2⟩⟩,by show l.length≤1000;omega⟩
theorem FF{p:PV}{A B:ag}(hp:zW p A):bY [p,B.pv]=bY [A.pv,B.pv]:=by simp only[bY,jR,hp.hA,hp.h0,hp.h1,hp.h2,hp.h3,hp.h4,hp.h5,hp.h6,hp.h7,hp.h8,pD,rq,rr,ru,ry,rz,rA,rB,rC,rD,U]
theorem rK{q:PV}{m:gP}(hq:nu q m)(hm:m.Ok∧m.calls.length≤1000){v:PV}(h:rJ Eb m=v):aY [.agg [cell eW 0,cell eW 1,cell eW 2,cell eW 3,cell eW 4,cell eW 5,cell eW 6,cell eW 7,cell eW 8],q]=some v:=(K3 Nt hq).trans ((wB Eb m Nu hm.1 hm.2).trans (by rw[h]))
def exL:ag:=Wb [⟨0,0,0,[116,48],0,false,false,[⟨0,160,160,true,false⟩,⟨1,260,260,false,true⟩]⟩]
def Pp:ag:=Wb [⟨0,0,0,[116,48],0,false,true,CX⟩]
def exD:ag:=Wb [⟨0,0,0,[116,48],0,false,false,CX⟩,⟨-1,0,0,[120],0,false,false,CX⟩]
theorem SJ{m:gP}{N:ag}(h1:fU m=0)(h2:sX Eb m=(N,0)):rJ Eb m=.bl [N.pv,.int .i64 0]:=by unfold rJ X7;rw[if_pos yW,if_pos h1,h2];rfl
theorem SK{m:gP}{N:ag}{e:Int}(h1:fU m=0)(h2:sX Eb m=(N,e))(he:e≠0):rJ Eb m=.bl [z9,.int .i64 e]:=by unfold rJ X7;rw[if_pos yW,if_pos h1,h2,if_neg he]
theorem ab8:nu (.agg [cell (aK 1 [116,48]) 0,cell (aK 1 [116,48]) 1,cell (aK 1 [116,48]) 2,cell (aK 1 [116,48]) 3,cell (aK 1 [116,48]) 4,cell (aK 1 [116,48]) 5,cell (aK 1 [116,48]) 6,cell (aK 1 [116,48]) 7,cell (aK 1 [116,48]) 8,.int .i64 60,cell (aK 1 [116,48]) 10,cell (aK 1 [116,48]) 11,cell (aK 1 [116,48]) 12]) (pG 1 [116,48] 0 0 60 []):=⟨rfl,rfl,rfl,rfl,rfl,rfl,rfl,rfl,rfl,rfl,rfl,rfl,rfl,rfl⟩
theorem ab9:(pG 1 [116,48] 0 0 60 []).Ok∧(pG 1 [116,48] 0 0 60 []).calls.length≤1000:=vh _ _ _ _ _ _ (by decide) (by decide) (by decide) (by decide) (by decide) (.inl rfl)
theorem aca:aY [.agg [cell eW 0,cell eW 1,cell eW 2,cell eW 3,cell eW 4,cell eW 5,cell eW 6,cell eW 7,cell eW 8],.agg [cell (aK 1 [116,48]) 0,cell (aK 1 [116,48]) 1,cell (aK 1 [116,48]) 2,cell (aK 1 [116,48]) 3,cell (aK 1 [116,48]) 4,cell (aK 1 [116,48]) 5,cell (aK 1 [116,48]) 6,cell (aK 1 [116,48]) 7,cell (aK 1 [116,48]) 8,.int .i64 60,cell (aK 1 [116,48]) 10,cell (aK 1 [116,48]) 11,cell (aK 1 [116,48]) 12]]=some (.bl [exL.pv,.int .i64 0]):=rK ab8 ab9 (SJ (by decide+kernel) (by kernel_rfl))
theorem SL:nu (.agg [cell (aK 2 [116,48]) 0,cell (aK 2 [116,48]) 1,cell (aK 2 [116,48]) 2,cell (aK 2 [116,48]) 3,cell (aK 2 [116,48]) 4,cell (aK 2 [116,48]) 5,cell (aK 2 [116,48]) 6,cell (aK 2 [116,48]) 7,cell (aK 2 [116,48]) 8,cell (aK 2 [116,48]) 9,cell (aK 2 [116,48]) 10,cell (aK 2 [116,48]) 11,cell (aK 2 [116,48]) 12]) (pG 2 [116,48] 0 0 0 []):=⟨rfl,rfl,rfl,rfl,rfl,rfl,rfl,rfl,rfl,rfl,rfl,rfl,rfl,rfl⟩
theorem SM:(pG 2 [116,48] 0 0 0 []).Ok∧(pG 2 [116,48] 0 0 0 []).calls.length≤1000:=vh _ _ _ _ _ _ (by decide) (by decide) (by decide) (by decide) (by decide) (.inl rfl)
theorem acb:aY [.agg [cell eW 0,cell eW 1,cell eW 2,cell eW 3,cell eW 4,cell eW 5,cell eW 6,cell eW 7,cell eW 8],.agg [cell (aK 2 [116,48]) 0,cell (aK 2 [116,48]) 1,cell (aK 2 [116,48]) 2,cell (aK 2 [116,48]) 3,cell (aK 2 [116,48]) 4,cell (aK 2 [116,48]) 5,cell (aK 2 [116,48]) 6,cell (aK 2 [116,48]) 7,cell (aK 2 [116,48]) 8,cell (aK 2 [116,48]) 9,cell (aK 2 [116,48]) 10,cell (aK 2 [116,48]) 11,cell (aK 2 [116,48]) 12]]=some (.bl [Pp.pv,.int .i64 0]):=rK SL SM (SJ (by decide+kernel) (by kernel_rfl))
theorem acd:nu (.agg [cell (aK 1 [116,48]) 0,cell (aK 1 [116,48]) 1,cell (aK 1 [116,48]) 2,cell (aK 1 [116,48]) 3,cell (aK 1 [116,48]) 4,cell (aK 1 [116,48]) 5,cell (aK 1 [116,48]) 6,.int .i64 1,cell (aK 1 [116,48]) 8,cell (aK 1 [116,48]) 9,cell (aK 1 [116,48]) 10,cell (aK 1 [116,48]) 11,cell (aK 1 [116,48]) 12]) (pG 1 [116,48] 1 0 0 []):=⟨rfl,rfl,rfl,rfl,rfl,rfl,rfl,rfl,rfl,rfl,rfl,rfl,rfl,rfl⟩
theorem ace:(pG 1 [116,48] 1 0 0 []).Ok∧(pG 1 [116,48] 1 0 0 []).calls.length≤1000:=vh _ _ _ _ _ _ (by decide) (by decide) (by decide) (by decide) (by decide) (.inl rfl)
theorem acf:aY [.agg [cell eW 0,cell eW 1,cell eW 2,cell eW 3,cell eW 4,cell eW 5,cell eW 6,cell eW 7,cell eW 8],.agg [cell (aK 1 [116,48]) 0,cell (aK 1 [116,48]) 1,cell (aK 1 [116,48]) 2,cell (aK 1 [116,48]) 3,cell (aK 1 [116,48]) 4,cell (aK 1 [116,48]) 5,cell (aK 1 [116,48]) 6,.int .i64 1,cell (aK 1 [116,48]) 8,cell (aK 1 [116,48]) 9,cell (aK 1 [116,48]) 10,cell (aK 1 [116,48]) 11,cell (aK 1 [116,48]) 12]]=some (.bl [z9,.int .i64 16]):=rK acd ace (SK (N:=Eb) (by decide+kernel) (by kernel_rfl) (by decide))
theorem acg:nu (.agg [cell (aK 1 [116,48]) 0,cell (aK 1 [116,48]) 1,cell (aK 1 [116,48]) 2,cell (aK 1 [116,48]) 3,cell (aK 1 [116,48]) 4,cell (aK 1 [116,48]) 5,cell (aK 1 [116,48]) 6,.int .i64 0,.int .i64 2,cell (aK 1 [116,48]) 9,cell (aK 1 [116,48]) 10,cell (aK 1 [116,48]) 11,cell (aK 1 [116,48]) 12]) (pG 1 [116,48] 0 2 0 []):=⟨rfl,rfl,rfl,rfl,rfl,rfl,rfl,rfl,rfl,rfl,rfl,rfl,rfl,rfl⟩
theorem ach:(pG 1 [116,48] 0 2 0 []).Ok∧(pG 1 [116,48] 0 2 0 []).calls.length≤1000:=vh _ _ _ _ _ _ (by decide) (by decide) (by decide) (by decide) (by decide) (.inl rfl)
theorem aci:aY [.agg [cell eW 0,cell eW 1,cell eW 2,cell eW 3,cell eW 4,cell eW 5,cell eW 6,cell eW 7,cell eW 8],.agg [cell (aK 1 [116,48]) 0,cell (aK 1 [116,48]) 1,cell (aK 1 [116,48]) 2,cell (aK 1 [116,48]) 3,cell (aK 1 [116,48]) 4,cell (aK 1 [116,48]) 5,cell (aK 1 [116,48]) 6,.int .i64 0,.int .i64 2,cell (aK 1 [116,48]) 9,cell (aK 1 [116,48]) 10,cell (aK 1 [116,48]) 11,cell (aK 1 [116,48]) 12]]=some (.bl [z9,.int .i64 9]):=rK acg ach (SK (N:=Eb) (by decide+kernel) (by kernel_rfl) (by decide))
theorem acj:nu (.agg [cell (aK 5 [120]) 0,cell (aK 5 [120]) 1,cell (aK 5 [120]) 2,cell (aK 5 [120]) 3,cell (aK 5 [120]) 4,cell (aK 5 [120]) 5,cell (aK 5 [120]) 6,cell (aK 5 [120]) 7,cell (aK 5 [120]) 8,cell (aK 5 [120]) 9,cell (aK 5 [120]) 10,cell (aK 5 [120]) 11,.rs 5 (CX.map aw.pv)]) (pG 5 [120] 0 0 0 CX):=⟨rfl,rfl,rfl,rfl,rfl,rfl,rfl,rfl,rfl,rfl,rfl,rfl,rfl,rfl⟩
theorem ack:(pG 5 [120] 0 0 0 CX).Ok∧(pG 5 [120] 0 0 0 CX).calls.length≤1000:=vh _ _ _ _ _ _ (by decide) (by decide) (by decide) (by decide) (by decide) (.inr rfl)
theorem acm:aY [.agg [cell eW 0,cell eW 1,cell eW 2,cell eW 3,cell eW 4,cell eW 5,cell eW 6,cell eW 7,cell eW 8],.agg [cell (aK 5 [120]) 0,cell (aK 5 [120]) 1,cell (aK 5 [120]) 2,cell (aK 5 [120]) 3,cell (aK 5 [120]) 4,cell (aK 5 [120]) 5,cell (aK 5 [120]) 6,cell (aK 5 [120]) 7,cell (aK 5 [120]) 8,cell (aK 5 [120]) 9,cell (aK 5 [120]) 10,cell (aK 5 [120]) 11,.rs 5 (CX.map aw.pv)]]=some (.bl [exD.pv,.int .i64 0]):=rK acj ack (SJ (by decide+kernel) (by kernel_rfl))
theorem Wc:nu (.agg [cell (aK 5 [120]) 0,cell (aK 5 [120]) 1,cell (aK 5 [120]) 2,cell (aK 5 [120]) 3,cell (aK 5 [120]) 4,.str [116,48],cell (aK 5 [120]) 6,cell (aK 5 [120]) 7,cell (aK 5 [120]) 8,cell (aK 5 [120]) 9,cell (aK 5 [120]) 10,cell (aK 5 [120]) 11,.rs 5 (CX.map aw.pv)]) (pG 5 [116,48] 0 0 0 CX):=⟨rfl,rfl,rfl,rfl,rfl,rfl,rfl,rfl,rfl,rfl,rfl,rfl,rfl,rfl⟩
theorem SN:(pG 5 [116,48] 0 0 0 CX).Ok∧(pG 5 [116,48] 0 0 0 CX).calls.length≤1000:=vh _ _ _ _ _ _ (by decide) (by decide) (by decide) (by decide) (by decide) (.inr rfl)
theorem acn:aY [.agg [cell eW 0,cell eW 1,cell eW 2,cell eW 3,cell eW 4,cell eW 5,cell eW 6,cell eW 7,cell eW 8],.agg [cell (aK 5 [120]) 0,cell (aK 5 [120]) 1,cell (aK 5 [120]) 2,cell (aK 5 [120]) 3,cell (aK 5 [120]) 4,.str [116,48],cell (aK 5 [120]) 6,cell (aK 5 [120]) 7,cell (aK 5 [120]) 8,cell (aK 5 [120]) 9,cell (aK 5 [120]) 10,cell (aK 5 [120]) 11,.rs 5 (CX.map aw.pv)]]=some (.bl [z9,.int .i64 6]):=rK Wc SN (SK (N:=Eb) (by decide+kernel) (by kernel_rfl) (by decide))
theorem K5:bY [.agg [cell eW 0,cell eW 1,cell eW 2,cell eW 3,cell eW 4,cell eW 5,cell eW 6,cell eW 7,cell eW 8],.agg [cell Pp.pv 0,cell Pp.pv 1,cell Pp.pv 2,cell Pp.pv 3,cell Pp.pv 4,cell Pp.pv 5,cell Pp.pv 6,cell Pp.pv 7,cell Pp.pv 8]]=some (.rs 1 [.int .i64 0]):=by refine(FF (B:=Pp) Nt).trans ((FE Eb Pp ⟨by decide,fun x hx=>SI.runs.2 x hx|>.calls.1⟩ (by decide)).trans ?_);kernel_rfl
theorem Pq:bI [.agg [cell eW 0,cell eW 1,cell eW 2,cell eW 3,cell eW 4,cell eW 5,cell eW 6,cell eW 7,cell eW 8],.agg [cell (aK 2 [116,48]) 0,cell (aK 2 [116,48]) 1,cell (aK 2 [116,48]) 2,cell (aK 2 [116,48]) 3,cell (aK 2 [116,48]) 4,cell (aK 2 [116,48]) 5,cell (aK 2 [116,48]) 6,cell (aK 2 [116,48]) 7,cell (aK 2 [116,48]) 8,cell (aK 2 [116,48]) 9,cell (aK 2 [116,48]) 10,cell (aK 2 [116,48]) 11,cell (aK 2 [116,48]) 12]]=some (.bl [.int .i64 0,.bool true]):=(zX Nt SL).trans ((uz Eb _ (by decide)).trans (by kernel_rfl))
theorem Yk:e9 [.agg [cell eW 0,cell eW 1,cell eW 2,cell eW 3,cell eW 4,cell eW 5,cell eW 6,cell eW 7,cell eW 8],.rs 13 [.agg [cell (aK 5 [120]) 0,cell (aK 5 [120]) 1,cell (aK 5 [120]) 2,cell (aK 5 [120]) 3,cell (aK 5 [120]) 4,.str [116,48],cell (aK 5 [120]) 6,cell (aK 5 [120]) 7,cell (aK 5 [120]) 8,cell (aK 5 [120]) 9,cell (aK 5 [120]) 10,cell (aK 5 [120]) 11,.rs 5 (CX.map aw.pv)],.agg [cell (aK 2 [116,48]) 0,cell (aK 2 [116,48]) 1,cell (aK 2 [116,48]) 2,cell (aK 2 [116,48]) 3,cell (aK 2 [116,48]) 4,cell (aK 2 [116,48]) 5,cell (aK 2 [116,48]) 6,cell (aK 2 [116,48]) 7,cell (aK 2 [116,48]) 8,cell (aK 2 [116,48]) 9,cell (aK 2 [116,48]) 10,cell (aK 2 [116,48]) 11,cell (aK 2 [116,48]) 12]]]=some (.bl [Pp.pv,.rs 1 [.int .i64 6,.int .i64 0]]):=by
 refine(SF _ _ Eb [pG 5 [116,48] 0 0 0 CX,pG 2 [116,48] 0 0 0 []] Nt rfl (fun k hk=>?_) Nu yW (by decide) (by decide) ?_ ?_).trans ?_
 ·match k,hk with
  |0,_=>exact⟨_,rfl,Wc⟩
  |1,_=>exact⟨_,rfl,SL⟩
 ·intro m hm;simp only[List.mem_cons,List.not_mem_nil,or_false]at hm;rcases hm with rfl|rfl
  ·exact SN.1
  ·exact SM.1
 ·intro m hm;simp only[List.mem_cons,List.not_mem_nil,or_false]at hm;rcases hm with rfl|rfl
  ·exact SN.2
  ·exact SM.2
 ·kernel_rfl
theorem aeS:asAgg 9 z9=some ():=rfl
theorem SO:db []=some (.bool true):=by simp only[db,j7,iS,Yi,UZ,K4,ab7,Yj,U,ab,if_true,aca,acb,acf,aci,acm,acn,bU,List.length_cons,List.length_nil,Nat.reduceAdd,List.getD_cons_zero,List.getD_cons_succ,asInt,pD,aeS,Pq,Yk,K5];kernel_rfl
end Go.Ab.Tt
namespace Go.Ab.Tt
set_option maxRecDepth 100000
set_option linter.unusedVariables false
set_option linter.unusedSimpArgs false
theorem K6{l:List av}(h:(fp l).2=0):l.length≤64:=by
 unfold fp at h;by_cases s9:l.length>64
 ·rw[if_pos s9]at h;cases h
 ·omega
theorem Pr{l:List aR}{a b c:Int}(h:(dI l a b c).2=0):l.length≤16:=by
 unfold dI at h;split at h
 ·cases h
 ·by_cases h16:l.length>16
  ·rw[if_pos h16]at h;cases h
  ·omega
def CB(N:ag):Bool:= !(decide ((N.stops.length:Int)>5)||decide ((N.runs.length:Int)>7)||decide ((N.ah.length:Int)>30)||decide ((N.paths.length:Int)>60))&&(!((List.range N.runs.length).any fun k=>(N.runs[k]?).elim false fun r=>decide ((r.calls.length:Int)>6))&&decide ((dD N).2.2=0))
theorem SP(N:ag)(h:N.Ok):jL [N.pv]=some (.bool (CB N)):=by
 have hm:=aW;have hr:=h.runs.1;simp only[jL,tZ,pD,rq,rr,ru,ry,rz,rA,rB,rC,rD,U,bn,List.length_map];unfold CB;by_cases hc:(decide ((N.stops.length:Int)>5)||decide ((N.runs.length:Int)>7)||decide ((N.ah.length:Int)>30)||decide ((N.paths.length:Int)>60))=true
 ·rw[if_pos hc,hc];rfl
 ·rw[if_neg hc];have PN:(decide ((N.stops.length:Int)>5)||decide ((N.runs.length:Int)>7)||decide ((N.ah.length:Int)>30)||decide ((N.paths.length:Int)>60))=false:=by simpa using hc
  rw[PN,Bool.not_false,Bool.true_and];refine(oY (fun k=>((k:Int),N.stops.map Stop.pv,N.ae.map av.pv,N.runs.map bA.pv,N.ah.map aH.pv,N.paths.map Path.pv,N.ar.map aR.pv,N.aO,N.within,N.cap,())) N.runs.length (fun k=>(N.runs[k]?).elim false fun r=>decide ((r.calls.length:Int)>6)) (no:=some (.bool false)) (fin:=some (.bool (decide ((dD N).2.2=0)))) (fun k hk rec=>?_) (fun rec=>?_) (by have:=aS;omega) rfl).trans ?_
  ·unfold pw;dsimp only;rw[List.length_map,if_pos (by rw[decide_eq_true_eq];omega),az,List.getElem?_map,List.getElem?_eq_getElem hk];simp only[Option.map_some,U,EU,ab,if_true,List.length_map,an (show k<9223372036854775807 by omega),Option.elim];rfl
  ·unfold pw;dsimp only;rw[List.length_map,if_neg (by simp)];have hp:N.paths.length≤4096:=by simp only[Bool.or_eq_false_iff,decide_eq_false_iff_not]at PN;omega
   simp only[yF,St N h hp,U,asBool]
  ·cases((List.range N.runs.length).any fun k=>(N.runs[k]?).elim false fun r=>decide ((r.calls.length:Int)>6))<;>rfl
theorem Ps{N:ag}(h:CB N=true):N.runs.length≤7∧N.paths.length≤60∧(dD N).2.2=0∧(N.Ok→Pk N):=by
 unfold CB at h;simp only[Bool.and_eq_true,Bool.not_eq_true',Bool.or_eq_false_iff,decide_eq_false_iff_not,decide_eq_true_eq]at h;obtain⟨⟨⟨⟨h1,h2⟩,h3⟩,h4⟩,h7,hv⟩:=h;have sd:∀r∈N.runs,r.calls.length≤6:=fun r hr=>by obtain⟨k,hk,rfl⟩:=List.getElem_of_mem hr;rw[List.any_eq_false]at h7;have:=h7 k (by simpa using hk);rw[List.getElem?_eq_getElem hk]at this;simp only[Option.elim,decide_eq_true_eq]at this;omega
 have hz:=(mQ N).1 hv;have r1:=K6 hz.2.1;have r2:=Pr hz.2.2.2.2.2;exact⟨by omega,by omega,hv,fun ho=>⟨ho,by omega,by omega,by omega,by omega,by omega,by omega,fun r hr=>by have:=sd r hr;omega⟩⟩
def U0(m:gP):Bool:=decide ((m.dw.length:Int)≤1024)&&decide ((m.calls.length:Int)≤40)
theorem K7(m:gP):gW [m.pv]=some (.bool (U0 m)):=by simp only[gW,qG,Fk,Fl,Fm,Fo,Fq,Fs,Ft,Fu,Fv,Fx,Fy,xE,xF,D5,U,asInt,bx,ab,if_true,asBool,dy,List.length_map];rfl
theorem U1{m:gP}(h:U0 m=true):m.calls.length≤40:=by simp only[U0,Bool.and_eq_true,decide_eq_true_eq]at h;omega
theorem K8{p q:PV}{A B:ag}(hp:zW p A)(hq:zW q B)(hA:A.Ok):fb [p,q]=some (.bool (eqN A B)):=by have h:=O2 A B hA;simp only[fb,mK,pD,rq,rr,ru,ry,rz,rA,rB,rC,rD,U]at h;simp only[fb,mK,hp.hA,hp.h0,hp.h1,hp.h2,hp.h3,hp.h4,hp.h5,hp.h6,hp.h7,hp.h8,hq.hA,hq.h0,hq.h1,hq.h2,hq.h3,hq.h4,hq.h5,hq.h6,hq.h7,hq.h8,U];exact h
theorem aco(N:ag):PV.agg [cell N.pv 0,cell N.pv 1,cell N.pv 2,cell N.pv 3,cell N.pv 4,cell N.pv 5,cell N.pv 6,cell N.pv 7,cell N.pv 8]=N.pv:=rfl
def HM(N:ag)(m:gP):PV:=if(dD N).2.2=0∧Ap N m=0 then(sE N m).pv else z9
def apE(N:ag)(m:gP):Int:=if(dD N).2.2=0 then Ap N m else 21
theorem Pt(N:ag)(m:gP):rJ N m=.bl [HM N m,.int .i64 (apE N m)]:=by
 unfold HM apE;by_cases hv:(dD N).2.2=0
 ·rw[HL hv,if_pos hv];by_cases hx:Ap N m=0
  ·rw[if_pos hx,if_pos ⟨hv,hx⟩,hx]
  ·rw[if_neg hx,if_neg fun h=>hx h.2]
 ·unfold rJ;rw[if_neg hv,if_neg hv,if_neg fun h=>hv h.1]
theorem acp(N:ag)(m:gP):asAgg 9 (HM N m)=some ():=by unfold HM;split<;>rfl
theorem acq(N:ag)(m:gP):PV.agg [cell (HM N m) 0,cell (HM N m) 1,cell (HM N m) 2,cell (HM N m) 3,cell (HM N m) 4,cell (HM N m) 5,cell (HM N m) 6,cell (HM N m) 7,cell (HM N m) 8]=HM N m:=by unfold HM;split<;>rfl
end Go.Ab.Tt
namespace Go.Ab.Tt
set_option maxRecDepth 100000
set_option linter.unusedVariables false
set_option linter.unusedSimpArgs false
theorem Pu{l l':List bA}(m:gP)(h:l'.map bh=l.map bh):Ao l' m=Ao l m:=by
 have hl:l'.length=l.length:=by have:=congrArg List.length h;simpa using this
 unfold Ao;rw[h,hl]
theorem U2{l:List bA}{i:Nat}{r x:bA}(hr:l[i]?=some r)(hk:bh x=bh r):(l.set i x).map bh=l.map bh:=by have hi:=(List.getElem?_eq_some_iff.1 hr).1;have hg:=(List.getElem?_eq_some_iff.1 hr).2;rw[List.map_set,hk,←hg,←List.getElem_map bh (h:=by simpa using hi),List.set_getElem_self]
theorem K9(l:List aw)(c:Nat):nr (nr l c) c=nr l c:=by
 unfold nr;cases h:l[c]? with
 |none=>simp only[h]
 |some k=>have hc:=(List.getElem?_eq_some_iff.1 h).1;simp only[List.getElem?_set_self hc,List.set_set]
theorem Pv(N:ag)(m:gP)(hk:m.kind=2∨m.kind=3∨m.kind=4)(he:(sX N m).2=0):sX (sX N m).1 m=((sX N m).1,0):=by
 have k5:¬m.kind=5:=by omega
 have k1:¬m.kind=1:=by omega
 unfold sX at he;rw[if_neg k5]at he;cases ht:Ao N.runs m with
 |none=>rw[ht]at he;cases he
 |some i=>
  rw[ht]at he;dsimp only at he;obtain⟨hi,_,_⟩:=xC ht;have hr:N.runs[i]?=some N.runs[i]:=List.getElem?_eq_getElem hi;rw[hr]at he;dsimp only at he;by_cases hn:(m.kind=1∨m.kind=3)∧(m.call<0∨m.call≥(N.runs[i].calls.length:Int))
  ·rw[if_pos hn]at he;cases he
  rw[if_neg hn,if_neg k1]at he;have second:∀x:bA,bh x=bh N.runs[i]→∀N':ag,N'.runs=N.runs.set i x→Ao N'.runs m=some i∧N'.runs[i]?=some x:=by intro x hx N' hN';rw[hN',Pu m (U2 hr hx)];exact⟨ht,List.getElem?_set_self hi⟩
  by_cases k2:m.kind=2
  ·have e1:sX N m=({N with runs:=N.runs.set i {N.runs[i]with nF:=true}},0):=by unfold sX;rw[if_neg k5,ht];dsimp only;rw[hr];dsimp only;rw[if_neg hn,if_neg k1,if_pos k2]
   rw[e1];obtain⟨s1,s2⟩:=second {N.runs[i]with nF:=true} rfl {N with runs:=N.runs.set i {N.runs[i]with nF:=true}} rfl;unfold sX;rw[if_neg k5,s1];dsimp only;rw[s2];dsimp only;rw[if_neg hn,if_neg k1,if_pos k2,List.set_set]
  rw[if_neg k2]at he;by_cases k3:m.kind=3
  ·have e1:sX N m=({N with runs:=N.runs.set i {N.runs[i]with calls:=nr N.runs[i].calls m.call.toNat}},0):=by unfold sX;rw[if_neg k5,ht];dsimp only;rw[hr];dsimp only;rw[if_neg hn,if_neg k1,if_neg k2,if_pos k3]
   rw[e1];obtain⟨s1,s2⟩:=second {N.runs[i]with calls:=nr N.runs[i].calls m.call.toNat} rfl {N with runs:=N.runs.set i {N.runs[i]with calls:=nr N.runs[i].calls m.call.toNat}} rfl;have Ad:(nr N.runs[i].calls m.call.toNat).length=N.runs[i].calls.length:=by unfold nr;split<;>simp
   unfold sX;rw[if_neg k5,s1];dsimp only;rw[s2];dsimp only;rw[Ad,if_neg hn,if_neg k1,if_neg k2,if_pos k3,List.set_set,K9]
  rw[if_neg k3]at he;have k4:m.kind=4:=by omega
  rw[if_pos k4]at he;by_cases hc:(bu m.calls N.stops.length 0 3155932800).2≠0
  ·rw[if_pos hc]at he;exact absurd he hc
  ·have e1:sX N m=({N with runs:=N.runs.set i {N.runs[i]with calls:=m.calls},ah:=N.ah.filter (yV i)},0):=by unfold sX;rw[if_neg k5,ht];dsimp only;rw[hr];dsimp only;rw[if_neg hn,if_neg k1,if_neg k2,if_neg k3,if_pos k4,if_neg hc];rfl
   rw[e1];obtain⟨s1,s2⟩:=second {N.runs[i]with calls:=m.calls} rfl {N with runs:=N.runs.set i {N.runs[i]with calls:=m.calls},ah:=N.ah.filter (yV i)} rfl;have hn2:¬((m.kind=1∨m.kind=3)∧(m.call<0∨m.call≥(m.calls.length:Int))):=by omega
   unfold sX;rw[if_neg k5,s1];dsimp only;rw[s2];dsimp only;rw[if_neg hn2,if_neg k1,if_neg k2,if_neg k3,if_pos k4,if_neg hc,List.set_set];have hf:(N.ah.filter (yV i)).filter (fun l=> !(decide (l.a=(i:Int))||decide (l.b=(i:Int))))=N.ah.filter (yV i):=by rw[List.filter_filter];congr 1;funext x;unfold yV;cases decide (x.a=(i:Int))<;>cases decide (x.b=(i:Int))<;>rfl
   rw[hf]
theorem HN(N:ag)(m:gP)(h:N.Ok)(hm:m.Ok):dV [N.pv,m.pv]=some (.bool true):=by
 simp only[dV,iT,pD,rq,rr,ru,ry,rz,rA,rB,rC,rD,U,yF,SP N h];simp only[Fk,Fl,Fm,Fo,Fq,Fs,Ft,Fu,Fv,Fx,Fy,xE,xF,D5,U,asInt,bx,ab,if_true,asBool,US,bn,dy,K7,SO,jC];by_cases hc:(!CB N|| !U0 m||(!decide (m.kind=2)&& !decide (m.kind=3)&& !decide (m.kind=4)))=true
 ·rw[if_pos hc]
 ·rw[if_neg hc];simp only[Bool.or_eq_true,not_or,Bool.not_eq_true',Bool.not_eq_false,Bool.and_eq_true,not_and,decide_eq_false_iff_not,decide_eq_true_eq]at hc;obtain⟨⟨hs,hlm⟩,xQ⟩:=hc;have hk:m.kind=2∨m.kind=3∨m.kind=4:=by omega
  obtain⟨hr,_,hv,hl⟩:=Ps hs;have hL:=hl h;have sd:=U1 hlm;have h1:=wB N m hL hm (by omega);rw[h1,Pt];simp only[U,bU,List.length_cons,List.length_nil,Nat.reduceAdd,List.getD_cons_zero,List.getD_cons_succ,if_true,asInt,acp,acq];have hE:apE N m=Ap N m:=by unfold apE;rw[if_pos hv]
  by_cases hx:Ap N m=0
  ·rw[if_neg (by rw[hE,hx];simp)];have hN:HM N m=(sE N m).pv:=by unfold HM;rw[if_pos ⟨hv,hx⟩]
   have Oo:fU m=0:=by
    by_cases Oo:fU m=0
    ·exact Oo
    ·unfold Ap at hx;rw[if_neg Oo]at hx;exact absurd hx Oo
   have Vs:(sX N m).2=0:=by unfold Ap at hx;rw[if_pos Oo]at hx;exact hx
   have hn:sE N m=(sX N m).1:=by unfold sE;rw[if_pos Oo,if_pos Vs]
   have FU:=Ea (m:=m) hv;have hL':=HK hL (HI N m) FU hm (by omega);have h2:=wB (sE N m) m hL' hm (by omega);have ht:sX (sE N m) m=(sE N m,0):=by rw[hn];exact Pv N m hk Vs
   have h3:rJ (sE N m) m=.bl [(sE N m).pv,.int .i64 0]:=by unfold rJ X7;rw[if_pos FU,if_pos Oo,ht];rfl
   rw[hN,h2,h3];simp only[U,bU,List.length_cons,List.length_nil,Nat.reduceAdd,List.getD_cons_zero,List.getD_cons_succ,if_true,asInt,pD,aco,K8 (SA (sE N m)) (SA (sE N m)) hL'.ok,RW,asBool,beq_self_eq_true,cond_true];rfl
  ·rw[if_pos (by rw[hE];simpa using hx)]
end Go.Ab.Tt
