import Derived.Test.YtcmhmlnkhmefbaaGreatOvZ1
import Derived.Test.YtcmhmlnkhmefbaaGreatSh3
import Derived.Test.YtcmhmlnkhmefbaaGreatNkP2
namespace Go.Ab.Tt
set_option maxRecDepth 100000
set_option linter.unusedVariables false
set_option linter.unusedSimpArgs false
def Cy(ms:List PV)(len k:Int)(N:ag)(er:List PV):=(ms,(0:Int),len,k,(0:Int),(0:Int),(0:Int),N.aN,N.within,N.cap,er,N.stops.map Stop.pv,N.ae.map au.pv,N.runs.map bw.pN,N.ah.map aG.pv,N.paths.map Path.pv,N.aq.map aQ.pv,())
def Ea(ms:List PV)(len kk:Int)(er:List PV)(N:ag)(i c:Nat)(a:Int)(k:Nat)(out:List PV):=((i:Int),(c:Int),a,((N.runs[i]?).elim 0 fun r=>(r.calls.length:Int)),(k:Int),(i:Int),ms,(0:Int),len,kk,N.runs.map bw.pN,out,N.aN,N.within,N.cap,(0:Int),(0:Int),(0:Int),er,N.stops.map Stop.pv,N.ae.map au.pv,N.ah.map aG.pv,N.paths.map Path.pv,N.aq.map aQ.pv,())
theorem NF(er:List PV)(h:er.length≤1000)(x:PV):(er++[x]).length*8≤aa∧0<8:=by
 have:1001*8≤aa:=by decide
 refine⟨?_,by decide⟩;rw[List.length_append,List.length_singleton];omega
theorem Yr(ms:List PV)(len:Int)(kk:Nat)(yf:kk<1000)(er:List PV)(Ys:er.length≤1000)(cW:_→Option PV)(N:ag)(h:IJ N)(i c:Nat)(hi:i<N.runs.length)(hc:c<N.runs[i].calls.length)(ho:uo N.runs[i].calls=true)(a:Int)(h0:0≤a)(h1:a≤8000000000):ca.run (fv ca cW) (Ea ms len kk er N i c a 0 (N.runs[i].calls.map av.pv))=match gv (N.runs[i].calls.drop c) a with|some r=>cW (Cy ms len (kk+1:Nat) (FB N i (N.runs[i].calls.take c++r)) (er++[.int .i64 0]))|none=>cW (Cy ms len (kk+1:Nat) N (er++[.int .i64 10])):=by
 have hlen:=h.calls N.runs[i] (List.getElem_mem hi);have Zn:1003<rounds:=by decide
 have jb:=nV ho;have P0:=NF er Ys;have hrT:∀x,((er++[x]).length*8≤aa∧0<8)=True:=fun x=>eq_true (P0 x);have Wq:IntKind.i64.wrap ((kk:Int)+1)=((kk+1:Nat):Int):=al (by omega);refine(Cw (Ea ms len kk er N i c) N.runs[i].calls c (cW (Cy ms len (kk+1:Nat) N (er++[.int .i64 10]))) (fun out=>cW (ms,0,len,((kk+1:Nat):Int),0,0,0,N.aN,N.within,N.cap,er++[.int .i64 0],N.stops.map Stop.pv,N.ae.map au.pv,(N.runs.map bw.pN).set i (.agg [.int .i64 N.runs[i].dp,.int .i64 N.runs[i].day,.int .i64 N.runs[i].inst,.str N.runs[i].id,.int .i64 N.runs[i].bh,.bool N.runs[i].free,.bool N.runs[i].oZ,.fP 5 out]),N.ah.map aG.pv,N.paths.map Path.pv,N.aq.map aQ.pv,())) (fun k a out rec hk kH=>?_) (fun k a pre rec hk kH hp Wl ha1=>?_) (fun a out rec=>?_) jb (va ho) hc (by omega) a h0 h1).trans ?_
 ·unfold Ea fv;dsimp only;rw[List.getElem?_eq_getElem hi,Option.elim_some,if_pos (by rw[decide_eq_true_eq];omega),if_pos (by rw[decide_eq_true_eq];omega),al (by omega),Int.toNat_natCast]
 ·obtain⟨d0,d1⟩:=sw (jb k kH);obtain⟨s0,s1,s2⟩:=jb k kH;have hlm:=mQ;have Zc:=HK pre N.runs[i].calls k hp (by omega);have W7:∀x,((outs pre N.runs[i].calls k).set k x).length=N.runs[i].calls.length:=fun x=>by rw[List.length_set,Zc]
  unfold Ea fv;dsimp only;rw[List.getElem?_eq_getElem hi,Option.elim_some,if_pos (by rw[decide_eq_true_eq];omega),if_neg (by rw[decide_eq_true_eq];omega)];simp only[Int.toNat_natCast,qf _ _ hi,U,D8,List.length_map,il k _ kH,if_true,List.getElem?_map,List.getElem?_eq_getElem kH,Option.map_some,Zc,HL pre _ k hp kH,kI2,Ny,Cv (jb k kH),D9,Wm,Wn,W7,HN _ _ _ (show k<(outs pre N.runs[i].calls k).length by omega),List.set_set,wrap_small (show-100000000000≤a+gW N.runs[i].calls[k] by omega) (show a+gW N.runs[i].calls[k]≤100000000000 by omega),Wo,Nz,al (show k<9223372036854775807 by omega),HM pre _ k hp kH,decide_eq_true_eq,hrT,Wq,if_true];have eo:=HJ (jb k kH) Wl ha1;by_cases ur:(late N.runs[i].calls[k] a).dep>gV
  ·rw[if_pos (show(late N.runs[i].calls[k] a).dep>3155932800 by omega),if_pos ur];rfl
  ·rw[if_neg (show¬(late N.runs[i].calls[k] a).dep>3155932800 by omega),if_neg ur];by_cases hn:k+1<N.runs[i].calls.length
   ·obtain⟨n0,n1⟩:=yQ (jb k kH) (jb (k+1) hn) (va ho k hn) Wl ur;obtain⟨t0,t1,t2⟩:=jb (k+1) hn;rw[if_pos (by omega),dif_pos hn,if_pos (il _ _ hn),List.getElem?_eq_getElem hn];simp only[Option.map_some,U,kI1];rw[wrap_small (x:=N.runs[i].calls[k+1].arr+(late N.runs[i].calls[k] a).dep) (by omega) (by omega),wrap_small (by omega) (by omega)]
   ·rw[if_neg (by omega),dif_neg hn]
 ·unfold Ea fv;dsimp only;rw[List.getElem?_eq_getElem hi,Option.elim_some,if_neg (by simp)];simp only[Int.toNat_natCast,qf _ _ hi,U,SA _ _ hi,if_true,Vf,hrT,Wq,if_true]
 ·cases gv (N.runs[i].calls.drop c) a with
  |none=>rfl
  |some r=>simp only[sx,←List.map_set];simp only[FB,List.getElem?_eq_getElem hi];rfl
def SF(ms:List PV)(len kk:Int)(er:List PV)(N:ag)(i:Nat)(runs:List PV)(j k:Nat)(x:List PV):=((j:Int),(k:Int),ms,(0:Int),len,kk,x,(i:Int),N.aN,N.within,N.cap,(0:Int),(0:Int),(0:Int),er,N.stops.map Stop.pv,N.ae.map au.pv,runs,N.paths.map Path.pv,N.aq.map aQ.pv,())
theorem Yt(ms:List PV)(len:Int)(kk:Nat)(yf:kk<1000)(er:List PV)(Ys:er.length≤1000)(cW:_→Option PV)(N:ag)(h:IJ N)(i:Nat)(runs:List PV):ca.run (lJ ca cW) ((N.ah.length:Int),0,ms,0,len,(kk:Int),N.ah.map aG.pv,(i:Int),N.aN,N.within,N.cap,0,0,0,er,N.stops.map Stop.pv,N.ae.map au.pv,runs,N.paths.map Path.pv,N.aq.map aQ.pv,())=cW (ms,0,len,((kk+1:Nat):Int),0,0,0,N.aN,N.within,N.cap,er++[.int .i64 0],N.stops.map Stop.pv,N.ae.map au.pv,runs,(N.ah.filter (FD i)).map aG.pv,N.paths.map Path.pv,N.aq.map aQ.pv,()):=by
 have hk:=h.ah;have Zn:1003<rounds:=by decide
 have P0:=NF er Ys;have hrT:∀x,((er++[x]).length*8≤aa∧0<8)=True:=fun x=>eq_true (P0 x);have Wq:IntKind.i64.wrap ((kk:Int)+1)=((kk+1:Nat):Int):=al (by omega);refine Sx (fun k=>((N.ah.length:Int),(k:Int),ms,(0:Int),len,(kk:Int),N.ah.map aG.pv,(i:Int),N.aN,N.within,N.cap,(0:Int),(0:Int),(0:Int),er,N.stops.map Stop.pv,N.ae.map au.pv,runs,N.paths.map Path.pv,N.aq.map aQ.pv,())) (SF ms len kk er N i runs) (body3:=lK ca cW) N.ah (FD i) (fun x=>cW (ms,0,len,((kk+1:Nat):Int),0,0,0,N.aN,N.within,N.cap,er++[.int .i64 0],N.stops.map Stop.pv,N.ae.map au.pv,runs,x,N.paths.map Path.pv,N.aq.map aQ.pv,())) (fun j k x rec kH hx hj hg=>?_) (fun j x rec hx hj=>?_) (fun k rec kH=>?_) (fun rec=>?_) (by omega)
 ·unfold SF lK;dsimp only;rw[if_pos (by rw[decide_eq_true_eq];omega),if_pos (il _ _ (by omega)),Int.toNat_natCast,hg];simp only[U,FC,vc,asBool,Bool.not_not,al (show k<9223372036854775807 by omega),al (show j<9223372036854775807 by omega),il j x.length (by omega),if_true,Int.toNat_natCast,List.getElem?_eq_getElem (show j<x.length by omega)]
 ·unfold SF lK;dsimp only;rw[if_neg (by rw[hx];simp)];simp only[Int.toNat_natCast,Int.toNat_zero,Nat.sub_zero,List.drop_zero];rw[if_pos (by exact⟨by omega,by omega,by omega,trivial⟩),if_pos (by exact⟨trivial,trivial,by omega,by omega⟩),if_pos (by refine⟨by omega,by omega,?_,trivial⟩;simp only[List.length_append,List.length_take,List.length_replicate,List.length_drop];omega)];rw[if_pos (P0 _),Wq,List.take_append_of_le_length (by simp;omega),List.take_take,Nat.min_self]
 ·unfold lJ;dsimp only;rw[if_pos (by rw[decide_eq_true_eq];omega),if_pos (il _ _ (by simpa using kH)),Int.toNat_natCast,List.getElem?_map,List.getElem?_eq_getElem kH];simp only[Option.map_some,U,FC,vc,asBool,al (show k<9223372036854775807 by omega),eW];cases hp:FD i N.ah[k]with
  |true=>simp only[Bool.not_true,Bool.false_eq_true,if_false,if_true]
  |false=>simp only[Bool.not_false,if_true,Bool.false_eq_true,if_false];rw[if_neg (by rw[decide_eq_true_eq];omega)];rfl
 ·unfold lJ;dsimp only;rw[if_neg (by simp),if_pos (P0 _),Wq]
theorem SG(ms:List PV)(len:Int)(kk:Nat)(yf:kk<1000)(er:List PV)(Ys:er.length≤1000)(cW:_→Option PV)(l:List fC)(hl:l.length<1000)(q:PV)(aeX:aZ ms (kk:Int)=some q)(hlen:len=(l.length:Int))(kH:kk<l.length)(N:ag)(h:IJ N)(TC:∀m∈l,m.Ok)(hv:(dS N).2.2=0)(Yu:∀m∈l,m.calls.length≤1000)(hL:mR q l[kk]):iV ca (Cy ms len kk N er) cW=cW (Cy ms len (kk+1:Nat) (if eC l[kk]=0 then(if(CV N l[kk]).2=0 then(CV N l[kk]).1 else N)else N) (er++[.int .i64 (if eC l[kk]=0 then(CV N l[kk]).2 else eC l[kk])])):=by
 have P0:=NF er Ys;have hrT:∀x,((er++[x]).length*8≤aa∧0<8)=True:=fun x=>eq_true (P0 x);have Wq:IntKind.i64.wrap ((kk:Int)+1)=((kk+1:Nat):Int):=al (by omega);have hm:=TC _ (List.getElem_mem kH);have hc:=Yu _ (List.getElem_mem kH);have br:decide ((kk:Int)<len)=true:=by rw[decide_eq_true_eq];omega
 generalize l[kk]=m at hm hc hL⊢;have hmk:=(HO hL.agg).trans (HH m hm);have hr:=h.runs;have ht:=uv N m (by
  have:1000≤maxLen:=by decide
  omega)
 have VW:PV.agg [cell q 0,cell q 1,cell q 2,cell q 3,cell q 4,cell q 5,cell q 6,cell q 7,cell q 8,cell q 9,cell q 10,cell q 11,cell q 12]=NC q:=rfl;have ht:=(zT (ND N) hL.agg).trans ht;conv=>lhs;unfold Cy iV
 dsimp only;rw[if_pos br,aeX];simp only[U,VW,hmk,asInt,if_true,bne_self_eq_false,Bool.false_eq_true,if_false,kj,yA,ht];simp only[eW,decide_eq_true_eq];by_cases F0:eC m=0;case neg=>rw[if_neg F0,if_neg F0,if_neg F0,if_pos (P0 _),Wq];rfl
 rw[if_pos F0,if_pos F0,if_pos F0];unfold CV HI;simp only[hL.h4,hL.h5,hL.h6,hL.h7,hL.h8,hL.h9,hL.FY,hL.Yo,hL.Yp,U];simp only[asInt,bt,ab,asBool,if_true,U,eW,decide_eq_true_eq,hrT,Wq,if_true];by_cases k5:m.kind=5
 ·simp only[k5,if_true];cases htg:uk N.runs m with
  |some i=>simp only[bW,List.length_cons,List.length_nil,Nat.reduceAdd,if_true,U,List.getD_cons_zero,List.getD_cons_succ,asInt,asBool,Option.isSome_some];rfl
  |none=>
   have gz:=nS m.calls N.stops.length 0 3155932800 hm.calls.1;simp only[res]at gz;have Ym:=vb m.calls (by omega);simp only[bW,List.length_cons,List.length_nil,Nat.reduceAdd,if_true,U,List.getD_cons_zero,List.getD_cons_succ,asInt,asBool,Option.isSome_none,Bool.false_eq_true,if_false,List.length_map,bn,Bool.or_eq_true,decide_eq_true_eq,gz,uw];by_cases mh:m.bh<0∨m.bh≥(N.ae.length:Int)
   ·rw[if_pos mh,if_pos mh];rfl
   ·rw[if_neg mh,if_neg mh];by_cases he:(bk m.calls (N.stops.length:Int) 0 3155932800).2=0
    ·rw[if_pos he,if_neg (show¬((N.runs.length:Int)≥1024) by omega),Ym];simp only[U,ab,if_true,he,ne_eq,not_true,if_false,if_neg (show¬(N.runs.length≥1024) by omega)];rw[if_pos (by
      have:101*80≤aa:=by decide
      rw[List.length_append,List.length_map,List.length_singleton];omega)]
     unfold Cy;rw[List.map_append];rfl
    ·rw[if_neg he,if_pos he];simp only[if_neg he];rfl
 ·simp only[if_neg k5];cases htg:uk N.runs m with
  |none=>simp only[bW,List.length_cons,List.length_nil,Nat.reduceAdd,if_true,U,List.getD_cons_zero,List.getD_cons_succ,asInt,asBool,Bool.not_false];rfl
  |some i=>
   obtain⟨hi,zL,_⟩:=lH htg;have pS:af (i:Int) N.runs.length:=⟨by omega,by omega⟩;have sF:=uc hv N.runs[i] (List.getElem_mem hi);simp only[bW,List.length_cons,List.length_nil,Nat.reduceAdd,if_true,U,List.getD_cons_zero,List.getD_cons_succ,asInt,asBool,Bool.not_true,Bool.false_eq_true,if_false,qf _ _ hi,List.getElem?_eq_getElem hi,pS,D8,Int.toNat_natCast,List.length_map,bn,dw,Bool.or_eq_true,decide_eq_true_eq];have Tz:((decide (m.kind=1)||decide (m.kind=3))&&(decide (m.call<0)||decide (m.call≥(N.runs[i].calls.length:Int))))=decide ((m.kind=1∨m.kind=3)∧(m.call<0∨m.call≥(N.runs[i].calls.length:Int))):=by rw[Bool.eq_iff_iff];simp
   rw[Tz];simp only[decide_eq_true_eq];by_cases hn:(m.kind=1∨m.kind=3)∧(m.call<0∨m.call≥(N.runs[i].calls.length:Int))
   ·rw[if_pos hn,if_pos hn];rfl
   rw[if_neg hn,if_neg hn];by_cases k1:m.kind=1
   ·simp only[k1,if_true];have M9:¬(m.call<0∨m.call≥(N.runs[i].calls.length:Int)):=fun hh=>hn ⟨.inl k1,hh⟩;have aeW:=not_or.1 M9;unfold prop;rw[if_neg M9,if_neg (show¬(m.call<0∨m.call≥(N.runs[i].calls.length:Int))from M9)];by_cases hs:m.bM< -43200∨m.bM>43200
    ·rw[if_pos hs,if_pos hs];rfl
    rw[if_neg hs,if_neg hs];obtain⟨c,A3⟩:∃c:Nat,m.call=(c:Int):=⟨m.call.toNat,by omega⟩;have vz:c<N.runs[i].calls.length:=by omega
    have hlen:=h.calls N.runs[i] (List.getElem_mem hi);have ho:=xB N.runs[i].calls (by
     have:1000≤maxLen:=by decide
     omega)
    have hrq:NV (cell N.runs[i].pN 7)=some (.rs 5 (N.runs[i].calls.map av.pv)):=rfl;simp only[hrq,U,ho,asBool];cases Yn:uo N.runs[i].calls with
    |false=>rfl
    |true=>
     have ep:0≤(N.runs[i].calls.length:Int)∧(N.runs[i].calls.length:Int)≤(N.runs[i].calls.length:Int)∧(N.runs[i].calls.length:Int).toNat*32≤aa∧0<32∧0<5:=by
      have:1000*32≤aa:=by decide
      refine⟨by omega,by omega,?_,by decide,by decide⟩;rw[Int.toNat_natCast];omega
     rw[if_neg (by decide),if_pos (by rw[Int.toNat_natCast]at ep;exact ep)];simp only[A3,Int.toNat_natCast];obtain⟨a1,a2⟩:=Nx Yn vz (show-43200≤m.bM by omega) (show m.bM≤43200 by omega);have hA:=Yr ms len kk yf er Ys cW N h i c hi vz Yn _ a1 (by omega);have TD:∀z:PV,List.take (List.replicate N.runs[i].calls.length z).length (N.runs[i].calls.map av.pv)++List.drop N.runs[i].calls.length (List.replicate N.runs[i].calls.length z)=N.runs[i].calls.map av.pv:=fun z=>by rw[List.length_replicate,List.take_of_length_le (by simp),List.drop_eq_nil_of_le (by simp),List.append_nil]
     have key:∀A,A=nd N.runs[i].calls c m.bM→ca.run (fv ca cW) ((i:Int),(c:Int),A,(N.runs[i].calls.length:Int),0,(i:Int),ms,0,len,(kk:Int),N.runs.map bw.pN,N.runs[i].calls.map av.pv,N.aN,N.within,N.cap,0,0,0,er,N.stops.map Stop.pv,N.ae.map au.pv,N.ah.map aG.pv,N.paths.map Path.pv,N.aq.map aQ.pv,())=match gv (N.runs[i].calls.drop c) (nd N.runs[i].calls c m.bM)with|some r=>cW (Cy ms len (kk+1:Nat) (FB N i (N.runs[i].calls.take c++r)) (er++[.int .i64 0]))|none=>cW (Cy ms len (kk+1:Nat) N (er++[.int .i64 10])):=by intro A sT;subst sT;unfold Ea at hA;rw[List.getElem?_eq_getElem hi]at hA;exact hA
     have hlm:=mQ;obtain⟨s0,s1,s2⟩:=nV Yn c vz;cases c with
     |zero=>rw[if_neg (by decide),if_pos (il _ _ vz)];simp only[List.getElem?_map,List.getElem?_eq_getElem vz,Option.map_some,U,zD,asInt,if_true,TD];refine(key _ ?_).trans (by split<;>rename_i hx<;>simp only[hx,FB,List.getElem?_eq_getElem hi]<;>rfl);rw[wrap_small (by omega) (by omega)];unfold nd;rw[List.getElem?_eq_getElem vz];simp only[iw,Option.map_some,Option.map_none,Option.getD_none,Option.getD_some];by_cases hx:N.runs[i].calls[0].arr+m.bM<0<;>simp[hx]
     |succ j=>
      have hj:j<N.runs[i].calls.length:=by omega
      rw[if_pos (by omega),uZ j (by omega),if_pos (il _ _ hj)];simp only[Int.toNat_natCast,List.getElem?_map,List.getElem?_eq_getElem hj,Option.map_some,U,zD,zF,asInt,if_true,TD,il _ _ vz,List.getElem?_eq_getElem vz];refine(key _ ?_).trans (by split<;>rename_i hx<;>simp only[hx,FB,List.getElem?_eq_getElem hi]<;>rfl);rw[wrap_small (by omega) (by omega)];unfold nd;rw[List.getElem?_eq_getElem vz];simp only[iw,List.getElem?_eq_getElem hj,Option.map_some,Option.getD_some]
   simp only[if_neg k1];by_cases k2:m.kind=2
   ·simp only[k2,if_true,qf _ _ hi,U,Wp,←List.map_set];rfl
   simp only[if_neg k2];by_cases k3:m.kind=3
   ·simp only[k3,if_true];have M9:=not_or.1 (fun hh=>hn ⟨.inr k3,hh⟩:¬(m.call<0∨m.call≥(N.runs[i].calls.length:Int)));obtain⟨c,A3⟩:∃c:Nat,m.call=(c:Int):=⟨m.call.toNat,by omega⟩;have vz:c<N.runs[i].calls.length:=by omega
    simp only[A3,Int.toNat_natCast,il c _ vz,if_true,List.getElem?_map,List.getElem?_eq_getElem vz,Option.map_some,U,SD,←List.map_set,acd,List.length_set,List.length_map,pS,List.getElem?_set_self hi,D8,List.getElem?_set_self vz,SE,List.set_set,kj];simp only[xx,List.getElem?_eq_getElem vz];rfl
   simp only[if_neg k3];by_cases k4:m.kind=4
   ·simp only[k4,if_true];have gz:=nS m.calls N.stops.length 0 3155932800 hm.calls.1;simp only[res]at gz;have Ym:=vb m.calls (by omega);simp only[gz,U,bW,List.length_cons,List.length_nil,Nat.reduceAdd,if_true,List.getD_cons_zero,List.getD_cons_succ,asInt,uw];by_cases he:(bk m.calls (N.stops.length:Int) 0 3155932800).2=0
    ·simp only[he,Ym,U,ab,if_true,ne_eq,not_true,if_false];rw[Yt ms len kk yf er Ys cW N h i,Vf,sx];rw[←List.map_set];rfl
    ·rw[if_neg he,if_pos he];simp only[if_neg he];rfl
   simp only[if_neg k4];rfl
def pq(N:ag)(m:fC):ag:=if eC m=0 then(if(CV N m).2=0 then(CV N m).1 else N)else N
def CW(N:ag)(m:fC):Int:=if eC m=0 then(CV N m).2 else eC m
def HP(N:ag)(er:List Int):List fC→ag×List Int
 |[]=>(N,er)
 |m::l=>HP (pq N m) (er++[CW N m]) l
theorem Eb{N:ag}{m:fC}(h:(dS N).2.2=0):(dS (pq N m)).2.2=0:=by
 unfold pq;by_cases h1:eC m=0
 ·rw[if_pos h1];by_cases h2:(CV N m).2=0
  ·rw[if_pos h2];exact Pp N m h h1 h2
  ·rw[if_neg h2];exact h
 ·rw[if_neg h1];exact h
end Go.Ab.Tt
namespace Go.Ab.Tt
set_option maxRecDepth 100000
set_option linter.unusedVariables false
set_option linter.unusedSimpArgs false
structure pn(N N':ag)(m:fC):Prop where
 stops:N'.stops=N.stops
 ae:N'.ae=N.ae
 paths:N'.paths=N.paths
 aq:N'.aq=N.aq
 aN:N'.aN=N.aN
 within:N'.within=N.within
 cap:N'.cap=N.cap
 ah:N'.ah.length≤N.ah.length∧∀x∈N'.ah,x∈N.ah
 len:N'.runs.length≤N.runs.length+1
 runs:∀r∈N'.runs,(∃r0∈N.runs,r.dp=r0.dp∧r.inst=r0.inst∧r.id=r0.id∧r.day=r0.day∧r.bh=r0.bh)∨(r.dp= -1∧r.inst=m.inst∧r.id=m.dp∧r.day=m.day∧r.bh=m.bh)
theorem pn.rfl'(N:ag)(m:fC):pn N N m:=⟨rfl,rfl,rfl,rfl,rfl,rfl,rfl,⟨Nat.le_refl _,fun _ h=>h⟩,Nat.le_succ _,fun r h=>.inl ⟨r,h,rfl,rfl,rfl,rfl,rfl⟩⟩
theorem xC{N:ag}{m:fC}{i:Nat}{r x:bw}(hr:N.runs[i]?=some r)(h:x.dp=r.dp∧x.inst=r.inst∧x.id=r.id∧x.day=r.day∧x.bh=r.bh)(ls:List aG)(hl:ls.length≤N.ah.length∧∀y∈ls,y∈N.ah):pn N {N with runs:=N.runs.set i x,ah:=ls} m:=by
 refine⟨rfl,rfl,rfl,rfl,rfl,rfl,rfl,hl,by simp,fun q hq=>.inl ?_⟩;rcases List.mem_or_eq_of_mem_set hq with hq|hq
 ·exact⟨q,hq,rfl,rfl,rfl,rfl,rfl⟩
 ·subst hq;exact⟨r,List.mem_of_getElem? hr,h⟩
theorem SH(N:ag)(m:fC):pn N (CV N m).1 m:=by
 unfold CV;by_cases k5:m.kind=5
 ·rw[if_pos k5];split
  ·exact pn.rfl' N m
  ·split
   ·exact pn.rfl' N m
   ·split
    ·exact pn.rfl' N m
    ·split
     ·exact pn.rfl' N m
     ·refine⟨rfl,rfl,rfl,rfl,rfl,rfl,rfl,⟨Nat.le_refl _,fun _ h=>h⟩,by simp,fun r h=>?_⟩;rcases List.mem_append.1 h with h|h
      ·exact .inl ⟨r,h,rfl,rfl,rfl,rfl,rfl⟩
      ·simp only[List.mem_singleton]at h;subst h;exact .inr ⟨rfl,rfl,rfl,rfl,rfl⟩
 ·rw[if_neg k5];cases uk N.runs m with
  |none=>exact pn.rfl' N m
  |some i=>
   dsimp only;cases hr:N.runs[i]? with
   |none=>exact pn.rfl' N m
   |some r=>
    have hls:N.ah.length≤N.ah.length∧∀y∈N.ah,y∈N.ah:=⟨Nat.le_refl _,fun _ h=>h⟩;dsimp only;split
    ·exact pn.rfl' N m
    ·split
     ·cases prop r.calls m.call m.bM with
      |mk o e=>
       cases o with
       |none=>exact pn.rfl' N m
       |some l=>exact xC (x:={r with calls:=l}) hr ⟨rfl,rfl,rfl,rfl,rfl⟩ N.ah hls
     ·split
      ·exact xC (x:={r with oZ:=true}) hr ⟨rfl,rfl,rfl,rfl,rfl⟩ N.ah hls
      ·split
       ·exact xC (x:={r with calls:=xx r.calls m.call.toNat}) hr ⟨rfl,rfl,rfl,rfl,rfl⟩ N.ah hls
       ·split
        ·split
         ·exact pn.rfl' N m
         ·exact xC (x:={r with calls:=m.calls}) hr ⟨rfl,rfl,rfl,rfl,rfl⟩ _ ⟨List.length_filter_le _ _,fun y h=>(List.mem_filter.1 h).1⟩
        ·exact pn.rfl' N m
theorem HQ(N:ag)(m:fC):pn N (pq N m) m:=by
 unfold pq;split
 ·split
  ·exact SH N m
  ·exact pn.rfl' N m
 ·exact pn.rfl' N m
theorem FE{x:Int}(h1: -9223372036854775808≤x)(h2:x≤9223372036854775807):jQ x:=by show(decide ((-9223372036854775808:Int)≤x)&&decide (x≤(9223372036854775807:Int)))=true;simp[h1,h2]
theorem HR{l:List av}{n:Int}(h:(bk l n 0 3155932800).2=0)(hn:n≤100000):l.length≤32∧∀y∈l,y.Ok:=by obtain⟨h1,h2⟩:=ud h;refine⟨h2,fun y hy=>?_⟩;obtain⟨k,hk,rfl⟩:=List.mem_iff_getElem.1 hy;have he:=zI h k hk;unfold mr at he;rw[List.getElem?_eq_getElem hk]at he;have ho:∃p,lh l[k] p n 0 3155932800=0:=⟨_,he⟩;obtain⟨p,ho⟩:=ho;obtain⟨a1,a2,a3,_⟩:=pf ho;obtain⟨b1,b2,_⟩:=su ho;exact⟨FE (by omega) (by omega),FE (by omega) (by omega),FE (by omega) (by omega)⟩
theorem HS{N N':ag}{m:fC}(h:IJ N)(hs:pn N N' m)(hv:(dS N').2.2=0)(hm:m.Ok)(hl:N.runs.length<100):IJ N':=by
 have Rz:1000≤maxLen:=by decide
 have hcv:=uc hv;have sV:=yH ((mP N').1 hv).1;refine⟨⟨?_,?_,?_,?_,?_,?_,?_,?_,?_⟩,?_,?_,?_,?_,?_,?_,?_⟩
 ·rw[hs.stops];exact h.ok.stops
 ·rw[hs.ae];exact h.ok.ae
 ·refine⟨by have:=hs.len;omega,fun r hr=>?_⟩;obtain⟨c1,c2⟩:=HR (hcv r hr) (by omega);rcases hs.runs r hr with⟨r0,h0,e1,e2,e3,e4,e5⟩|⟨e1,e2,e3,e4,e5⟩
  ·have g:=h.ok.runs.2 r0 h0;exact⟨by rw[e1];exact g.dp,by rw[e4];exact g.day,by rw[e2];exact g.inst,by rw[e3];exact g.id,by rw[e5];exact g.bh,by omega,c2⟩
  ·exact⟨by rw[e1];exact FE (by omega) (by omega),by rw[e4];exact hm.day,by rw[e2];exact hm.inst,by rw[e3];exact hm.dp,by rw[e5];exact hm.bh,by omega,c2⟩
 ·exact⟨Nat.le_trans hs.ah.1 h.ok.ah.1,fun x hx=>h.ok.ah.2 x (hs.ah.2 x hx)⟩
 ·rw[hs.paths];exact h.ok.paths
 ·rw[hs.aq];exact h.ok.aq
 ·rw[hs.aN];exact h.ok.aN
 ·rw[hs.within];exact h.ok.within
 ·rw[hs.cap];exact h.ok.cap
 ·rw[hs.stops];exact h.stops
 ·rw[hs.ae];exact h.ae
 ·have:=hs.len;omega
 ·exact Nat.le_trans hs.ah.1 h.ah
 ·rw[hs.paths];exact h.paths
 ·rw[hs.aq];exact h.aq
 ·intro r hr;have:=(HR (hcv r hr) (by omega)).1;omega
def NG(x:ag×List Int):PV:=.bm [x.1.pv,.rs 1 (x.2.map fun e=>.int .i64 e)]
theorem SI(ms:List PV)(l:List fC)(Rz:∀k,(hk:k<l.length)→∃q,ms[k]?=some q∧mR q l[k])(hl:l.length≤50)(TC:∀m∈l,m.Ok)(Yu:∀m∈l,m.calls.length≤1000):∀(j k:Nat)(N:ag)(er:List Int)(fu:Nat),k+j=l.length→j<fu→IJ N→(dS N).2.2=0→N.runs.length+j<100→er.length≤k→cE (iV ca) fu (Cy ms (l.length:Int) k N (er.map fun e=>.int .i64 e))=some (NG (HP N er (l.drop k))):=by
 intro j;induction j with
 |zero=>
  intro k N er fu hk hf hN hv hr he;obtain⟨fu,rfl⟩:∃f,fu=f+1:=⟨fu-1,by omega⟩;have:k=l.length:=by omega
  subst this;rw[cE,List.drop_length];unfold Cy iV;dsimp only;rw[if_neg (by simp),kj];rfl
 |succ j ih=>
  intro k N er fu hk hf hN hv hr he;obtain⟨fu,rfl⟩:∃f,fu=f+1:=⟨fu-1,by omega⟩;have kH:k<l.length:=by omega
  obtain⟨q,ZL,VJ⟩:=Rz k kH;rw[cE,SG _ _ k (by omega) _ (by simp;omega) _ l (by omega) q (by rw[ay];exact ZL) rfl kH N hN TC hv Yu VJ];have hs:=HQ N l[k];have FZ:=Eb (m:=l[k]) hv;have hlen:=hs.len;have:=ih (k+1) (pq N l[k]) (er++[CW N l[k]]) fu (by omega) (by omega) (HS hN hs FZ (TC _ (List.getElem_mem kH)) (by omega)) FZ (by omega) (by simp;omega);rw[List.map_append]at this;rw[List.drop_eq_getElem_cons kH];exact this
theorem HT(p:PV)(ms:List PV)(N:ag)(l:List fC)(hp:zS p N)(A9:ms.length=l.length)(Rz:∀k,(hk:k<l.length)→∃q,ms[k]?=some q∧mR q l[k])(h:IJ N)(hv:(dS N).2.2=0)(hl:l.length≤50)(hr:N.runs.length≤40)(TC:∀m∈l,m.Ok)(Yu:∀m∈l,m.calls.length≤1000):du [p,.rs 13 ms]=some (NG (HP N [] l)):=by
 have Zn:1003<rounds:=by decide
 have Ba:=Cf N h.ok (by have:=h.paths;omega);have f1:=Cg (N.stops.map Stop.pv) (by simpa using h.stops);have f2:=zJ (N.ae.map au.pv) (by simpa using h.ae);have f3:=DO (N.runs.map bw.pv) (by simp;omega);have f4:=Ch (N.ah.map aG.pv) (by simpa using h.ah);have f5:=uf (N.paths.map Path.pv) (by simpa using h.paths);have f6:=vI (N.aq.map aQ.pv) (by simpa using h.aq);have key:=SI ms l Rz hl TC Yu l.length 0 N [] rounds (by omega) (by omega) h hv (by omega) (by simp);simp only[du,tS,hp.hA,hp.h0,hp.h1,hp.h2,hp.h3,hp.h4,hp.h5,hp.h6,hp.h7,hp.h8,U];simp only[ab,if_true,U,f1,f2,f3,f4,f5,List.length_map];refine bK (fun k=>((N.runs.length:Int),(k:Int),ms,N.stops.map Stop.pv,N.ae.map au.pv,N.runs.map bw.pv,N.ah.map aG.pv,N.paths.map Path.pv,N.aq.map aQ.pv,N.aN,N.within,N.cap,(0:Int),(0:Int),(0:Int),N.aq.map aQ.pv,N.aN,N.within,N.cap,N.stops.map Stop.pv,N.ae.map au.pv,N.runs.map bw.pv,N.ah.map aG.pv,N.paths.map Path.pv,N.aq.map aQ.pv,N.aN,N.within,N.cap,(0:Int),(0:Int),(0:Int),N.stops.map Stop.pv,N.ae.map au.pv,mix bw.pN bw.pv N.runs k,N.ah.map aG.pv,N.paths.map Path.pv,())) N.runs.length (fun k hk rec=>?_) (fun rec=>?_) (by omega) (by rw[Hq];rfl)
 ·have fc:=Ci (N.runs[k].calls.map av.pv) (by simpa using h.calls _ (List.getElem_mem hk));unfold pt;dsimp only;rw[if_pos (by rw[decide_eq_true_eq];omega),if_pos (E6 _ _ _ _ hk),Int.toNat_natCast,Nc _ _ _ _ hk];simp only[U,EW,fc,ab,if_true,E6 _ _ _ _ hk,NB,al (show k<9223372036854775807 by omega)];have:=Nf bw.pN bw.pv N.runs k hk;rw[←this];rfl
 ·unfold pt;dsimp only;rw[if_neg (by simp),f6];simp only[U,ab,if_true,yA,Ba];simp only[fX,bW,List.length_cons,List.length_nil,Nat.reduceAdd,if_true,List.getD_cons_zero,List.getD_cons_succ,asInt,U,hv,E5,List.length_map,A9];rw[kO];exact key
theorem HU(N:ag)(l:List fC)(h:IJ N)(hv:(dS N).2.2=0)(hl:l.length≤50)(hr:N.runs.length≤40)(TC:∀m∈l,m.Ok)(Yu:∀m∈l,m.calls.length≤1000):du [N.pv,.rs 13 (l.map fC.pv)]=some (NG (HP N [] l)):=HT N.pv (l.map fC.pv) N l (ND N) (by simp) (fun k hk=>⟨l[k].pv,by simp[hk],ace _⟩) h hv hl hr TC Yu
end Go.Ab.Tt
namespace Go.Ab.Tt
set_option maxRecDepth 100000
set_option linter.unusedVariables false
set_option linter.unusedSimpArgs false
end Go.Ab.Tt
namespace Go.Ab.Tt
set_option maxRecDepth 100000
set_option linter.unusedVariables false
set_option linter.unusedSimpArgs false
def FF(A B:ag)(k:Nat):Bool:=decide (A.runs[k]?≠B.runs[k]?)
def FG(A B:ag)(n:Nat):List Nat:=(List.range n).filter (FF A B)
theorem Pu(A B:ag)(k:Nat):FG A B (k+1)=if FF A B k=true then FG A B k++[k]else FG A B k:=by unfold FG;rw[List.range_succ,List.filter_append];by_cases h:FF A B k=true<;>simp[h]
theorem SJ(A B:ag)(k:Nat):(FG A B k).length≤k:=by unfold FG;exact Nat.le_trans (List.length_filter_le _ _) (by simp)
def SK(k:Nat):PV:=.int .i64 k
def mx(A B:ag):Nat:=max A.runs.length B.runs.length
theorem Pv(x y:bw)(hx:x.calls.length≤maxLen):fl [x.pv,y.pv]=some (.bool (decide (x=y))):=by have hc:=pF x.calls y.calls hx;simp only[fl,sk,aeB,UQ,OV,OW,OX,UR,XV,XW,EW,U];simp only[asInt,bt,asBool,ab,if_true,U,hc,dw,bn,eW,kC,Na];generalize decide (x.dp=y.dp)=a1;generalize decide (x.day=y.day)=a2;generalize decide (x.inst=y.inst)=a3;generalize decide (x.id=y.id)=a4;generalize decide (x.bh=y.bh)=a5;generalize decide (x.oZ=y.oZ)=a7;generalize decide (x.calls=y.calls)=a8;generalize decide (x.free=y.free)=a6;cases a1<;>cases a2<;>cases a3<;>cases a4<;>rfl
theorem FH(A B:ag)(hA:A.runs.length≤1000∧∀x∈A.runs,x.calls.length≤maxLen)(hB:B.runs.length≤1000):bX [A.pv,B.pv]=some (.rs 1 ((FG A B (mx A B)).map SK)):=by
 have Zn:1003<rounds:=by decide
 simp only[bX,jO,pD,rn,rq,rr,ru,ry,rz,rA,rB,rC,U,List.length_map];refine bK (fun k=>(((mx A B:Nat):Int),(k:Int),A.stops.map Stop.pv,A.ae.map au.pv,A.runs.map bw.pv,A.ah.map aG.pv,A.paths.map Path.pv,A.aq.map aQ.pv,A.aN,A.within,A.cap,B.stops.map Stop.pv,B.ae.map au.pv,B.runs.map bw.pv,B.ah.map aG.pv,B.paths.map Path.pv,B.aq.map aQ.pv,B.aN,B.within,B.cap,(FG A B k).map SK,())) (mx A B) (fun k hk rec=>?_) (fun rec=>?_) (by unfold mx;omega) ?_
 ·have hl:=SJ A B k;have hm:k<1000:=by unfold mx at hk;omega
  have ep:((FG A B k).map SK++[PV.int .i64 (k:Int)]).length*8≤aa∧0<8:=NF _ (by simp;omega) _;have cS:∀x:bw,PV.agg [cell x.pv 0,cell x.pv 1,cell x.pv 2,cell x.pv 3,cell x.pv 4,cell x.pv 5,cell x.pv 6,cell x.pv 7]=x.pv:=aaE;unfold kq;dsimp only;rw[if_pos (by rw[decide_eq_true_eq];omega)];simp only[List.length_map,bn,ay,List.getElem?_map,al (show k<9223372036854775807 by omega),Pu];by_cases ha:k<A.runs.length
  ·by_cases hb:k<B.runs.length
   ·have hs:=Pv A.runs[k] B.runs[k] (hA.2 _ (List.getElem_mem ha));rw[show(decide ((k:Int)≥(A.runs.length:Int))||decide ((k:Int)≥(B.runs.length:Int)))=false by rw[decide_eq_false (by omega),decide_eq_false (by omega)];rfl];simp only[U,cond_false,List.getElem?_eq_getElem ha,List.getElem?_eq_getElem hb,Option.map_some,aaE,hs,asBool];have hd:FF A B k= !decide (A.runs[k]=B.runs[k]):=by unfold FF;rw[List.getElem?_eq_getElem ha,List.getElem?_eq_getElem hb];simp
    rw[hd];by_cases he:A.runs[k]=B.runs[k]
    ·simp[he]
    ·simp only[he,decide_false,Bool.not_false,if_true,if_pos ep,List.map_append];rfl
   ·have hd:FF A B k=true:=by unfold FF;rw[List.getElem?_eq_getElem ha,List.getElem?_eq_none (by omega)];simp
    rw[show(decide ((k:Int)≥(A.runs.length:Int))||decide ((k:Int)≥(B.runs.length:Int)))=true by rw[decide_eq_true (show(k:Int)≥(B.runs.length:Int) by omega)];simp,hd];simp only[U,cond_true,if_true,if_pos ep,List.map_append];rfl
  ·have hd:FF A B k=true:=by
    unfold FF;have hb:k<B.runs.length:=by unfold mx at hk;omega
    rw[List.getElem?_eq_getElem hb,List.getElem?_eq_none (by omega)];simp
   rw[show(decide ((k:Int)≥(A.runs.length:Int))||decide ((k:Int)≥(B.runs.length:Int)))=true by rw[decide_eq_true (show(k:Int)≥(A.runs.length:Int) by omega)];simp,hd];simp only[U,cond_true,if_true,if_pos ep,List.map_append];rfl
 ·unfold kq;dsimp only;rw[if_neg (by simp)]
 ·have:(if(B.runs.length:Int)>(A.runs.length:Int)then(B.runs.length:Int)else(A.runs.length:Int))=((mx A B:Nat):Int):=by unfold mx;split<;>omega
  rw[this];rfl
end Go.Ab.Tt
namespace Go.Ab.Tt
set_option maxRecDepth 100000
set_option linter.unusedVariables false
set_option linter.unusedSimpArgs false
def CX:List av:=[⟨0,100,100,true,false⟩,⟨1,200,200,false,true⟩]
def Wr(r:List bw):ag:=⟨[⟨[65],0,false,0⟩,⟨[66],0,false,0⟩],[⟨[82],0,false⟩],r,[],[],[],0,0,0⟩
def Ec:ag:=Wr [⟨0,0,0,[116,48],0,false,false,CX⟩]
def pG(kind:Int)(dp:Bytes)(inst call bM:Int)(calls:List av):fC:=⟨0,1,0,10,kind,dp,0,inst,call,bM,0,false,calls⟩
def eX:PV:=.agg [.rs 4 [.agg [.str [65],.int .i64 0,.bool false,.int .i64 0],.agg [.str [66],.int .i64 0,.bool false,.int .i64 0]],.rs 3 [.agg [.str [82],.int .i64 0,.bool false]],.rs 8 [.agg [.int .i64 0,.int .i64 0,.int .i64 0,.str [116,48],.int .i64 0,.bool false,.bool false,.rs 5 (CX.map av.pv)]],.rs 0 [],.rs 0 [],.rs 0 [],.int .i64 0,.int .i64 0,.int .i64 0]
def aJ(kind:Int)(dp:Bytes):PV:=.agg [.int .i64 0,.int .i64 1,.int .i64 0,.int .i64 10,.int .i64 kind,.str dp,.int .i64 0,.int .i64 0,.int .i64 0,.int .i64 0,.int .i64 0,.bool false,.rs 0 []]
theorem Yv:fG []=some eX:=rfl
theorem Vg(k:Int)(t:Bytes):hT [.int .i64 k,.str t]=some (aJ k t):=rfl
theorem Lf:fU []=some (.rs 5 (CX.map av.pv)):=rfl
theorem acf:asAgg 9 eX=some ():=rfl
theorem Yw(k:Int)(t:Bytes):asAgg 13 (aJ k t)=some ():=rfl
theorem NH:zS (.agg [cell eX 0,cell eX 1,cell eX 2,cell eX 3,cell eX 4,cell eX 5,cell eX 6,cell eX 7,cell eX 8]) Ec:=⟨rfl,rfl,rfl,rfl,rfl,rfl,rfl,rfl,rfl,rfl⟩
theorem SL:Ec.Ok:=by
 have h1:100≤maxLen:=by decide
 refine⟨⟨by show 2≤maxLen;omega,?_⟩,⟨by show 1≤maxLen;omega,?_⟩,⟨by show 1≤maxLen;omega,?_⟩,⟨by show 0≤maxLen;omega,fun _ h=>by cases h⟩,⟨by show 0≤maxLen;omega,fun _ h=>by cases h⟩,⟨by show 0≤maxLen;omega,fun _ h=>by cases h⟩,by decide,by decide,by decide⟩
 ·intro y hy;simp only[Ec,Wr,List.mem_cons,List.not_mem_nil,or_false]at hy;rcases hy with rfl|rfl
  ·exact⟨by show 1≤maxLen;omega,by decide,by decide⟩
  ·exact⟨by show 1≤maxLen;omega,by decide,by decide⟩
 ·intro y hy;simp only[Ec,Wr,List.mem_cons,List.not_mem_nil,or_false]at hy;subst hy;exact⟨by show 1≤maxLen;omega,by decide⟩
 ·intro y hy;simp only[Ec,Wr,List.mem_cons,List.not_mem_nil,or_false]at hy;subst hy;refine⟨by decide,by decide,by decide,by show 2≤maxLen;omega,by decide,by show 2≤maxLen;omega,fun z hz=>?_⟩;simp only[CX,List.mem_cons,List.not_mem_nil,or_false]at hz;rcases hz with rfl|rfl<;>exact⟨by decide,by decide,by decide⟩
theorem yS:(dS Ec).2.2=0:=by decide+kernel
theorem NI:IJ Ec:=by refine⟨SL,by decide,by decide,by decide,by decide,by decide,by decide,fun r hr=>?_⟩;simp only[Ec,Wr,List.mem_cons,List.not_mem_nil,or_false]at hr;subst hr;exact(by decide:2≤1000)
theorem vd(k:Int)(t:Bytes)(i c s:Int)(l:List av)(hk:jQ k)(ht:t.length≤100)(hi:jQ i)(hc:jQ c)(hs:jQ s)(hl:l=[]∨l=CX):(pG k t i c s l).Ok∧(pG k t i c s l).calls.length≤1000:=by
 have h1:100≤maxLen:=by decide
 have hl2:l.length≤2∧∀y∈l,y.Ok:=by
  rcases hl with rfl|rfl
  ·exact⟨by decide,fun _ h=>by cases h⟩
  ·refine⟨by decide,fun z hz=>?_⟩;simp only[CX,List.mem_cons,List.not_mem_nil,or_false]at hz;rcases hz with rfl|rfl<;>exact⟨by decide,by decide,by decide⟩
 refine⟨⟨by show jQ 0;decide,by show jQ 1;decide,by show jQ 0;decide,by show jQ 10;decide,hk,by show t.length≤maxLen;omega,by show jQ 0;decide,hi,hc,hs,by show jQ 0;decide,⟨by show l.length≤maxLen;omega,hl2.2⟩⟩,by show l.length≤1000;omega⟩
theorem FI{p:PV}{A B:ag}(hp:zS p A):bX [p,B.pv]=bX [A.pv,B.pv]:=by simp only[bX,jO,hp.hA,hp.h0,hp.h1,hp.h2,hp.h3,hp.h4,hp.h5,hp.h6,hp.h7,hp.h8,pD,rn,rq,rr,ru,ry,rz,rA,rB,rC,U]
theorem rI{q:PV}{m:fC}(hq:mR q m)(hm:m.Ok∧m.calls.length≤1000){v:PV}(h:Cx Ec m=v):bg [.agg [cell eX 0,cell eX 1,cell eX 2,cell eX 3,cell eX 4,cell eX 5,cell eX 6,cell eX 7,cell eX 8],q]=some v:=(Le NH hq).trans ((Ld Ec m NI hm.1 hm.2).trans (by rw[h]))
def exL:ag:=Wr [⟨0,0,0,[116,48],0,false,false,[⟨0,160,160,true,false⟩,⟨1,260,260,false,true⟩]⟩]
def Pw:ag:=Wr [⟨0,0,0,[116,48],0,false,true,CX⟩]
def exD:ag:=Wr [⟨0,0,0,[116,48],0,false,false,CX⟩,⟨-1,0,0,[120],0,false,false,CX⟩]
theorem SM{m:fC}{N:ag}(h1:eC m=0)(h2:CV Ec m=(N,0)):Cx Ec m=.bm [N.pv,.int .i64 0]:=by unfold Cx aPV;rw[if_pos yS,if_pos h1,h2];rfl
theorem SN{m:fC}{N:ag}{e:Int}(h1:eC m=0)(h2:CV Ec m=(N,e))(he:e≠0):Cx Ec m=.bm [z9,.int .i64 e]:=by unfold Cx aPV;rw[if_pos yS,if_pos h1,h2,if_neg he]
theorem acg:mR (.agg [cell (aJ 1 [116,48]) 0,cell (aJ 1 [116,48]) 1,cell (aJ 1 [116,48]) 2,cell (aJ 1 [116,48]) 3,cell (aJ 1 [116,48]) 4,cell (aJ 1 [116,48]) 5,cell (aJ 1 [116,48]) 6,cell (aJ 1 [116,48]) 7,cell (aJ 1 [116,48]) 8,.int .i64 60,cell (aJ 1 [116,48]) 10,cell (aJ 1 [116,48]) 11,cell (aJ 1 [116,48]) 12]) (pG 1 [116,48] 0 0 60 []):=⟨rfl,rfl,rfl,rfl,rfl,rfl,rfl,rfl,rfl,rfl,rfl,rfl,rfl,rfl⟩
theorem ach:(pG 1 [116,48] 0 0 60 []).Ok∧(pG 1 [116,48] 0 0 60 []).calls.length≤1000:=vd _ _ _ _ _ _ (by decide) (by decide) (by decide) (by decide) (by decide) (.inl rfl)
theorem aci:bg [.agg [cell eX 0,cell eX 1,cell eX 2,cell eX 3,cell eX 4,cell eX 5,cell eX 6,cell eX 7,cell eX 8],.agg [cell (aJ 1 [116,48]) 0,cell (aJ 1 [116,48]) 1,cell (aJ 1 [116,48]) 2,cell (aJ 1 [116,48]) 3,cell (aJ 1 [116,48]) 4,cell (aJ 1 [116,48]) 5,cell (aJ 1 [116,48]) 6,cell (aJ 1 [116,48]) 7,cell (aJ 1 [116,48]) 8,.int .i64 60,cell (aJ 1 [116,48]) 10,cell (aJ 1 [116,48]) 11,cell (aJ 1 [116,48]) 12]]=some (.bm [exL.pv,.int .i64 0]):=rI acg ach (SM (by decide+kernel) (by kernel_rfl))
theorem SO:mR (.agg [cell (aJ 2 [116,48]) 0,cell (aJ 2 [116,48]) 1,cell (aJ 2 [116,48]) 2,cell (aJ 2 [116,48]) 3,cell (aJ 2 [116,48]) 4,cell (aJ 2 [116,48]) 5,cell (aJ 2 [116,48]) 6,cell (aJ 2 [116,48]) 7,cell (aJ 2 [116,48]) 8,cell (aJ 2 [116,48]) 9,cell (aJ 2 [116,48]) 10,cell (aJ 2 [116,48]) 11,cell (aJ 2 [116,48]) 12]) (pG 2 [116,48] 0 0 0 []):=⟨rfl,rfl,rfl,rfl,rfl,rfl,rfl,rfl,rfl,rfl,rfl,rfl,rfl,rfl⟩
theorem SP:(pG 2 [116,48] 0 0 0 []).Ok∧(pG 2 [116,48] 0 0 0 []).calls.length≤1000:=vd _ _ _ _ _ _ (by decide) (by decide) (by decide) (by decide) (by decide) (.inl rfl)
theorem acj:bg [.agg [cell eX 0,cell eX 1,cell eX 2,cell eX 3,cell eX 4,cell eX 5,cell eX 6,cell eX 7,cell eX 8],.agg [cell (aJ 2 [116,48]) 0,cell (aJ 2 [116,48]) 1,cell (aJ 2 [116,48]) 2,cell (aJ 2 [116,48]) 3,cell (aJ 2 [116,48]) 4,cell (aJ 2 [116,48]) 5,cell (aJ 2 [116,48]) 6,cell (aJ 2 [116,48]) 7,cell (aJ 2 [116,48]) 8,cell (aJ 2 [116,48]) 9,cell (aJ 2 [116,48]) 10,cell (aJ 2 [116,48]) 11,cell (aJ 2 [116,48]) 12]]=some (.bm [Pw.pv,.int .i64 0]):=rI SO SP (SM (by decide+kernel) (by kernel_rfl))
theorem ack:mR (.agg [cell (aJ 1 [116,48]) 0,cell (aJ 1 [116,48]) 1,cell (aJ 1 [116,48]) 2,cell (aJ 1 [116,48]) 3,cell (aJ 1 [116,48]) 4,cell (aJ 1 [116,48]) 5,cell (aJ 1 [116,48]) 6,.int .i64 1,cell (aJ 1 [116,48]) 8,cell (aJ 1 [116,48]) 9,cell (aJ 1 [116,48]) 10,cell (aJ 1 [116,48]) 11,cell (aJ 1 [116,48]) 12]) (pG 1 [116,48] 1 0 0 []):=⟨rfl,rfl,rfl,rfl,rfl,rfl,rfl,rfl,rfl,rfl,rfl,rfl,rfl,rfl⟩
theorem acm:(pG 1 [116,48] 1 0 0 []).Ok∧(pG 1 [116,48] 1 0 0 []).calls.length≤1000:=vd _ _ _ _ _ _ (by decide) (by decide) (by decide) (by decide) (by decide) (.inl rfl)
theorem acn:bg [.agg [cell eX 0,cell eX 1,cell eX 2,cell eX 3,cell eX 4,cell eX 5,cell eX 6,cell eX 7,cell eX 8],.agg [cell (aJ 1 [116,48]) 0,cell (aJ 1 [116,48]) 1,cell (aJ 1 [116,48]) 2,cell (aJ 1 [116,48]) 3,cell (aJ 1 [116,48]) 4,cell (aJ 1 [116,48]) 5,cell (aJ 1 [116,48]) 6,.int .i64 1,cell (aJ 1 [116,48]) 8,cell (aJ 1 [116,48]) 9,cell (aJ 1 [116,48]) 10,cell (aJ 1 [116,48]) 11,cell (aJ 1 [116,48]) 12]]=some (.bm [z9,.int .i64 16]):=rI ack acm (SN (N:=Ec) (by decide+kernel) (by kernel_rfl) (by decide))
theorem aco:mR (.agg [cell (aJ 1 [116,48]) 0,cell (aJ 1 [116,48]) 1,cell (aJ 1 [116,48]) 2,cell (aJ 1 [116,48]) 3,cell (aJ 1 [116,48]) 4,cell (aJ 1 [116,48]) 5,cell (aJ 1 [116,48]) 6,.int .i64 0,.int .i64 2,cell (aJ 1 [116,48]) 9,cell (aJ 1 [116,48]) 10,cell (aJ 1 [116,48]) 11,cell (aJ 1 [116,48]) 12]) (pG 1 [116,48] 0 2 0 []):=⟨rfl,rfl,rfl,rfl,rfl,rfl,rfl,rfl,rfl,rfl,rfl,rfl,rfl,rfl⟩
theorem acp:(pG 1 [116,48] 0 2 0 []).Ok∧(pG 1 [116,48] 0 2 0 []).calls.length≤1000:=vd _ _ _ _ _ _ (by decide) (by decide) (by decide) (by decide) (by decide) (.inl rfl)
theorem acq:bg [.agg [cell eX 0,cell eX 1,cell eX 2,cell eX 3,cell eX 4,cell eX 5,cell eX 6,cell eX 7,cell eX 8],.agg [cell (aJ 1 [116,48]) 0,cell (aJ 1 [116,48]) 1,cell (aJ 1 [116,48]) 2,cell (aJ 1 [116,48]) 3,cell (aJ 1 [116,48]) 4,cell (aJ 1 [116,48]) 5,cell (aJ 1 [116,48]) 6,.int .i64 0,.int .i64 2,cell (aJ 1 [116,48]) 9,cell (aJ 1 [116,48]) 10,cell (aJ 1 [116,48]) 11,cell (aJ 1 [116,48]) 12]]=some (.bm [z9,.int .i64 9]):=rI aco acp (SN (N:=Ec) (by decide+kernel) (by kernel_rfl) (by decide))
theorem acr:mR (.agg [cell (aJ 5 [120]) 0,cell (aJ 5 [120]) 1,cell (aJ 5 [120]) 2,cell (aJ 5 [120]) 3,cell (aJ 5 [120]) 4,cell (aJ 5 [120]) 5,cell (aJ 5 [120]) 6,cell (aJ 5 [120]) 7,cell (aJ 5 [120]) 8,cell (aJ 5 [120]) 9,cell (aJ 5 [120]) 10,cell (aJ 5 [120]) 11,.rs 5 (CX.map av.pv)]) (pG 5 [120] 0 0 0 CX):=⟨rfl,rfl,rfl,rfl,rfl,rfl,rfl,rfl,rfl,rfl,rfl,rfl,rfl,rfl⟩
theorem acs:(pG 5 [120] 0 0 0 CX).Ok∧(pG 5 [120] 0 0 0 CX).calls.length≤1000:=vd _ _ _ _ _ _ (by decide) (by decide) (by decide) (by decide) (by decide) (.inr rfl)
theorem acu:bg [.agg [cell eX 0,cell eX 1,cell eX 2,cell eX 3,cell eX 4,cell eX 5,cell eX 6,cell eX 7,cell eX 8],.agg [cell (aJ 5 [120]) 0,cell (aJ 5 [120]) 1,cell (aJ 5 [120]) 2,cell (aJ 5 [120]) 3,cell (aJ 5 [120]) 4,cell (aJ 5 [120]) 5,cell (aJ 5 [120]) 6,cell (aJ 5 [120]) 7,cell (aJ 5 [120]) 8,cell (aJ 5 [120]) 9,cell (aJ 5 [120]) 10,cell (aJ 5 [120]) 11,.rs 5 (CX.map av.pv)]]=some (.bm [exD.pv,.int .i64 0]):=rI acr acs (SM (by decide+kernel) (by kernel_rfl))
theorem Ws:mR (.agg [cell (aJ 5 [120]) 0,cell (aJ 5 [120]) 1,cell (aJ 5 [120]) 2,cell (aJ 5 [120]) 3,cell (aJ 5 [120]) 4,.str [116,48],cell (aJ 5 [120]) 6,cell (aJ 5 [120]) 7,cell (aJ 5 [120]) 8,cell (aJ 5 [120]) 9,cell (aJ 5 [120]) 10,cell (aJ 5 [120]) 11,.rs 5 (CX.map av.pv)]) (pG 5 [116,48] 0 0 0 CX):=⟨rfl,rfl,rfl,rfl,rfl,rfl,rfl,rfl,rfl,rfl,rfl,rfl,rfl,rfl⟩
theorem SQ:(pG 5 [116,48] 0 0 0 CX).Ok∧(pG 5 [116,48] 0 0 0 CX).calls.length≤1000:=vd _ _ _ _ _ _ (by decide) (by decide) (by decide) (by decide) (by decide) (.inr rfl)
theorem acv:bg [.agg [cell eX 0,cell eX 1,cell eX 2,cell eX 3,cell eX 4,cell eX 5,cell eX 6,cell eX 7,cell eX 8],.agg [cell (aJ 5 [120]) 0,cell (aJ 5 [120]) 1,cell (aJ 5 [120]) 2,cell (aJ 5 [120]) 3,cell (aJ 5 [120]) 4,.str [116,48],cell (aJ 5 [120]) 6,cell (aJ 5 [120]) 7,cell (aJ 5 [120]) 8,cell (aJ 5 [120]) 9,cell (aJ 5 [120]) 10,cell (aJ 5 [120]) 11,.rs 5 (CX.map av.pv)]]=some (.bm [z9,.int .i64 6]):=rI Ws SQ (SN (N:=Ec) (by decide+kernel) (by kernel_rfl) (by decide))
theorem Lg:bX [.agg [cell eX 0,cell eX 1,cell eX 2,cell eX 3,cell eX 4,cell eX 5,cell eX 6,cell eX 7,cell eX 8],.agg [cell Pw.pv 0,cell Pw.pv 1,cell Pw.pv 2,cell Pw.pv 3,cell Pw.pv 4,cell Pw.pv 5,cell Pw.pv 6,cell Pw.pv 7,cell Pw.pv 8]]=some (.rs 1 [.int .i64 0]):=by refine(FI (B:=Pw) NH).trans ((FH Ec Pw ⟨by decide,fun x hx=>SL.runs.2 x hx|>.calls.1⟩ (by decide)).trans ?_);kernel_rfl
theorem Px:bH [.agg [cell eX 0,cell eX 1,cell eX 2,cell eX 3,cell eX 4,cell eX 5,cell eX 6,cell eX 7,cell eX 8],.agg [cell (aJ 2 [116,48]) 0,cell (aJ 2 [116,48]) 1,cell (aJ 2 [116,48]) 2,cell (aJ 2 [116,48]) 3,cell (aJ 2 [116,48]) 4,cell (aJ 2 [116,48]) 5,cell (aJ 2 [116,48]) 6,cell (aJ 2 [116,48]) 7,cell (aJ 2 [116,48]) 8,cell (aJ 2 [116,48]) 9,cell (aJ 2 [116,48]) 10,cell (aJ 2 [116,48]) 11,cell (aJ 2 [116,48]) 12]]=some (.bm [.int .i64 0,.bool true]):=(zT NH SO).trans ((uv Ec _ (by decide)).trans (by kernel_rfl))
theorem Yx:du [.agg [cell eX 0,cell eX 1,cell eX 2,cell eX 3,cell eX 4,cell eX 5,cell eX 6,cell eX 7,cell eX 8],.rs 13 [.agg [cell (aJ 5 [120]) 0,cell (aJ 5 [120]) 1,cell (aJ 5 [120]) 2,cell (aJ 5 [120]) 3,cell (aJ 5 [120]) 4,.str [116,48],cell (aJ 5 [120]) 6,cell (aJ 5 [120]) 7,cell (aJ 5 [120]) 8,cell (aJ 5 [120]) 9,cell (aJ 5 [120]) 10,cell (aJ 5 [120]) 11,.rs 5 (CX.map av.pv)],.agg [cell (aJ 2 [116,48]) 0,cell (aJ 2 [116,48]) 1,cell (aJ 2 [116,48]) 2,cell (aJ 2 [116,48]) 3,cell (aJ 2 [116,48]) 4,cell (aJ 2 [116,48]) 5,cell (aJ 2 [116,48]) 6,cell (aJ 2 [116,48]) 7,cell (aJ 2 [116,48]) 8,cell (aJ 2 [116,48]) 9,cell (aJ 2 [116,48]) 10,cell (aJ 2 [116,48]) 11,cell (aJ 2 [116,48]) 12]]]=some (.bm [Pw.pv,.rs 1 [.int .i64 6,.int .i64 0]]):=by
 refine(HT _ _ Ec [pG 5 [116,48] 0 0 0 CX,pG 2 [116,48] 0 0 0 []] NH rfl (fun k hk=>?_) NI yS (by decide) (by decide) ?_ ?_).trans ?_
 ·match k,hk with
  |0,_=>exact⟨_,rfl,Ws⟩
  |1,_=>exact⟨_,rfl,SO⟩
 ·intro m hm;simp only[List.mem_cons,List.not_mem_nil,or_false]at hm;rcases hm with rfl|rfl
  ·exact SQ.1
  ·exact SP.1
 ·intro m hm;simp only[List.mem_cons,List.not_mem_nil,or_false]at hm;rcases hm with rfl|rfl
  ·exact SQ.2
  ·exact SP.2
 ·kernel_rfl
theorem aeY:asAgg 9 z9=some ():=rfl
theorem SR:dE []=some (.bool true):=by simp only[dE,j4,iR,Yv,Vg,Lf,acf,Yw,U,ab,if_true,aci,acj,acn,acq,acu,acv,bW,List.length_cons,List.length_nil,Nat.reduceAdd,List.getD_cons_zero,List.getD_cons_succ,asInt,pD,aeY,Px,Yx,Lg];kernel_rfl
end Go.Ab.Tt
namespace Go.Ab.Tt
set_option maxRecDepth 100000
set_option linter.unusedVariables false
set_option linter.unusedSimpArgs false
theorem Lh{l:List au}(h:(fo l).2=0):l.length≤64:=by
 unfold fo at h;by_cases sV:l.length>64
 ·rw[if_pos sV]at h;cases h
 ·omega
theorem Py{l:List aQ}{a b c:Int}(h:(dH l a b c).2=0):l.length≤16:=by
 unfold dH at h;split at h
 ·cases h
 ·by_cases h16:l.length>16
  ·rw[if_pos h16]at h;cases h
  ·omega
def Cz(N:ag):Bool:= !(decide ((N.stops.length:Int)>5)||decide ((N.runs.length:Int)>7)||decide ((N.ah.length:Int)>30)||decide ((N.paths.length:Int)>60))&&(!((List.range N.runs.length).any fun k=>(N.runs[k]?).elim false fun r=>decide ((r.calls.length:Int)>6))&&decide ((dS N).2.2=0))
theorem SS(N:ag)(h:N.Ok):jI [N.pv]=some (.bool (Cz N)):=by
 have hm:=aW;have hr:=h.runs.1;simp only[jI,tU,pD,rn,rq,rr,ru,ry,rz,rA,rB,rC,U,bn,List.length_map];unfold Cz;by_cases hc:(decide ((N.stops.length:Int)>5)||decide ((N.runs.length:Int)>7)||decide ((N.ah.length:Int)>30)||decide ((N.paths.length:Int)>60))=true
 ·rw[if_pos hc,hc];rfl
 ·rw[if_neg hc];have PU:(decide ((N.stops.length:Int)>5)||decide ((N.runs.length:Int)>7)||decide ((N.ah.length:Int)>30)||decide ((N.paths.length:Int)>60))=false:=by simpa using hc
  rw[PU,Bool.not_false,Bool.true_and];refine(oW (fun k=>((k:Int),N.stops.map Stop.pv,N.ae.map au.pv,N.runs.map bw.pv,N.ah.map aG.pv,N.paths.map Path.pv,N.aq.map aQ.pv,N.aN,N.within,N.cap,())) N.runs.length (fun k=>(N.runs[k]?).elim false fun r=>decide ((r.calls.length:Int)>6)) (no:=some (.bool false)) (fin:=some (.bool (decide ((dS N).2.2=0)))) (fun k hk rec=>?_) (fun rec=>?_) (by have:=aR;omega) rfl).trans ?_
  ·unfold pw;dsimp only;rw[List.length_map,if_pos (by rw[decide_eq_true_eq];omega),ay,List.getElem?_map,List.getElem?_eq_getElem hk];simp only[Option.map_some,U,EW,ab,if_true,List.length_map,al (show k<9223372036854775807 by omega),Option.elim];rfl
  ·unfold pw;dsimp only;rw[List.length_map,if_neg (by simp)];have hp:N.paths.length≤4096:=by simp only[Bool.or_eq_false_iff,decide_eq_false_iff_not]at PU;omega
   simp only[yA,Sy N h hp,U,asBool]
  ·cases((List.range N.runs.length).any fun k=>(N.runs[k]?).elim false fun r=>decide ((r.calls.length:Int)>6))<;>rfl
theorem Pz{N:ag}(h:Cz N=true):N.runs.length≤7∧N.paths.length≤60∧(dS N).2.2=0∧(N.Ok→IJ N):=by
 unfold Cz at h;simp only[Bool.and_eq_true,Bool.not_eq_true',Bool.or_eq_false_iff,decide_eq_false_iff_not,decide_eq_true_eq]at h;obtain⟨⟨⟨⟨h1,h2⟩,h3⟩,h4⟩,h7,hv⟩:=h;have sF:∀r∈N.runs,r.calls.length≤6:=fun r hr=>by obtain⟨k,hk,rfl⟩:=List.getElem_of_mem hr;rw[List.any_eq_false]at h7;have:=h7 k (by simpa using hk);rw[List.getElem?_eq_getElem hk]at this;simp only[Option.elim,decide_eq_true_eq]at this;omega
 have hz:=(mP N).1 hv;have r1:=Lh hz.2.1;have r2:=Py hz.2.2.2.2.2;exact⟨by omega,by omega,hv,fun ho=>⟨ho,by omega,by omega,by omega,by omega,by omega,by omega,fun r hr=>by have:=sF r hr;omega⟩⟩
def SU(m:fC):Bool:=decide ((m.dp.length:Int)≤1024)&&decide ((m.calls.length:Int)≤40)
theorem Li(m:fC):fH [m.pv]=some (.bool (SU m)):=by simp only[fH,qF,Fm,Fo,Fq,Fs,Ft,Fu,Fv,Fx,Fy,Fz,FA,xy,xz,D6,U,asInt,bt,ab,if_true,asBool,dw,List.length_map];rfl
theorem NJ{m:fC}(h:SU m=true):m.calls.length≤40:=by simp only[SU,Bool.and_eq_true,decide_eq_true_eq]at h;omega
theorem Lj{p q:PV}{A B:ag}(hp:zS p A)(hq:zS q B)(hA:A.Ok):fa [p,q]=some (.bool (eqN A B)):=by have h:=Pa A B hA;simp only[fa,mJ,pD,rn,rq,rr,ru,ry,rz,rA,rB,rC,U]at h;simp only[fa,mJ,hp.hA,hp.h0,hp.h1,hp.h2,hp.h3,hp.h4,hp.h5,hp.h6,hp.h7,hp.h8,hq.hA,hq.h0,hq.h1,hq.h2,hq.h3,hq.h4,hq.h5,hq.h6,hq.h7,hq.h8,U];exact h
theorem acw(N:ag):PV.agg [cell N.pv 0,cell N.pv 1,cell N.pv 2,cell N.pv 3,cell N.pv 4,cell N.pv 5,cell N.pv 6,cell N.pv 7,cell N.pv 8]=N.pv:=rfl
end Go.Ab.Tt
namespace Go.Ab.Tt
set_option maxRecDepth 100000
set_option linter.unusedVariables false
set_option linter.unusedSimpArgs false
theorem PA{l l':List bw}(m:fC)(h:l'.map aU=l.map aU):uk l' m=uk l m:=by
 have hl:l'.length=l.length:=by have:=congrArg List.length h;simpa using this
 unfold uk;rw[h,hl]
theorem Vh{l:List bw}{i:Nat}{r x:bw}(hr:l[i]?=some r)(hk:aU x=aU r):(l.set i x).map aU=l.map aU:=by have hi:=(List.getElem?_eq_some_iff.1 hr).1;have hg:=(List.getElem?_eq_some_iff.1 hr).2;rw[List.map_set,hk,←hg,←List.getElem_map aU (h:=by simpa using hi),List.set_getElem_self]
end Go.Ab.Tt
namespace Go.Ab.Tt
set_option maxRecDepth 100000
set_option linter.unusedVariables false
set_option linter.unusedSimpArgs false
theorem HV:∀(l:List fC)(N:ag)(er:List Int),IJ N→(dS N).2.2=0→N.runs.length+l.length<100→(∀m∈l,m.Ok)→IJ (HP N er l).1∧(HP N er l).2.length=er.length+l.length
 |[],N,er,h,_,_,_=>⟨h,rfl⟩
 |m::l,N,er,h,hv,hr,hm=>by have hs:=HQ N m;have FZ:=Eb (m:=m) hv;have hlen:=hs.len;simp only[List.length_cons]at hr;obtain⟨h1,h2⟩:=HV l (pq N m) (er++[CW N m]) (HS h hs FZ (hm m (by simp)) (by omega)) FZ (by omega) (fun x hx=>hm x (by simp[hx]));refine⟨h1,?_⟩;show(HP (pq N m) (er++[CW N m]) l).2.length=_;rw[h2];simp only[List.length_append,List.length_cons,List.length_nil];omega
end Go.Ab.Tt
namespace Go.Ab.Tt
set_option maxRecDepth 100000
set_option linter.unusedVariables false
set_option linter.unusedSimpArgs false
theorem Yy{l:List bw}{i:Nat}{x:bw}{k:Nat}(h:k≠i):(l.set i x)[k]?=l[k]?:=List.getElem?_set_ne (fun e=>h e.symm)
end Go.Ab.Tt
namespace Go.Ab.Tt
set_option maxRecDepth 100000
set_option linter.unusedVariables false
set_option linter.unusedSimpArgs false
inductive Eff where
 |err (e:Int)
 |Yz
 |add
 |Ga (i:Nat) (x:bw) (cut:Bool)
def CA(N:ag)(m:fC):Eff:=
 if m.kind=5 then
  if(uk N.runs m).isSome=true then .err 6 else if m.bh<0∨m.bh≥(N.ae.length:Int)then .err 14
  else if(bk m.calls N.stops.length 0 3155932800).2≠0 then .err (bk m.calls N.stops.length 0 3155932800).2
  else if N.runs.length≥1024 then .err 5 else .add
 else match uk N.runs m with
 |none=>.err 16
 |some i=>match N.runs[i]? with
  |none=>.err 16
  |some r=>
   if(m.kind=1∨m.kind=3)∧(m.call<0∨m.call≥(r.calls.length:Int))then .err 9
   else if m.kind=1 then match prop r.calls m.call m.bM with
    |(some l,_)=>.Ga i {r with calls:=l} false
    |(none,e)=>.err e
   else if m.kind=2 then .Ga i {r with oZ:=true} false
   else if m.kind=3 then .Ga i {r with calls:=xx r.calls m.call.toNat} false
   else if m.kind=4 then
    if(bk m.calls N.stops.length 0 3155932800).2≠0 then .err (bk m.calls N.stops.length 0 3155932800).2
    else .Ga i {r with calls:=m.calls} true
   else .Yz
def PB(N:ag)(m:fC):Eff→ag×Int
 |.err e=>(N,e)
 |.Yz=>(N,0)
 |.add=>({N with runs:=N.runs++[yP m]},0)
 |.Ga i x c=>({N with runs:=N.runs.set i x,ah:=if c then N.ah.filter (FD i)else N.ah},0)
theorem Vi(N:ag)(m:fC):CV N m=PB N m (CA N m):=by
 unfold CV CA;by_cases k5:m.kind=5
 ·rw[if_pos k5,if_pos k5];split
  ·rfl
  ·split
   ·rfl
   ·split
    ·rfl
    ·split<;>rfl
 ·rw[if_neg k5,if_neg k5];cases uk N.runs m with
  |none=>rfl
  |some i=>
   dsimp only;cases N.runs[i]? with
   |none=>rfl
   |some r=>
    dsimp only;split
    ·rfl
    ·split
     ·cases prop r.calls m.call m.bM with
      |mk o e=>cases o<;>rfl
     ·split
      ·rfl
      ·split
       ·rfl
       ·split
        ·split<;>rfl
        ·rfl
variable{N:ag}
theorem AD{m:fC}{i:Nat}{x:bw}{c:Bool}(h:CA N m=.Ga i x c):m.kind≠5∧uk N.runs m=some i∧∃r,N.runs[i]?=some r∧aU x=aU r:=by
 unfold CA at h;by_cases k5:m.kind=5
 ·rw[if_pos k5]at h;split at h
  ·cases h
  ·split at h
   ·cases h
   ·split at h
    ·cases h
    ·split at h<;>cases h
 ·rw[if_neg k5]at h;refine⟨k5,?_⟩;cases ht:uk N.runs m with
  |none=>rw[ht]at h;cases h
  |some j=>
   rw[ht]at h;dsimp only at h;cases hr:N.runs[j]? with
   |none=>rw[hr]at h;cases h
   |some r=>
    rw[hr]at h;dsimp only at h;have fin:∀y:bw,aU y=aU r→∀d,Eff.Ga j y d=Eff.Ga i x c→some j=some i∧∃r,N.runs[i]?=some r∧aU x=aU r:=fun y hy d hh=>by cases hh;exact⟨rfl,r,hr,hy⟩
    split at h
    ·cases h
    ·split at h
     ·cases hp:prop r.calls m.call m.bM with
      |mk o e=>
       rw[hp]at h;cases o with
       |none=>cases h
       |some l=>exact fin {r with calls:=l} rfl _ h
     ·split at h
      ·exact fin {r with oZ:=true} rfl _ h
      ·split at h
       ·exact fin {r with calls:=xx r.calls m.call.toNat} rfl _ h
       ·split at h
        ·split at h
         ·cases h
         ·exact fin {r with calls:=m.calls} rfl _ h
        ·cases h
theorem FJ{m:fC}(h:CA N m=.add):m.kind=5:=by
 unfold CA at h;by_cases k5:m.kind=5
 ·exact k5
 ·exfalso;rw[if_neg k5]at h;split at h
  ·cases h
  ·split at h
   ·cases h
   ·split at h
    ·cases h
    ·split at h
     ·split at h<;>cases h
     ·split at h
      ·cases h
      ·split at h
       ·cases h
       ·split at h
        ·split at h<;>cases h
        ·cases h
theorem Vj{l:List bw}{m:fC}{x:bw}(hx:aU x≠m.key):uk (l++[x]) m=uk l m:=by
 unfold uk;rw[List.length_append,List.length_singleton,List.range_succ,List.find?_append];have h1:(List.range l.length).find? (fun k=>decide (((l++[x]).map aU)[k]?=some m.key))=(List.range l.length).find? (fun k=>decide ((l.map aU)[k]?=some m.key)):=by
  have wQ:∀n,n≤l.length→(List.range n).find? (fun k=>decide (((l++[x]).map aU)[k]?=some m.key))=(List.range n).find? (fun k=>decide ((l.map aU)[k]?=some m.key)):=by
   intro n;induction n with
   |zero=>intro _;rfl
   |succ n ih=>
    intro hn;rw[List.range_succ,List.find?_append,List.find?_append,ih (by omega)];have:((l++[x]).map aU)[n]?=(l.map aU)[n]?:=by rw[List.map_append,List.getElem?_append_left (by simp;omega)]
    simp only[List.find?_cons,this,List.find?_nil]
  exact wQ _ (Nat.le_refl _)
 have h2:[l.length].find? (fun k=>decide (((l++[x]).map aU)[k]?=some m.key))=none:=by simp[hx]
 rw[h1,h2,Option.or_none]
variable{a:fC}
theorem HW{N':ag}(hs:N'.stops=N.stops)(hr:N'.ae=N.ae)(ht:uk N'.runs a=uk N.runs a)(hg:∀i,uk N.runs a=some i→N'.runs[i]?=N.runs[i]?)(hl:a.kind=5→N'.runs.length=N.runs.length):CA N' a=CA N a:=by
 unfold CA;by_cases k5:a.kind=5
 ·rw[if_pos k5,if_pos k5,ht,hs,hr,hl k5]
 ·rw[if_neg k5,if_neg k5,ht,hs];cases h:uk N.runs a with
  |none=>rfl
  |some i=>dsimp only;rw[hg i h]
theorem Ee{b:fC}(hk:a.key≠b.key)(h5:¬(a.kind=5∧b.kind=5)):CA (PB N b (CA N b)).1 a=CA N a:=by
 cases he:CA N b with
 |err e=>rfl
 |Yz=>rfl
 |add=>have hb:=FJ he;have ha:a.kind≠5:=fun h=>h5 ⟨h,hb⟩;refine HW rfl rfl (Vj (x:=yP b) fun h=>hk h.symm) (fun i hi=>?_) (fun h=>absurd h ha);obtain⟨br,_⟩:=lH hi;show(N.runs++[yP b])[i]?=_;rw[List.getElem?_append_left br]
 |Ga j x c=>obtain⟨_,ht,r,hr,hx⟩:=AD he;refine HW rfl rfl (PA a (Vh hr hx)) (fun i hi=>?_) (fun _=>by show(N.runs.set j x).length=_;rw[List.length_set]);show(N.runs.set j x)[i]?=_;refine Yy fun Gy=>?_;subst Gy;obtain⟨h1,e1,_⟩:=lH hi;obtain⟨h2,e2,_⟩:=lH ht;exact hk (e1.symm.trans e2)
theorem SV{b:fC}(hk:a.key≠b.key)(h5:¬(a.kind=5∧b.kind=5)):(PB (PB N a (CA N a)).1 b (CA N b)).1=(PB (PB N b (CA N b)).1 a (CA N a)).1:=by
 cases ha:CA N a with
 |err e=>rfl
 |Yz=>rfl
 |add=>
  cases hb:CA N b with
  |err e=>rfl
  |Yz=>rfl
  |add=>exact absurd ⟨FJ ha,FJ hb⟩ h5
  |Ga j x c=>obtain⟨_,ht,_⟩:=AD hb;obtain⟨hj,_⟩:=lH ht;simp only[PB];rw[List.set_append_left _ _ hj]
 |Ga i x c=>
  obtain⟨_,hta,_⟩:=AD ha;obtain⟨hi,ei,_⟩:=lH hta;cases hb:CA N b with
  |err e=>rfl
  |Yz=>rfl
  |add=>simp only[PB];rw[List.set_append_left _ _ hi]
  |Ga j y d=>
   obtain⟨_,htb,_⟩:=AD hb;obtain⟨hj,ej,_⟩:=lH htb;have Gy:i≠j:=fun h=>by subst h;exact hk (ei.symm.trans ej)
   simp only[PB];rw[List.set_comm _ _ Gy];congr 1;cases c<;>cases d<;>simp only[Bool.false_eq_true,if_false,if_true];rw[List.filter_filter,List.filter_filter];congr 1;funext l;exact Bool.and_comm _ _
theorem sy(N:ag)(m:fC):pq N m=(if eC m=0 then(PB N m (CA N m)).1 else N)∧CW N m=(if eC m=0 then(PB N m (CA N m)).2 else eC m):=by
 unfold pq CW;rw[Vi];by_cases h:eC m=0
 ·simp only[if_pos h,and_true];cases CA N m with
  |err e=>show(if e=0 then N else N)=N;by_cases he:e=0<;>simp[he]
  |Yz=>rfl
  |add=>rfl
  |Ga i x c=>rfl
 ·simp only[if_neg h,and_self]
theorem Vk(N N':ag)(m:fC)(e:Eff):(PB N m e).2=(PB N' m e).2:=by cases e<;>rfl
theorem HX{b:fC}(hk:a.key≠b.key)(h5:¬(a.kind=5∧b.kind=5)):CW (pq N b) a=CW N a∧pq (pq N a) b=pq (pq N b) a:=by
 have jn:b.key≠a.key:=fun h=>hk h.symm;have h5':¬(b.kind=5∧a.kind=5):=fun h=>h5 ⟨h.2,h.1⟩;have ea:=Ee (N:=N) hk h5;have eb:=Ee (N:=N) jn h5';constructor
 ·rw[(sy (pq N b) a).2,(sy N a).2];by_cases ha:eC a=0
  ·rw[if_pos ha,if_pos ha,(sy N b).1];by_cases hb:eC b=0
   ·rw[if_pos hb,ea];exact Vk _ _ _ _
   ·rw[if_neg hb]
  ·rw[if_neg ha,if_neg ha]
 ·rw[(sy (pq N a) b).1,(sy (pq N b) a).1,(sy N a).1,(sy N b).1];by_cases ha:eC a=0
  ·by_cases hb:eC b=0
   ·rw[if_pos ha,if_pos hb,if_pos hb,if_pos ha,ea,eb];exact SV hk h5
   ·rw[if_pos ha,if_neg hb,if_neg hb,if_pos ha]
  ·by_cases hb:eC b=0
   ·simp only[if_neg ha,if_pos hb]
   ·simp only[if_neg ha,if_neg hb]
theorem SX(N:ag)(a b:fC):HP N [] [a,b]=(pq (pq N a) b,[CW N a,CW (pq N a) b]):=rfl
theorem FK(N:ag)(a b:fC)(h:N.Ok)(hma:a.Ok)(hmb:b.Ok):dF [N.pv,a.pv,b.pv]=some (.bool true):=by
 simp only[dF,ic,pD,rn,rq,rr,ru,ry,rz,rA,rB,rC,U,yA,SS N h];simp only[Fm,Fo,Fq,Fs,Ft,Fu,Fv,Fx,Fy,Fz,FA,xy,xz,D6,U,asInt,bt,ab,if_true,asBool,Va,bn,dw,Li,SR,eW];by_cases hc:(!Cz N|| !SU a|| !SU b||(decide (a.kind=5)&&decide (b.kind=5))||(decide (a.dp=b.dp)&&decide (a.day=b.day)&&decide (a.inst=b.inst)))=true
 ·rw[if_pos hc]
 ·rw[if_neg hc];simp only[Bool.or_eq_true,not_or,Bool.not_eq_true',Bool.not_eq_false,Bool.and_eq_true,decide_eq_true_eq]at hc;obtain⟨⟨⟨⟨hs,hla⟩,hlb⟩,h5⟩,hk⟩:=hc;obtain⟨hr,_,hv,hl⟩:=Pz hs;have hL:=hl h;have VT:=NJ hla;have M9:=NJ hlb;have nE:a.key≠b.key:=fun e=>hk (by simp only[fC.key,Prod.mk.injEq]at e;exact⟨⟨e.1,e.2.1⟩,e.2.2⟩);have TB:∀m∈[a,b],m.Ok:=by intro m hm;simp only[List.mem_cons,List.not_mem_nil,or_false]at hm;rcases hm with rfl|rfl<;>assumption
  have cG:∀m∈[b,a],m.Ok:=by intro m hm;simp only[List.mem_cons,List.not_mem_nil,or_false]at hm;rcases hm with rfl|rfl<;>assumption
  have Tw:∀m∈[a,b],m.calls.length≤1000:=by intro m hm;simp only[List.mem_cons,List.not_mem_nil,or_false]at hm;rcases hm with rfl|rfl<;>omega
  have A3:∀m∈[b,a],m.calls.length≤1000:=by intro m hm;simp only[List.mem_cons,List.not_mem_nil,or_false]at hm;rcases hm with rfl|rfl<;>omega
  have p1:=HU N [a,b] hL hv (by simp) (by omega) TB Tw;have p2:=HU N [b,a] hL hv (by simp) (by omega) cG A3;have hX:=(HV [a,b] N [] hL hv (by simp only[List.length_cons,List.length_nil];omega) TB).1;obtain⟨c1,c2⟩:=HX (N:=N) nE h5;obtain⟨c3,_⟩:=HX (N:=N) (a:=b) (b:=a) (fun e=>nE e.symm) (fun e=>h5 ⟨e.2,e.1⟩);rw[SX]at p1 p2 hX;rw[c1,←c2]at p2;rw[c3]at p1;simp only[List.map_cons,List.map_nil]at p1 p2;rw[p1,p2];generalize pq (pq N a) b=X at hX⊢;unfold NG;have q0:∀e f:Int,aZ [PV.int .i64 e,.int .i64 f] 0=some (.int .i64 e):=fun _ _=>rfl;have q1:∀e f:Int,aZ [PV.int .i64 e,.int .i64 f] 1=some (.int .i64 f):=fun _ _=>rfl;have q2:∀e:Int,cell (PV.int .i64 e) 0=.int .i64 e:=fun _=>rfl;simp only[U,bW,List.length_cons,List.length_nil,Nat.reduceAdd,List.getD_cons_zero,List.getD_cons_succ,if_true,pD,ab,List.map_cons,List.map_nil,q0,q1,q2,asInt,acw,Lj (ND X) (ND X) hX.ok,R1,asBool,beq_self_eq_true,decide_true,Bool.true_and,cond_true,Bool.and_self,Bool.true_or];rfl
end Go.Ab.Tt
