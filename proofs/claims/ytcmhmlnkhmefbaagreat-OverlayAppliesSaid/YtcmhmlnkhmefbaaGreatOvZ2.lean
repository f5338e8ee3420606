import Derived.Test.YtcmhmlnkhmefbaaGreatOvZ1
import Derived.Test.YtcmhmlnkhmefbaaGreatSh3
import Derived.Test.YtcmhmlnkhmefbaaGreatNkP2
namespace Go.Ab.Tt
set_option maxRecDepth 100000
set_option linter.unusedVariables false
set_option linter.unusedSimpArgs false
def C9(ms:List PV)(len k:Int)(N:ag)(er:List PV):=(ms,(0:Int),len,k,(0:Int),(0:Int),(0:Int),N.aQ,N.within,N.cap,er,N.stops.map Stop.pv,N.af.map ax.pv,N.runs.map bp.mS,N.ah.map aD.pv,N.paths.map Path.pv,N.aw.map aS.pv,())
def EP(ms:List PV)(len kk:Int)(er:List PV)(N:ag)(i c:Nat)(a:Int)(k:Nat)(out:List PV):=((i:Int),(c:Int),a,((N.runs[i]?).elim 0 fun r=>(r.calls.length:Int)),(k:Int),(i:Int),ms,(0:Int),len,kk,N.runs.map bp.mS,out,N.aQ,N.within,N.cap,(0:Int),(0:Int),(0:Int),er,N.stops.map Stop.pv,N.af.map ax.pv,N.ah.map aD.pv,N.paths.map Path.pv,N.aw.map aS.pv,())
theorem OL(er:List PV)(h:er.length≤1000)(x:PV):(er++[x]).length*8≤aa∧0<8:=by
 have:1001*8≤aa:=by decide
 refine⟨?_,by decide⟩;rw[List.length_append,List.length_singleton];omega
theorem ZL(ms:List PV)(len:Int)(kk:Nat)(yS:kk<1000)(er:List PV)(ZM:er.length≤1000)(cV:_→Option PV)(N:ag)(h:Io N)(i c:Nat)(hi:i<N.runs.length)(hc:c<N.runs[i].calls.length)(ho:nV N.runs[i].calls=true)(a:Int)(h0:0≤a)(h1:a≤8000000000):bK.run (fE bK cV) (EP ms len kk er N i c a 0 (N.runs[i].calls.map an.pv))=match fb (N.runs[i].calls.drop c) a with|some r=>cV (C9 ms len (kk+1:Nat) (Ga N i (N.runs[i].calls.take c++r)) (er++[.int .i64 0]))|none=>cV (C9 ms len (kk+1:Nat) N (er++[.int .i64 10])):=by
 have hlen:=h.calls N.runs[i] (List.getElem_mem hi);have Xz:1003<rounds:=by decide
 have il:=kS ho;have QX:=OL er ZM;have hrT:∀x,((er++[x]).length*8≤aa∧0<8)=True:=fun x=>eq_true (QX x);have XB:IntKind.i64.wrap ((kk:Int)+1)=((kk+1:Nat):Int):=al (by omega);refine(C7 (EP ms len kk er N i c) N.runs[i].calls c (cV (C9 ms len (kk+1:Nat) N (er++[.int .i64 10]))) (fun out=>cV (ms,0,len,((kk+1:Nat):Int),0,0,0,N.aQ,N.within,N.cap,er++[.int .i64 0],N.stops.map Stop.pv,N.af.map ax.pv,(N.runs.map bp.mS).set i (.agg [.int .i64 N.runs[i].cX,.int .i64 N.runs[i].day,.int .i64 N.runs[i].inst,.str N.runs[i].id,.int .i64 N.runs[i].bd,.bool N.runs[i].free,.bool N.runs[i].q9,.cK 5 out]),N.ah.map aD.pv,N.paths.map Path.pv,N.aw.map aS.pv,())) (fun k a out rec hk jA=>?_) (fun k a pre rec hk jA hp Q3 Xv=>?_) (fun a out rec=>?_) il (se ho) hc (by omega) a h0 h1).trans ?_
 ·unfold EP fE;dsimp only;rw[List.getElem?_eq_getElem hi,Option.elim_some,if_pos (by rw[decide_eq_true_eq];omega),if_pos (by rw[decide_eq_true_eq];omega),al (by omega),Int.toNat_natCast]
 ·obtain⟨d0,d1⟩:=pU (il k jA);obtain⟨s0,s1,s2⟩:=il k jA;have hlm:=ig;have hol:=Ik pre N.runs[i].calls k hp (by omega);have Yq:∀x,((outs pre N.runs[i].calls k).set k x).length=N.runs[i].calls.length:=fun x=>by rw[List.length_set,hol]
  unfold EP fE;dsimp only;rw[List.getElem?_eq_getElem hi,Option.elim_some,if_pos (by rw[decide_eq_true_eq];omega),if_neg (by rw[decide_eq_true_eq];omega)];simp only[Int.toNat_natCast,l5 _ _ hi,U,C6,List.length_map,gU k _ jA,if_true,List.getElem?_map,List.getElem?_eq_getElem jA,Option.map_some,hol,Il pre _ k hp jA,kI2,OG,C4 (il k jA),EO,Xw,Xx,Yq,Iq _ _ _ (show k<(outs pre N.runs[i].calls k).length by omega),List.set_set,wrap_small (show-100000000000≤a+fa N.runs[i].calls[k] by omega) (show a+fa N.runs[i].calls[k]≤100000000000 by omega),Xy,OH,al (show k<9223372036854775807 by omega),Im pre _ k hp jA,decide_eq_true_eq,hrT,XB,if_true];have dK:=C5 (il k jA) Q3 Xv;by_cases nX:(late N.runs[i].calls[k] a).dep>gC
  ·rw[if_pos (show(late N.runs[i].calls[k] a).dep>3155932800 by omega),if_pos nX];rfl
  ·rw[if_neg (show¬(late N.runs[i].calls[k] a).dep>3155932800 by omega),if_neg nX];by_cases hn:k+1<N.runs[i].calls.length
   ·obtain⟨n0,n1⟩:=vH (il k jA) (il (k+1) hn) (se ho k hn) Q3 nX;obtain⟨t0,t1,t2⟩:=il (k+1) hn;rw[if_pos (by omega),dif_pos hn,if_pos (gU _ _ hn),List.getElem?_eq_getElem hn];simp only[Option.map_some,U,kI1];rw[wrap_small (x:=N.runs[i].calls[k+1].arr+(late N.runs[i].calls[k] a).dep) (by omega) (by omega),wrap_small (by omega) (by omega)]
   ·rw[if_neg (by omega),dif_neg hn]
 ·unfold EP fE;dsimp only;rw[List.getElem?_eq_getElem hi,Option.elim_some,if_neg (by simp)];simp only[Int.toNat_natCast,l5 _ _ hi,U,TI _ _ hi,if_true,TJ,hrT,XB,if_true]
 ·cases fb (N.runs[i].calls.drop c) a with
  |none=>rfl
  |some r=>simp only[pV,←List.map_set];simp only[Ga,List.getElem?_eq_getElem hi];rfl
def TN(ms:List PV)(len kk:Int)(er:List PV)(N:ag)(i:Nat)(runs:List PV)(j k:Nat)(x:List PV):=((j:Int),(k:Int),ms,(0:Int),len,kk,x,(i:Int),N.aQ,N.within,N.cap,(0:Int),(0:Int),(0:Int),er,N.stops.map Stop.pv,N.af.map ax.pv,runs,N.paths.map Path.pv,N.aw.map aS.pv,())
theorem ZN(ms:List PV)(len:Int)(kk:Nat)(yS:kk<1000)(er:List PV)(ZM:er.length≤1000)(cV:_→Option PV)(N:ag)(h:Io N)(i:Nat)(runs:List PV):bK.run (l6 bK cV) ((N.ah.length:Int),0,ms,0,len,(kk:Int),N.ah.map aD.pv,(i:Int),N.aQ,N.within,N.cap,0,0,0,er,N.stops.map Stop.pv,N.af.map ax.pv,runs,N.paths.map Path.pv,N.aw.map aS.pv,())=cV (ms,0,len,((kk+1:Nat):Int),0,0,0,N.aQ,N.within,N.cap,er++[.int .i64 0],N.stops.map Stop.pv,N.af.map ax.pv,runs,(N.ah.filter (Ir i)).map aD.pv,N.paths.map Path.pv,N.aw.map aS.pv,()):=by
 have hk:=h.ah;have Xz:1003<rounds:=by decide
 have QX:=OL er ZM;have hrT:∀x,((er++[x]).length*8≤aa∧0<8)=True:=fun x=>eq_true (QX x);have XB:IntKind.i64.wrap ((kk:Int)+1)=((kk+1:Nat):Int):=al (by omega);refine TG (fun k=>((N.ah.length:Int),(k:Int),ms,(0:Int),len,(kk:Int),N.ah.map aD.pv,(i:Int),N.aQ,N.within,N.cap,(0:Int),(0:Int),(0:Int),er,N.stops.map Stop.pv,N.af.map ax.pv,runs,N.paths.map Path.pv,N.aw.map aS.pv,())) (TN ms len kk er N i runs) (body3:=l7 bK cV) N.ah (Ir i) (fun x=>cV (ms,0,len,((kk+1:Nat):Int),0,0,0,N.aQ,N.within,N.cap,er++[.int .i64 0],N.stops.map Stop.pv,N.af.map ax.pv,runs,x,N.paths.map Path.pv,N.aw.map aS.pv,())) (fun j k x rec jA hx hj hg=>?_) (fun j x rec hx hj=>?_) (fun k rec jA=>?_) (fun rec=>?_) (by omega)
 ·unfold TN l7;dsimp only;rw[if_pos (by rw[decide_eq_true_eq];omega),if_pos (gU _ _ (by omega)),Int.toNat_natCast,hg];simp only[U,Gb,vJ,asBool,Bool.not_not,al (show k<9223372036854775807 by omega),al (show j<9223372036854775807 by omega),gU j x.length (by omega),if_true,Int.toNat_natCast,List.getElem?_eq_getElem (show j<x.length by omega)]
 ·unfold TN l7;dsimp only;rw[if_neg (by rw[hx];simp)];simp only[Int.toNat_natCast,Int.toNat_zero,Nat.sub_zero,List.drop_zero];rw[if_pos (by exact⟨by omega,by omega,by omega,trivial⟩),if_pos (by exact⟨trivial,trivial,by omega,by omega⟩),if_pos (by refine⟨by omega,by omega,?_,trivial⟩;simp only[List.length_append,List.length_take,List.length_replicate,List.length_drop];omega)];rw[if_pos (QX _),XB,List.take_append_of_le_length (by simp;omega),List.take_take,Nat.min_self]
 ·unfold l6;dsimp only;rw[if_pos (by rw[decide_eq_true_eq];omega),if_pos (gU _ _ (by simpa using jA)),Int.toNat_natCast,List.getElem?_map,List.getElem?_eq_getElem jA];simp only[Option.map_some,U,Gb,vJ,asBool,al (show k<9223372036854775807 by omega),ef];cases hp:Ir i N.ah[k]with
  |true=>simp only[Bool.not_true,Bool.false_eq_true,if_false,if_true]
  |false=>simp only[Bool.not_false,if_true,Bool.false_eq_true,if_false];rw[if_neg (by rw[decide_eq_true_eq];omega)];rfl
 ·unfold l6;dsimp only;rw[if_neg (by simp),if_pos (QX _),XB]
theorem TO(ms:List PV)(len:Int)(kk:Nat)(yS:kk<1000)(er:List PV)(ZM:er.length≤1000)(cV:_→Option PV)(l:List fL)(hl:l.length<1000)(q:PV)(afE:aR ms (kk:Int)=some q)(hlen:len=(l.length:Int))(jA:kk<l.length)(N:ag)(h:Io N)(Xf:∀m∈l,m.Ok)(hv:(dp N).2.2=0)(hmc:∀m∈l,m.calls.length≤1000)(hL:nL q l[kk]):jc bK (C9 ms len kk N er) cV=cV (C9 ms len (kk+1:Nat) (if eX l[kk]=0 then(if(Bc N l[kk]).2=0 then(Bc N l[kk]).1 else N)else N) (er++[.int .i64 (if eX l[kk]=0 then(Bc N l[kk]).2 else eX l[kk])])):=by
 have QX:=OL er ZM;have hrT:∀x,((er++[x]).length*8≤aa∧0<8)=True:=fun x=>eq_true (QX x);have XB:IntKind.i64.wrap ((kk:Int)+1)=((kk+1:Nat):Int):=al (by omega);have hm:=Xf _ (List.getElem_mem jA);have hc:=hmc _ (List.getElem_mem jA);have bu:decide ((kk:Int)<len)=true:=by rw[decide_eq_true_eq];omega
 generalize l[kk]=m at hm hc hL⊢;have hmk:=(It hL.agg).trans (Ig m hm);have hr:=h.runs;have ht:=uY N m (by
  have:1000≤maxLen:=by decide
  omega)
 have W3:PV.agg [cell q 0,cell q 1,cell q 2,cell q 3,cell q 4,cell q 5,cell q 6,cell q 7,cell q 8,cell q 9,cell q 10,cell q 11,cell q 12]=OK q:=rfl;have ht:=(AF (XA N) hL.agg).trans ht;conv=>lhs;unfold C9 jc
 dsimp only;rw[if_pos bu,afE];simp only[U,W3,hmk,asInt,if_true,bne_self_eq_false,Bool.false_eq_true,if_false,gR,vN,ht];simp only[ef,decide_eq_true_eq];by_cases Du:eX m=0;case neg=>rw[if_neg Du,if_neg Du,if_neg Du,if_pos (QX _),XB];rfl
 rw[if_pos Du,if_pos Du,if_pos Du];unfold Bc Ii;simp only[hL.h4,hL.h5,hL.h6,hL.h7,hL.h8,hL.h9,hL.Gy,hL.ZI,hL.ZJ,U];simp only[asInt,bg,ab,asBool,if_true,U,ef,decide_eq_true_eq,hrT,XB,if_true];by_cases k5:m.kind=5
 ·simp only[k5,if_true];cases Is:yA N.runs m with
  |some i=>simp only[bJ,List.length_cons,List.length_nil,Nat.reduceAdd,if_true,U,List.getD_cons_zero,List.getD_cons_succ,asInt,asBool,Option.isSome_some];rfl
  |none=>
   have eR:=oh m.calls N.stops.length 0 3155932800 hm.calls.1;simp only[res]at eR;have ZG:=vI m.calls (by omega);simp only[bJ,List.length_cons,List.length_nil,Nat.reduceAdd,if_true,U,List.getD_cons_zero,List.getD_cons_succ,asInt,asBool,Option.isSome_none,Bool.false_eq_true,if_false,List.length_map,aW,Bool.or_eq_true,decide_eq_true_eq,eR,l0];by_cases la:m.bd<0∨m.bd≥(N.af.length:Int)
   ·rw[if_pos la,if_pos la];rfl
   ·rw[if_neg la,if_neg la];by_cases he:(bj m.calls (N.stops.length:Int) 0 3155932800).2=0
    ·rw[if_pos he,if_neg (show¬((N.runs.length:Int)≥1024) by omega),ZG];simp only[U,ab,if_true,he,ne_eq,not_true,if_false,if_neg (show¬(N.runs.length≥1024) by omega)];rw[if_pos (by
      have:101*80≤aa:=by decide
      rw[List.length_append,List.length_map,List.length_singleton];omega)]
     unfold C9;rw[List.map_append];rfl
    ·rw[if_neg he,if_pos he];simp only[if_neg he];rfl
 ·simp only[if_neg k5];cases Is:yA N.runs m with
  |none=>simp only[bJ,List.length_cons,List.length_nil,Nat.reduceAdd,if_true,U,List.getD_cons_zero,List.getD_cons_succ,asInt,asBool,Bool.not_false];rfl
  |some i=>
   obtain⟨hi,Ay,_⟩:=uV Is;have oV:ae (i:Int) N.runs.length:=⟨by omega,by omega⟩;have ta:=uK hv N.runs[i] (List.getElem_mem hi);simp only[bJ,List.length_cons,List.length_nil,Nat.reduceAdd,if_true,U,List.getD_cons_zero,List.getD_cons_succ,asInt,asBool,Bool.not_true,Bool.false_eq_true,if_false,l5 _ _ hi,List.getElem?_eq_getElem hi,oV,C6,Int.toNat_natCast,List.length_map,aW,cT,Bool.or_eq_true,decide_eq_true_eq];have QY:((decide (m.kind=1)||decide (m.kind=3))&&(decide (m.call<0)||decide (m.call≥(N.runs[i].calls.length:Int))))=decide ((m.kind=1∨m.kind=3)∧(m.call<0∨m.call≥(N.runs[i].calls.length:Int))):=by rw[Bool.eq_iff_iff];simp
   rw[QY];simp only[decide_eq_true_eq];by_cases hn:(m.kind=1∨m.kind=3)∧(m.call<0∨m.call≥(N.runs[i].calls.length:Int))
   ·rw[if_pos hn,if_pos hn];rfl
   rw[if_neg hn,if_neg hn];by_cases k1:m.kind=1
   ·simp only[k1,if_true];have GA:¬(m.call<0∨m.call≥(N.runs[i].calls.length:Int)):=fun hh=>hn ⟨.inl k1,hh⟩;have afD:=not_or.1 GA;unfold prop;rw[if_neg GA,if_neg (show¬(m.call<0∨m.call≥(N.runs[i].calls.length:Int))from GA)];by_cases hs:m.bm< -43200∨m.bm>43200
    ·rw[if_pos hs,if_pos hs];rfl
    rw[if_neg hs,if_neg hs];obtain⟨c,BB⟩:∃c:Nat,m.call=(c:Int):=⟨m.call.toNat,by omega⟩;have tp:c<N.runs[i].calls.length:=by omega
    have hlen:=h.calls N.runs[i] (List.getElem_mem hi);have ho:=yj N.runs[i].calls (by
     have:1000≤maxLen:=by decide
     omega)
    have hrq:OY (cell N.runs[i].mS 7)=some (.rs 5 (N.runs[i].calls.map an.pv)):=rfl;simp only[hrq,U,ho,asBool];cases ZH:nV N.runs[i].calls with
    |false=>rfl
    |true=>
     have df:0≤(N.runs[i].calls.length:Int)∧(N.runs[i].calls.length:Int)≤(N.runs[i].calls.length:Int)∧(N.runs[i].calls.length:Int).toNat*32≤aa∧0<32∧0<5:=by
      have:1000*32≤aa:=by decide
      refine⟨by omega,by omega,?_,by decide,by decide⟩;rw[Int.toNat_natCast];omega
     rw[if_neg (by decide),if_pos (by rw[Int.toNat_natCast]at df;exact df)];simp only[BB,Int.toNat_natCast];obtain⟨a1,a2⟩:=F7 ZH tp (show-43200≤m.bm by omega) (show m.bm≤43200 by omega);have hA:=ZL ms len kk yS er ZM cV N h i c hi tp ZH _ a1 (by omega);have UI:∀z:PV,List.take (List.replicate N.runs[i].calls.length z).length (N.runs[i].calls.map an.pv)++List.drop N.runs[i].calls.length (List.replicate N.runs[i].calls.length z)=N.runs[i].calls.map an.pv:=fun z=>by rw[List.length_replicate,List.take_of_length_le (by simp),List.drop_eq_nil_of_le (by simp),List.append_nil]
     have key:∀A,A=lr N.runs[i].calls c m.bm→bK.run (fE bK cV) ((i:Int),(c:Int),A,(N.runs[i].calls.length:Int),0,(i:Int),ms,0,len,(kk:Int),N.runs.map bp.mS,N.runs[i].calls.map an.pv,N.aQ,N.within,N.cap,0,0,0,er,N.stops.map Stop.pv,N.af.map ax.pv,N.ah.map aD.pv,N.paths.map Path.pv,N.aw.map aS.pv,())=match fb (N.runs[i].calls.drop c) (lr N.runs[i].calls c m.bm)with|some r=>cV (C9 ms len (kk+1:Nat) (Ga N i (N.runs[i].calls.take c++r)) (er++[.int .i64 0]))|none=>cV (C9 ms len (kk+1:Nat) N (er++[.int .i64 10])):=by intro A tu;subst tu;unfold EP at hA;rw[List.getElem?_eq_getElem hi]at hA;exact hA
     have hlm:=ig;obtain⟨s0,s1,s2⟩:=kS ZH c tp;cases c with
     |zero=>rw[if_neg (by decide),if_pos (gU _ _ tp)];simp only[List.getElem?_map,List.getElem?_eq_getElem tp,Option.map_some,U,pz,asInt,if_true,UI];refine(key _ ?_).trans (by split<;>rename_i hx<;>simp only[hx,Ga,List.getElem?_eq_getElem hi]<;>rfl);rw[wrap_small (by omega) (by omega)];unfold lr;rw[List.getElem?_eq_getElem tp];simp only[eS,Option.map_some,Option.map_none,Option.getD_none,Option.getD_some];by_cases hx:N.runs[i].calls[0].arr+m.bm<0<;>simp[hx]
     |succ j=>
      have hj:j<N.runs[i].calls.length:=by omega
      rw[if_pos (by omega),mC j (by omega),if_pos (gU _ _ hj)];simp only[Int.toNat_natCast,List.getElem?_map,List.getElem?_eq_getElem hj,Option.map_some,U,pz,pA,asInt,if_true,UI,gU _ _ tp,List.getElem?_eq_getElem tp];refine(key _ ?_).trans (by split<;>rename_i hx<;>simp only[hx,Ga,List.getElem?_eq_getElem hi]<;>rfl);rw[wrap_small (by omega) (by omega)];unfold lr;rw[List.getElem?_eq_getElem tp];simp only[eS,List.getElem?_eq_getElem hj,Option.map_some,Option.getD_some]
   simp only[if_neg k1];by_cases k2:m.kind=2
   ·simp only[k2,if_true,l5 _ _ hi,U,TK,←List.map_set];rfl
   simp only[if_neg k2];by_cases k3:m.kind=3
   ·simp only[k3,if_true];have GA:=not_or.1 (fun hh=>hn ⟨.inr k3,hh⟩:¬(m.call<0∨m.call≥(N.runs[i].calls.length:Int)));obtain⟨c,BB⟩:∃c:Nat,m.call=(c:Int):=⟨m.call.toNat,by omega⟩;have tp:c<N.runs[i].calls.length:=by omega
    simp only[BB,Int.toNat_natCast,gU c _ tp,if_true,List.getElem?_map,List.getElem?_eq_getElem tp,Option.map_some,U,Mb,←List.map_set,ZF,List.length_set,List.length_map,oV,List.getElem?_set_self hi,C6,List.getElem?_set_self tp,Mc,List.set_set,gR];simp only[AE,List.getElem?_eq_getElem tp];rfl
   simp only[if_neg k3];by_cases k4:m.kind=4
   ·simp only[k4,if_true];have eR:=oh m.calls N.stops.length 0 3155932800 hm.calls.1;simp only[res]at eR;have ZG:=vI m.calls (by omega);simp only[eR,U,bJ,List.length_cons,List.length_nil,Nat.reduceAdd,if_true,List.getD_cons_zero,List.getD_cons_succ,asInt,l0];by_cases he:(bj m.calls (N.stops.length:Int) 0 3155932800).2=0
    ·simp only[he,ZG,U,ab,if_true,ne_eq,not_true,if_false];rw[ZN ms len kk yS er ZM cV N h i,TJ,pV];rw[←List.map_set];rfl
    ·rw[if_neg he,if_pos he];simp only[if_neg he];rfl
   simp only[if_neg k4];rfl
def DB(N:ag)(m:fL):ag:=if eX m=0 then(if(Bc N m).2=0 then(Bc N m).1 else N)else N
def Gc(N:ag)(m:fL):Int:=if eX m=0 then(Bc N m).2 else eX m
def ZO(N:ag)(er:List Int):List fL→ag×List Int
 |[]=>(N,er)
 |m::l=>ZO (DB N m) (er++[Gc N m]) l
theorem ER{N:ag}{m:fL}(h:(dp N).2.2=0):(dp (DB N m)).2.2=0:=by
 unfold DB;by_cases h1:eX m=0
 ·rw[if_pos h1];by_cases h2:(Bc N m).2=0
  ·rw[if_pos h2];exact Ql N m h h1 h2
  ·rw[if_neg h2];exact h
 ·rw[if_neg h1];exact h
end Go.Ab.Tt
namespace Go.Ab.Tt
set_option maxRecDepth 100000
set_option linter.unusedVariables false
set_option linter.unusedSimpArgs false
structure pR(N N':ag)(m:fL):Prop where
 stops:N'.stops=N.stops
 af:N'.af=N.af
 paths:N'.paths=N.paths
 aw:N'.aw=N.aw
 aQ:N'.aQ=N.aQ
 within:N'.within=N.within
 cap:N'.cap=N.cap
 ah:N'.ah.length≤N.ah.length∧∀x∈N'.ah,x∈N.ah
 len:N'.runs.length≤N.runs.length+1
 runs:∀r∈N'.runs,(∃r0∈N.runs,r.cX=r0.cX∧r.inst=r0.inst∧r.id=r0.id∧r.day=r0.day∧r.bd=r0.bd)∨(r.cX= -1∧r.inst=m.inst∧r.id=m.cX∧r.day=m.day∧r.bd=m.bd)
theorem pR.rfl'(N:ag)(m:fL):pR N N m:=⟨rfl,rfl,rfl,rfl,rfl,rfl,rfl,⟨Nat.le_refl _,fun _ h=>h⟩,Nat.le_succ _,fun r h=>.inl ⟨r,h,rfl,rfl,rfl,rfl,rfl⟩⟩
theorem yn{N:ag}{m:fL}{i:Nat}{r x:bp}(hr:N.runs[i]?=some r)(h:x.cX=r.cX∧x.inst=r.inst∧x.id=r.id∧x.day=r.day∧x.bd=r.bd)(ls:List aD)(hl:ls.length≤N.ah.length∧∀y∈ls,y∈N.ah):pR N {N with runs:=N.runs.set i x,ah:=ls} m:=by
 refine⟨rfl,rfl,rfl,rfl,rfl,rfl,rfl,hl,by simp,fun q hq=>.inl ?_⟩;rcases List.mem_or_eq_of_mem_set hq with hq|hq
 ·exact⟨q,hq,rfl,rfl,rfl,rfl,rfl⟩
 ·subst hq;exact⟨r,List.mem_of_getElem? hr,h⟩
theorem TP(N:ag)(m:fL):pR N (Bc N m).1 m:=by
 unfold Bc;by_cases k5:m.kind=5
 ·rw[if_pos k5];split
  ·exact pR.rfl' N m
  ·split
   ·exact pR.rfl' N m
   ·split
    ·exact pR.rfl' N m
    ·split
     ·exact pR.rfl' N m
     ·refine⟨rfl,rfl,rfl,rfl,rfl,rfl,rfl,⟨Nat.le_refl _,fun _ h=>h⟩,by simp,fun r h=>?_⟩;rcases List.mem_append.1 h with h|h
      ·exact .inl ⟨r,h,rfl,rfl,rfl,rfl,rfl⟩
      ·simp only[List.mem_singleton]at h;subst h;exact .inr ⟨rfl,rfl,rfl,rfl,rfl⟩
 ·rw[if_neg k5];cases yA N.runs m with
  |none=>exact pR.rfl' N m
  |some i=>
   dsimp only;cases hr:N.runs[i]? with
   |none=>exact pR.rfl' N m
   |some r=>
    have hls:N.ah.length≤N.ah.length∧∀y∈N.ah,y∈N.ah:=⟨Nat.le_refl _,fun _ h=>h⟩;dsimp only;split
    ·exact pR.rfl' N m
    ·split
     ·cases prop r.calls m.call m.bm with
      |mk o e=>
       cases o with
       |none=>exact pR.rfl' N m
       |some l=>exact yn (x:={r with calls:=l}) hr ⟨rfl,rfl,rfl,rfl,rfl⟩ N.ah hls
     ·split
      ·exact yn (x:={r with q9:=true}) hr ⟨rfl,rfl,rfl,rfl,rfl⟩ N.ah hls
      ·split
       ·exact yn (x:={r with calls:=AE r.calls m.call.toNat}) hr ⟨rfl,rfl,rfl,rfl,rfl⟩ N.ah hls
       ·split
        ·split
         ·exact pR.rfl' N m
         ·exact yn (x:={r with calls:=m.calls}) hr ⟨rfl,rfl,rfl,rfl,rfl⟩ _ ⟨List.length_filter_le _ _,fun y h=>(List.mem_filter.1 h).1⟩
        ·exact pR.rfl' N m
theorem Iu(N:ag)(m:fL):pR N (DB N m) m:=by
 unfold DB;split
 ·split
  ·exact TP N m
  ·exact pR.rfl' N m
 ·exact pR.rfl' N m
theorem Gd{x:Int}(h1: -9223372036854775808≤x)(h2:x≤9223372036854775807):j9 x:=by show(decide ((-9223372036854775808:Int)≤x)&&decide (x≤(9223372036854775807:Int)))=true;simp[h1,h2]
theorem Iv{l:List an}{n:Int}(h:(bj l n 0 3155932800).2=0)(hn:n≤100000):l.length≤32∧∀y∈l,y.Ok:=by obtain⟨h1,h2⟩:=uM h;refine⟨h2,fun y hy=>?_⟩;obtain⟨k,hk,rfl⟩:=List.mem_iff_getElem.1 hy;have he:=Av h k hk;unfold lG at he;rw[List.getElem?_eq_getElem hk]at he;have ho:∃p,kR l[k] p n 0 3155932800=0:=⟨_,he⟩;obtain⟨p,ho⟩:=ho;obtain⟨a1,a2,a3,_⟩:=pO ho;obtain⟨b1,b2,_⟩:=sU ho;exact⟨Gd (by omega) (by omega),Gd (by omega) (by omega),Gd (by omega) (by omega)⟩
theorem Iw{N N':ag}{m:fL}(h:Io N)(hs:pR N N' m)(hv:(dp N').2.2=0)(hm:m.Ok)(hl:N.runs.length<100):Io N':=by
 have SE:1000≤maxLen:=by decide
 have hcv:=uK hv;have tw:=zg ((nj N').1 hv).1;refine⟨⟨?_,?_,?_,?_,?_,?_,?_,?_,?_⟩,?_,?_,?_,?_,?_,?_,?_⟩
 ·rw[hs.stops];exact h.ok.stops
 ·rw[hs.af];exact h.ok.af
 ·refine⟨by have:=hs.len;omega,fun r hr=>?_⟩;obtain⟨c1,c2⟩:=Iv (hcv r hr) (by omega);rcases hs.runs r hr with⟨r0,h0,e1,e2,e3,e4,e5⟩|⟨e1,e2,e3,e4,e5⟩
  ·have g:=h.ok.runs.2 r0 h0;exact⟨by rw[e1];exact g.cX,by rw[e4];exact g.day,by rw[e2];exact g.inst,by rw[e3];exact g.id,by rw[e5];exact g.bd,by omega,c2⟩
  ·exact⟨by rw[e1];exact Gd (by omega) (by omega),by rw[e4];exact hm.day,by rw[e2];exact hm.inst,by rw[e3];exact hm.cX,by rw[e5];exact hm.bd,by omega,c2⟩
 ·exact⟨Nat.le_trans hs.ah.1 h.ok.ah.1,fun x hx=>h.ok.ah.2 x (hs.ah.2 x hx)⟩
 ·rw[hs.paths];exact h.ok.paths
 ·rw[hs.aw];exact h.ok.aw
 ·rw[hs.aQ];exact h.ok.aQ
 ·rw[hs.within];exact h.ok.within
 ·rw[hs.cap];exact h.ok.cap
 ·rw[hs.stops];exact h.stops
 ·rw[hs.af];exact h.af
 ·have:=hs.len;omega
 ·exact Nat.le_trans hs.ah.1 h.ah
 ·rw[hs.paths];exact h.paths
 ·rw[hs.aw];exact h.aw
 ·intro r hr;have:=(Iv (hcv r hr) (by omega)).1;omega
def XC(x:ag×List Int):PV:=.aZ [x.1.pv,.rs 1 (x.2.map fun e=>.int .i64 e)]
theorem TQ(ms:List PV)(l:List fL)(SE:∀k,(hk:k<l.length)→∃q,ms[k]?=some q∧nL q l[k])(hl:l.length≤50)(Xf:∀m∈l,m.Ok)(hmc:∀m∈l,m.calls.length≤1000):∀(j k:Nat)(N:ag)(er:List Int)(fu:Nat),k+j=l.length→j<fu→Io N→(dp N).2.2=0→N.runs.length+j<100→er.length≤k→cj (jc bK) fu (C9 ms (l.length:Int) k N (er.map fun e=>.int .i64 e))=some (XC (ZO N er (l.drop k))):=by
 intro j;induction j with
 |zero=>
  intro k N er fu hk hf hN hv hr he;obtain⟨fu,rfl⟩:∃f,fu=f+1:=⟨fu-1,by omega⟩;have:k=l.length:=by omega
  subst this;rw[cj,List.drop_length];unfold C9 jc;dsimp only;rw[if_neg (by simp),gR];rfl
 |succ j ih=>
  intro k N er fu hk hf hN hv hr he;obtain⟨fu,rfl⟩:∃f,fu=f+1:=⟨fu-1,by omega⟩;have jA:k<l.length:=by omega
  obtain⟨q,hq1,WO⟩:=SE k jA;rw[cj,TO _ _ k (by omega) _ (by simp;omega) _ l (by omega) q (by rw[aq];exact hq1) rfl jA N hN Xf hv hmc WO];have hs:=Iu N l[k];have JH:=ER (m:=l[k]) hv;have hlen:=hs.len;have:=ih (k+1) (DB N l[k]) (er++[Gc N l[k]]) fu (by omega) (by omega) (Iw hN hs JH (Xf _ (List.getElem_mem jA)) (by omega)) JH (by omega) (by simp;omega);rw[List.map_append]at this;rw[List.drop_eq_getElem_cons jA];exact this
theorem TR(p:PV)(ms:List PV)(N:ag)(l:List fL)(hp:wm p N)(BH:ms.length=l.length)(SE:∀k,(hk:k<l.length)→∃q,ms[k]?=some q∧nL q l[k])(h:Io N)(hv:(dp N).2.2=0)(hl:l.length≤50)(hr:N.runs.length≤40)(Xf:∀m∈l,m.Ok)(hmc:∀m∈l,m.calls.length≤1000):fj [p,.rs 13 ms]=some (XC (ZO N [] l)):=by
 have Xz:1003<rounds:=by decide
 have AN:=CN N h.ok (by have:=h.paths;omega);have f1:=CO (N.stops.map Stop.pv) (by simpa using h.stops);have f2:=Aw (N.af.map ax.pv) (by simpa using h.af);have f3:=Ev (N.runs.map bp.pv) (by simp;omega);have f4:=CP (N.ah.map aD.pv) (by simpa using h.ah);have f5:=uO (N.paths.map Path.pv) (by simpa using h.paths);have f6:=wj (N.aw.map aS.pv) (by simpa using h.aw);have key:=TQ ms l SE hl Xf hmc l.length 0 N [] rounds (by omega) (by omega) h hv (by omega) (by simp);simp only[fj,ux,hp.hA,hp.h0,hp.h1,hp.h2,hp.h3,hp.h4,hp.h5,hp.h6,hp.h7,hp.h8,U];simp only[ab,if_true,U,f1,f2,f3,f4,f5,List.length_map];refine br (fun k=>((N.runs.length:Int),(k:Int),ms,N.stops.map Stop.pv,N.af.map ax.pv,N.runs.map bp.pv,N.ah.map aD.pv,N.paths.map Path.pv,N.aw.map aS.pv,N.aQ,N.within,N.cap,(0:Int),(0:Int),(0:Int),N.aw.map aS.pv,N.aQ,N.within,N.cap,N.stops.map Stop.pv,N.af.map ax.pv,N.runs.map bp.pv,N.ah.map aD.pv,N.paths.map Path.pv,N.aw.map aS.pv,N.aQ,N.within,N.cap,(0:Int),(0:Int),(0:Int),N.stops.map Stop.pv,N.af.map ax.pv,mix bp.mS bp.pv N.runs k,N.ah.map aD.pv,N.paths.map Path.pv,())) N.runs.length (fun k hk rec=>?_) (fun rec=>?_) (by omega) (by rw[HX];rfl)
 ·have fc:=CQ (N.runs[k].calls.map an.pv) (by simpa using h.calls _ (List.getElem_mem hk));unfold pW;dsimp only;rw[if_pos (by rw[decide_eq_true_eq];omega),if_pos (FT _ _ _ _ hk),Int.toNat_natCast,Oj _ _ _ _ hk];simp only[U,AV,fc,ab,if_true,FT _ _ _ _ hk,OJ,al (show k<9223372036854775807 by omega)];have:=Ol bp.mS bp.pv N.runs k hk;rw[←this];rfl
 ·unfold pW;dsimp only;rw[if_neg (by simp),f6];simp only[U,ab,if_true,vN,AN];simp only[gb,bJ,List.length_cons,List.length_nil,Nat.reduceAdd,if_true,List.getD_cons_zero,List.getD_cons_succ,asInt,U,hv,FQ,List.length_map,BH];rw[j4];exact key
end Go.Ab.Tt
namespace Go.Ab.Tt
set_option maxRecDepth 100000
set_option linter.unusedVariables false
set_option linter.unusedSimpArgs false
theorem Ix{m:fL}(h:eX m=0)(hk:m.kind=1∨m.kind=3):0≤m.call:=by
 unfold eX at h;by_cases h1:wi m.source 0 7=false
 ·rw[if_pos h1]at h;cases h
 rw[if_neg h1]at h;by_cases h2:m.seq<1
 ·rw[if_pos h2]at h;cases h
 rw[if_neg h2]at h;by_cases h3:(!wi m.eW 0 3155932800|| !wi m.dt 0 3155932800||decide (m.eW≥m.dt))=true
 ·rw[if_pos h3]at h;cases h
 rw[if_neg h3]at h;by_cases h4:wi m.kind 1 6=false
 ·rw[if_pos h4]at h;cases h
 rw[if_neg h4]at h;by_cases h5:dR m.cX=false
 ·rw[if_pos h5]at h;cases h
 rw[if_neg h5]at h;by_cases h6:wi m.day 0 36524=false
 ·rw[if_pos h6]at h;cases h
 rw[if_neg h6]at h;by_cases h7:m.inst<0
 ·rw[if_pos h7]at h;cases h
 rw[if_neg h7]at h;have hu:(decide (m.kind=1)||decide (m.kind=3))=true:=by rcases hk with hk|hk<;>simp[hk]
 simp only[hu,Bool.true_and]at h;by_cases h8:wi m.call 0 31=true
 ·simp only[wi,Bool.and_eq_true,decide_eq_true_eq]at h8;omega
 ·have:wi m.call 0 31=false:=by simpa using h8
  simp only[this,Bool.not_false,Bool.true_or,if_true]at h;cases h
theorem Iy(l:List bp)(hl:l.length≤1000)(hc:∀r∈l,r.calls.length≤1000):gT [.rs 8 (l.map bp.pv)]=some (.rs 8 (l.map bp.pv)):=by
 have Xz:1003<rounds:=by decide
 have QV:1000*32≤aa:=by decide
 have oL:1001*80≤aa:=by decide
 simp only[gT,wO,ab,if_true,U];refine br (fun k=>(l.map bp.pv,(k:Int),(l.take k).map bp.pv,())) l.length (fun k hk rec=>?_) (fun rec=>?_) (by omega) rfl
 ·unfold rq;dsimp only;have AN:=hc _ (List.getElem_mem hk);rw[List.length_map,if_pos (by rw[decide_eq_true_eq];omega),aq,List.getElem?_map,List.getElem?_eq_getElem hk];simp only[Option.map_some,U,AV,ab,if_true];rw[if_pos (by refine⟨?_,by decide⟩;simp only[List.nil_append,List.length_map];omega),if_pos (by refine⟨?_,by decide⟩;simp only[List.length_append,List.length_map,List.length_take,List.length_singleton];omega),al (by omega),List.take_succ_eq_append_getElem hk,List.map_append];rfl
 ·unfold rq;dsimp only;rw[List.length_map,if_neg (by simp),List.take_length]
theorem ES{l:List bp}{m:fL}{i:Nat}(h:yA l m=some i):L9 l m=i:=by unfold L9;rw[h]
theorem ET{l:List bp}{m:fL}(h:yA l m=none):L9 l m= -1:=by unfold L9;rw[h]
theorem Qs(N:ag)(m:fL)(h:Io N)(hm:m.Ok)(hc:m.calls.length≤1000)(k5:m.kind=5):jV [N.pv,m.pv]=some (Q4 N m):=by
 have hr:=h.runs;have ht:=C3 N m (by
  have:1000≤maxLen:=by decide
  omega)
 have eR:=y8 m.calls N.stops.length 0 3155932800 hm.calls.1;have V3:=Iy N.runs (by omega) h.calls;have NT:=Iy [CY m] (by simp) (by intro r hr;simp only[List.mem_singleton]at hr;subst hr;exact hc);have e2:List.map bp.pv [CY m]=[.agg [.int .i64 (-1),.int .i64 m.day,.int .i64 m.inst,.str m.cX,.int .i64 m.bd,.bool m.free,.bool false,.rs 5 (m.calls.map an.pv)]]:=rfl;rw[e2]at NT;simp only[jV,uB,nS,pC,pD,pE,pF,pG,pH,pI,pJ,pK,U];simp only[zo,zp,zq,zr,zs,zt,zu,zw,zx,zy,zz,rZ,sc,wk,U,asInt,bg,ab,if_true,asBool,List.length_map,vN,Qm,ht,eR,V3,NT,aW,Bool.or_eq_true,decide_eq_true_eq,l0];unfold Q4 Bc;rw[if_pos k5];cases Is:yA N.runs m with
 |some i=>rw[ES Is,if_pos (by omega)];simp only[Option.isSome_some,if_true];rfl
 |none=>
  rw[ET Is,if_neg (by omega)];simp only[Option.isSome_none,Bool.false_eq_true,if_false];by_cases la:m.bd<0∨m.bd≥(N.af.length:Int)
  ·rw[if_pos la,if_pos la];rfl
  ·rw[if_neg la,if_neg la];by_cases he:(bj m.calls (N.stops.length:Int) 0 3155932800).2=0
   ·rw[if_pos he,if_neg (show¬((N.runs.length:Int)≥1024) by omega),if_pos (by
     have:101*80≤aa:=by decide
     refine⟨?_,by decide⟩;rw[List.length_append,List.length_map,List.length_singleton];omega)]
    simp only[he,ne_eq,not_true,if_false,if_neg (show¬(N.runs.length≥1024) by omega),if_true,←e2,←List.map_append];rfl
   ·rw[if_neg he,if_pos he,if_neg he];rfl
theorem afF(x:bp)(l:List an):PV.agg (cell x.mS 0::cell x.mS 1::cell x.mS 2::cell x.mS 3::cell x.mS 4::cell x.mS 5::cell x.mS 6::.rs 5 (l.map an.pv)::over [] [])=({x with calls:=l}:bp).pv:=rfl
theorem Me(l:List bp)(i:Nat)(x:bp):((l.map bp.mS).set i x.pv).map PV.strip=(l.set i x).map bp.pv:=by have h1:=ot l i x;rw[List.map_set]at h1⊢;rw[←h1];rfl
theorem Mf(l:List an)(n s:Int):(∃r,prop l n s=(some r,0))∨∃e,prop l n s=(none,e)∧e≠0:=by
 unfold prop;by_cases h1:n<0∨n≥(l.length:Int)
 ·rw[if_pos h1];exact .inr ⟨1,rfl,by decide⟩
 rw[if_neg h1];by_cases h2:s< -43200∨s>43200
 ·rw[if_pos h2];exact .inr ⟨2,rfl,by decide⟩
 rw[if_neg h2];by_cases h3:nV l=false
 ·rw[if_pos h3];exact .inr ⟨10,rfl,by decide⟩
 rw[if_neg h3];cases fb (l.drop n.toNat) (lr l n.toNat s)with
 |some r=>exact .inl ⟨_,rfl⟩
 |none=>exact .inr ⟨10,rfl,by decide⟩
def Wg(N:ag)(m:fL)(i k:Nat):=(N.runs.map bp.pv,(k:Int),(i:Int),(N.runs.take k).map bp.mS,N.stops.map Stop.pv,N.af.map ax.pv,N.runs.map bp.pv,N.ah.map aD.pv,N.paths.map Path.pv,N.aw.map aS.pv,N.aQ,N.within,N.cap,m.source,m.seq,m.eW,m.dt,m.kind,m.cX,m.day,m.inst,m.call,m.bm,m.bd,m.free,m.calls.map an.pv,(0:Int),(0:Int),(0:Int),N.stops.map Stop.pv,N.af.map ax.pv,N.runs.map bp.pv,N.ah.map aD.pv,N.paths.map Path.pv,N.aw.map aS.pv,N.aQ,N.within,N.cap,())
theorem Wh(N:ag)(m:fL)(h:Io N)(hm:m.Ok)(Du:eX m=0)(hc:m.calls.length≤1000)(k5:m.kind≠5){i:Nat}(Is:yA N.runs m=some i)(rec:_→Option PV):l8 bK (Wg N m i N.runs.length) rec=some (Q4 N m):=by
 have hr:=h.runs;obtain⟨hi,_,_⟩:=uV Is;have oV:ae (i:Int) N.runs.length:=⟨by omega,by omega⟩;have hlen:=h.calls N.runs[i] (List.getElem_mem hi);unfold Wg l8;dsimp only;rw[List.length_map,if_neg (by simp),List.take_length];unfold Q4 Bc;rw[if_neg k5,Is];simp only[ef,aq,List.getElem?_map,List.getElem?_eq_getElem hi,Option.map_some,U,AV,ab,if_true,aW,cT,List.length_map,Int.toNat_natCast,decide_eq_true_eq,oV];by_cases k1:m.kind=1
 ·have eR:=Ix Du (.inl k1);simp only[k1,decide_true,Bool.true_or,Bool.true_and,decide_eq_true_eq,true_or,true_and,if_true,reduceCtorEq,Int.reduceEq,if_false,decide_false,Bool.or_false];by_cases GA:m.call≥(N.runs[i].calls.length:Int)
  ·rw[if_pos GA,if_pos (show m.call<0∨m.call≥(N.runs[i].calls.length:Int)from .inr GA)];rfl
  ·rw[if_neg GA,if_neg (show¬(m.call<0∨m.call≥(N.runs[i].calls.length:Int)) by omega)];rw[TF _ _ _ hlen];unfold TE;simp only[U,bJ,List.length_cons,List.length_nil,Nat.reduceAdd,if_true,List.getD_cons_zero,List.getD_cons_succ,asInt,l0];rcases Mf N.runs[i].calls m.call m.bm with⟨l,hp⟩|⟨e,hp,he⟩
   ·rw[hp];simp only[if_true,Option.getD_some,afF,Me];rfl
   ·rw[hp];simp only[if_neg he];rfl
 ·have QY:((decide (m.kind=1)||decide (m.kind=3))&&decide (m.call≥(N.runs[i].calls.length:Int)))=decide ((m.kind=1∨m.kind=3)∧(m.call<0∨m.call≥(N.runs[i].calls.length:Int))):=by
   rw[Bool.eq_iff_iff];simp only[Bool.and_eq_true,Bool.or_eq_true,decide_eq_true_eq];constructor
   ·rintro⟨a,b⟩;exact⟨a,.inr b⟩
   ·rintro⟨a,b⟩;exact⟨a,by have:=Ix Du a;omega⟩
  rw[QY];simp only[decide_eq_true_eq];by_cases hn:(m.kind=1∨m.kind=3)∧(m.call<0∨m.call≥(N.runs[i].calls.length:Int))
  ·rw[if_pos hn,if_pos hn];rfl
  rw[if_neg hn,if_neg hn];simp only[if_neg k1];by_cases k2:m.kind=2
  ·simp only[k2,if_true,l5 _ _ hi,U,TK,ot,Int.reduceEq,if_false];rfl
  simp only[if_neg k2];by_cases k3:m.kind=3
  ·simp only[k3,if_true,Int.reduceEq,if_false];have GA:=not_or.1 (fun hh=>hn ⟨.inr k3,hh⟩:¬(m.call<0∨m.call≥(N.runs[i].calls.length:Int)));obtain⟨c,BB⟩:∃c:Nat,m.call=(c:Int):=⟨m.call.toNat,by omega⟩;have tp:c<N.runs[i].calls.length:=by omega
   simp only[BB,l5 _ _ hi,U,C6,List.length_map,Int.toNat_natCast,gU c _ tp,if_true,List.getElem?_map,List.getElem?_eq_getElem tp,Option.map_some,Mb,←List.map_set,ZF,List.length_set,oV,List.getElem?_set_self hi,List.getElem?_set_self tp,Mc,List.set_set,gR];simp only[AE,List.getElem?_eq_getElem tp];rfl
  simp only[if_neg k3];by_cases k4:m.kind=4
  ·simp only[k4,if_true];have eR:=y8 m.calls N.stops.length 0 3155932800 hm.calls.1;simp only[eR,U,asInt,if_true,l0];by_cases he:(bj m.calls (N.stops.length:Int) 0 3155932800).2=0
   ·have df:(([]:List PV)++m.calls.map an.pv).length*32≤aa∧0<32:=by
     have:1000*32≤aa:=by decide
     refine⟨?_,by decide⟩;rw[List.nil_append,List.length_map];omega
    have hu:=F9 N.ah i (by have:=h.ah;omega);rw[if_pos he,if_pos df];simp only[he,l5 _ _ hi,U,hu,ab,if_true,ne_eq,not_true,if_false,List.nil_append,TJ,pV,ot];rfl
   ·rw[if_neg he,if_pos he,if_neg he];rfl
  simp only[if_neg k4,if_true,gR];rfl
theorem Qt(N:ag)(m:fL)(h:Io N)(hm:m.Ok)(hc:m.calls.length≤1000):jW [N.pv,m.pv]=some (sf N m):=by
 have hr:=h.runs;have Xz:1003<rounds:=by decide
 have hvd:=Ip N h.ok (by have:=h.paths;omega);have hmk:=Wd m hm;have ht:=C3 N m (by
  have:1000≤maxLen:=by decide
  omega)
 simp only[jW,uq,nS,pC,pD,pE,pF,pG,pH,pI,pJ,pK,U,vN,hvd];simp only[asBool,U,zo,zp,zq,zr,zs,zt,zu,zw,zx,zy,zz,rZ,sc,wk,asInt,bg,ab,if_true,Qm,hmk,l0,ht,vN,ef,decide_eq_true_eq];unfold sf;by_cases hv:(dp N).2.2=0
 ·rw[if_neg (by simp[hv]),if_pos hv];by_cases he:eX m=0
  ·rw[if_pos he,if_pos he];by_cases k5:m.kind=5
   ·have ha:=Qs N m h hm hc k5;rw[if_pos k5,ha];unfold Q4;by_cases hx:(Bc N m).2=0
    ·rw[if_pos hx];rfl
    ·rw[if_neg hx];rfl
   ·rw[if_neg k5];cases Is:yA N.runs m with
    |none=>rw[ET Is,if_pos (by omega)];unfold Q4 Bc;rw[if_neg k5,Is];rfl
    |some i=>
     obtain⟨hi,_,_⟩:=uV Is;rw[ES Is,if_neg (by omega)];refine br (Wg N m i) N.runs.length (fun k hk rec=>?_) (fun rec=>Wh N m h hm he hc k5 Is rec) (by omega) rfl;have QV:1000*32≤aa:=by decide
     have oL:101*80≤aa:=by decide
     have AN:=h.calls _ (List.getElem_mem hk);unfold Wg l8;dsimp only;rw[List.length_map,if_pos (by rw[decide_eq_true_eq];omega),aq,List.getElem?_map,List.getElem?_eq_getElem hk];simp only[Option.map_some,U,AV,ab,if_true];rw[if_pos (by refine⟨?_,by decide⟩;simp only[List.nil_append,List.length_map];omega),if_pos (by simp only[List.length_append,List.length_map,List.length_take,List.length_singleton];omega),al (by omega),List.take_succ_eq_append_getElem hk,List.map_append];rfl
  ·rw[if_neg he,if_neg he];rfl
 ·rw[if_pos (by simp[hv]),if_neg hv];rfl
end Go.Ab.Tt
namespace Go.Ab.Tt
set_option maxRecDepth 100000
set_option linter.unusedVariables false
set_option linter.unusedSimpArgs false
theorem Iz{N:ag}{m:fL}(hv:(dp N).2.2=0):sf N m=if Gc N m=0 then .aZ [(DB N m).pv,.int .i64 0]else .aZ [z9,.int .i64 (Gc N m)]:=by
 unfold sf Gc DB Q4;rw[if_pos hv];by_cases h1:eX m=0
 ·rw[if_pos h1,if_pos h1,if_pos h1];by_cases h2:(Bc N m).2=0
  ·rw[if_pos h2,if_pos h2,if_pos h2]
  ·rw[if_neg h2,if_neg h2]
 ·rw[if_neg h1,if_neg h1,if_neg h1]
def Ge(A B:ag)(k:Nat):Bool:=decide (A.runs[k]?≠B.runs[k]?)
def Gf(A B:ag)(n:Nat):List Nat:=(List.range n).filter (Ge A B)
theorem Qu(A B:ag)(k:Nat):Gf A B (k+1)=if Ge A B k=true then Gf A B k++[k]else Gf A B k:=by unfold Gf;rw[List.range_succ,List.filter_append];by_cases h:Ge A B k=true<;>simp[h]
theorem TS(A B:ag)(k:Nat):(Gf A B k).length≤k:=by unfold Gf;exact Nat.le_trans (List.length_filter_le _ _) (by simp)
def TT(k:Nat):PV:=.int .i64 k
def mx(A B:ag):Nat:=max A.runs.length B.runs.length
theorem Qv(x y:bp)(hx:x.calls.length≤maxLen):fy [x.pv,y.pv]=some (.bool (decide (x=y))):=by have hc:=qf x.calls y.calls hx;simp only[fy,sN,afi,VO,Ly,Lz,LA,VP,Zj,Zk,AV,U];simp only[asInt,bg,asBool,ab,if_true,U,hc,cT,aW,ef,jw,Oh];generalize decide (x.cX=y.cX)=a1;generalize decide (x.day=y.day)=a2;generalize decide (x.inst=y.inst)=a3;generalize decide (x.id=y.id)=a4;generalize decide (x.bd=y.bd)=a5;generalize decide (x.q9=y.q9)=a7;generalize decide (x.calls=y.calls)=a8;generalize decide (x.free=y.free)=a6;cases a1<;>cases a2<;>cases a3<;>cases a4<;>rfl
theorem Gg(A B:ag)(hA:A.runs.length≤1000∧∀x∈A.runs,x.calls.length≤maxLen)(hB:B.runs.length≤1000):bW [A.pv,B.pv]=some (.rs 1 ((Gf A B (mx A B)).map TT)):=by
 have Xz:1003<rounds:=by decide
 simp only[bW,j7,nS,pC,pD,pE,pF,pG,pH,pI,pJ,pK,U,List.length_map];refine br (fun k=>(((mx A B:Nat):Int),(k:Int),A.stops.map Stop.pv,A.af.map ax.pv,A.runs.map bp.pv,A.ah.map aD.pv,A.paths.map Path.pv,A.aw.map aS.pv,A.aQ,A.within,A.cap,B.stops.map Stop.pv,B.af.map ax.pv,B.runs.map bp.pv,B.ah.map aD.pv,B.paths.map Path.pv,B.aw.map aS.pv,B.aQ,B.within,B.cap,(Gf A B k).map TT,())) (mx A B) (fun k hk rec=>?_) (fun rec=>?_) (by unfold mx;omega) ?_
 ·have hl:=TS A B k;have hm:k<1000:=by unfold mx at hk;omega
  have df:((Gf A B k).map TT++[PV.int .i64 (k:Int)]).length*8≤aa∧0<8:=OL _ (by simp;omega) _;have cQ:∀x:bp,PV.agg [cell x.pv 0,cell x.pv 1,cell x.pv 2,cell x.pv 3,cell x.pv 4,cell x.pv 5,cell x.pv 6,cell x.pv 7]=x.pv:=aa3;unfold kJ;dsimp only;rw[if_pos (by rw[decide_eq_true_eq];omega)];simp only[List.length_map,aW,aq,List.getElem?_map,al (show k<9223372036854775807 by omega),Qu];by_cases ha:k<A.runs.length
  ·by_cases hb:k<B.runs.length
   ·have hs:=Qv A.runs[k] B.runs[k] (hA.2 _ (List.getElem_mem ha));rw[show(decide ((k:Int)≥(A.runs.length:Int))||decide ((k:Int)≥(B.runs.length:Int)))=false by rw[decide_eq_false (by omega),decide_eq_false (by omega)];rfl];simp only[U,cond_false,List.getElem?_eq_getElem ha,List.getElem?_eq_getElem hb,Option.map_some,aa3,hs,asBool];have hd:Ge A B k= !decide (A.runs[k]=B.runs[k]):=by unfold Ge;rw[List.getElem?_eq_getElem ha,List.getElem?_eq_getElem hb];simp
    rw[hd];by_cases he:A.runs[k]=B.runs[k]
    ·simp[he]
    ·simp only[he,decide_false,Bool.not_false,if_true,if_pos df,List.map_append];rfl
   ·have hd:Ge A B k=true:=by unfold Ge;rw[List.getElem?_eq_getElem ha,List.getElem?_eq_none (by omega)];simp
    rw[show(decide ((k:Int)≥(A.runs.length:Int))||decide ((k:Int)≥(B.runs.length:Int)))=true by rw[decide_eq_true (show(k:Int)≥(B.runs.length:Int) by omega)];simp,hd];simp only[U,cond_true,if_true,if_pos df,List.map_append];rfl
  ·have hd:Ge A B k=true:=by
    unfold Ge;have hb:k<B.runs.length:=by unfold mx at hk;omega
    rw[List.getElem?_eq_getElem hb,List.getElem?_eq_none (by omega)];simp
   rw[show(decide ((k:Int)≥(A.runs.length:Int))||decide ((k:Int)≥(B.runs.length:Int)))=true by rw[decide_eq_true (show(k:Int)≥(A.runs.length:Int) by omega)];simp,hd];simp only[U,cond_true,if_true,if_pos df,List.map_append];rfl
 ·unfold kJ;dsimp only;rw[if_neg (by simp)]
 ·have:(if(B.runs.length:Int)>(A.runs.length:Int)then(B.runs.length:Int)else(A.runs.length:Int))=((mx A B:Nat):Int):=by unfold mx;split<;>omega
  rw[this];rfl
end Go.Ab.Tt
namespace Go.Ab.Tt
set_option maxRecDepth 100000
set_option linter.unusedVariables false
set_option linter.unusedSimpArgs false
def DC:List an:=[⟨0,100,100,true,false⟩,⟨1,200,200,false,true⟩]
def XD(r:List bp):ag:=⟨[⟨[65],0,false,0⟩,⟨[66],0,false,0⟩],[⟨[82],0,false⟩],r,[],[],[],0,0,0⟩
def EU:ag:=XD [⟨0,0,0,[116,48],0,false,false,DC⟩]
def qg(kind:Int)(cX:Bytes)(inst call bm:Int)(calls:List an):fL:=⟨0,1,0,10,kind,cX,0,inst,call,bm,0,false,calls⟩
def fe:PV:=.agg [.rs 4 [.agg [.str [65],.int .i64 0,.bool false,.int .i64 0],.agg [.str [66],.int .i64 0,.bool false,.int .i64 0]],.rs 3 [.agg [.str [82],.int .i64 0,.bool false]],.rs 8 [.agg [.int .i64 0,.int .i64 0,.int .i64 0,.str [116,48],.int .i64 0,.bool false,.bool false,.rs 5 (DC.map an.pv)]],.rs 0 [],.rs 0 [],.rs 0 [],.int .i64 0,.int .i64 0,.int .i64 0]
def aI(kind:Int)(cX:Bytes):PV:=.agg [.int .i64 0,.int .i64 1,.int .i64 0,.int .i64 10,.int .i64 kind,.str cX,.int .i64 0,.int .i64 0,.int .i64 0,.int .i64 0,.int .i64 0,.bool false,.rs 0 []]
theorem ZP:fK []=some fe:=rfl
theorem Wi(k:Int)(t:Bytes):iq [.int .i64 k,.str t]=some (aI k t):=rfl
theorem Mg:fZ []=some (.rs 5 (DC.map an.pv)):=rfl
theorem acM:asAgg 9 fe=some ():=rfl
theorem ZQ(k:Int)(t:Bytes):asAgg 13 (aI k t)=some ():=rfl
theorem OM:wm (.agg [cell fe 0,cell fe 1,cell fe 2,cell fe 3,cell fe 4,cell fe 5,cell fe 6,cell fe 7,cell fe 8]) EU:=⟨rfl,rfl,rfl,rfl,rfl,rfl,rfl,rfl,rfl,rfl⟩
theorem TU:EU.Ok:=by
 have h1:100≤maxLen:=by decide
 refine⟨⟨by show 2≤maxLen;omega,?_⟩,⟨by show 1≤maxLen;omega,?_⟩,⟨by show 1≤maxLen;omega,?_⟩,⟨by show 0≤maxLen;omega,fun _ h=>by cases h⟩,⟨by show 0≤maxLen;omega,fun _ h=>by cases h⟩,⟨by show 0≤maxLen;omega,fun _ h=>by cases h⟩,by decide,by decide,by decide⟩
 ·intro y hy;simp only[EU,XD,List.mem_cons,List.not_mem_nil,or_false]at hy;rcases hy with rfl|rfl
  ·exact⟨by show 1≤maxLen;omega,by decide,by decide⟩
  ·exact⟨by show 1≤maxLen;omega,by decide,by decide⟩
 ·intro y hy;simp only[EU,XD,List.mem_cons,List.not_mem_nil,or_false]at hy;subst hy;exact⟨by show 1≤maxLen;omega,by decide⟩
 ·intro y hy;simp only[EU,XD,List.mem_cons,List.not_mem_nil,or_false]at hy;subst hy;refine⟨by decide,by decide,by decide,by show 2≤maxLen;omega,by decide,by show 2≤maxLen;omega,fun z hz=>?_⟩;simp only[DC,List.mem_cons,List.not_mem_nil,or_false]at hz;rcases hz with rfl|rfl<;>exact⟨by decide,by decide,by decide⟩
theorem zB:(dp EU).2.2=0:=by decide+kernel
theorem ON:Io EU:=by refine⟨TU,by decide,by decide,by decide,by decide,by decide,by decide,fun r hr=>?_⟩;simp only[EU,XD,List.mem_cons,List.not_mem_nil,or_false]at hr;subst hr;exact(by decide:2≤1000)
theorem vK(k:Int)(t:Bytes)(i c s:Int)(l:List an)(hk:j9 k)(ht:t.length≤100)(hi:j9 i)(hc:j9 c)(hs:j9 s)(hl:l=[]∨l=DC):(qg k t i c s l).Ok∧(qg k t i c s l).calls.length≤1000:=by
 have h1:100≤maxLen:=by decide
 have hl2:l.length≤2∧∀y∈l,y.Ok:=by
  rcases hl with rfl|rfl
  ·exact⟨by decide,fun _ h=>by cases h⟩
  ·refine⟨by decide,fun z hz=>?_⟩;simp only[DC,List.mem_cons,List.not_mem_nil,or_false]at hz;rcases hz with rfl|rfl<;>exact⟨by decide,by decide,by decide⟩
 refine⟨⟨by show j9 0;decide,by show j9 1;decide,by show j9 0;decide,by show j9 10;decide,hk,by show t.length≤maxLen;omega,by show j9 0;decide,hi,hc,hs,by show j9 0;decide,⟨by show l.length≤maxLen;omega,hl2.2⟩⟩,by show l.length≤1000;omega⟩
theorem Gh{p:PV}{A B:ag}(hp:wm p A):bW [p,B.pv]=bW [A.pv,B.pv]:=by simp only[bW,j7,hp.hA,hp.h0,hp.h1,hp.h2,hp.h3,hp.h4,hp.h5,hp.h6,hp.h7,hp.h8,nS,pC,pD,pE,pF,pG,pH,pI,pJ,pK,U]
theorem sg{q:PV}{m:fL}(hq:nL q m)(hm:m.Ok∧m.calls.length≤1000){v:PV}(h:sf EU m=v):bf [.agg [cell fe 0,cell fe 1,cell fe 2,cell fe 3,cell fe 4,cell fe 5,cell fe 6,cell fe 7,cell fe 8],q]=some v:=(Md OM hq).trans ((C8 EU m ON hm.1 hm.2).trans (by rw[h]))
def exL:ag:=XD [⟨0,0,0,[116,48],0,false,false,[⟨0,160,160,true,false⟩,⟨1,260,260,false,true⟩]⟩]
def Qw:ag:=XD [⟨0,0,0,[116,48],0,false,true,DC⟩]
def exD:ag:=XD [⟨0,0,0,[116,48],0,false,false,DC⟩,⟨-1,0,0,[120],0,false,false,DC⟩]
theorem TV{m:fL}{N:ag}(h1:eX m=0)(h2:Bc EU m=(N,0)):sf EU m=.aZ [N.pv,.int .i64 0]:=by unfold sf Q4;rw[if_pos zB,if_pos h1,h2];rfl
theorem TW{m:fL}{N:ag}{e:Int}(h1:eX m=0)(h2:Bc EU m=(N,e))(he:e≠0):sf EU m=.aZ [z9,.int .i64 e]:=by unfold sf Q4;rw[if_pos zB,if_pos h1,h2,if_neg he]
theorem acN:nL (.agg [cell (aI 1 [116,48]) 0,cell (aI 1 [116,48]) 1,cell (aI 1 [116,48]) 2,cell (aI 1 [116,48]) 3,cell (aI 1 [116,48]) 4,cell (aI 1 [116,48]) 5,cell (aI 1 [116,48]) 6,cell (aI 1 [116,48]) 7,cell (aI 1 [116,48]) 8,.int .i64 60,cell (aI 1 [116,48]) 10,cell (aI 1 [116,48]) 11,cell (aI 1 [116,48]) 12]) (qg 1 [116,48] 0 0 60 []):=⟨rfl,rfl,rfl,rfl,rfl,rfl,rfl,rfl,rfl,rfl,rfl,rfl,rfl,rfl⟩
theorem acO:(qg 1 [116,48] 0 0 60 []).Ok∧(qg 1 [116,48] 0 0 60 []).calls.length≤1000:=vK _ _ _ _ _ _ (by decide) (by decide) (by decide) (by decide) (by decide) (.inl rfl)
theorem acP:bf [.agg [cell fe 0,cell fe 1,cell fe 2,cell fe 3,cell fe 4,cell fe 5,cell fe 6,cell fe 7,cell fe 8],.agg [cell (aI 1 [116,48]) 0,cell (aI 1 [116,48]) 1,cell (aI 1 [116,48]) 2,cell (aI 1 [116,48]) 3,cell (aI 1 [116,48]) 4,cell (aI 1 [116,48]) 5,cell (aI 1 [116,48]) 6,cell (aI 1 [116,48]) 7,cell (aI 1 [116,48]) 8,.int .i64 60,cell (aI 1 [116,48]) 10,cell (aI 1 [116,48]) 11,cell (aI 1 [116,48]) 12]]=some (.aZ [exL.pv,.int .i64 0]):=sg acN acO (TV (by decide+kernel) (by kernel_rfl))
theorem TX:nL (.agg [cell (aI 2 [116,48]) 0,cell (aI 2 [116,48]) 1,cell (aI 2 [116,48]) 2,cell (aI 2 [116,48]) 3,cell (aI 2 [116,48]) 4,cell (aI 2 [116,48]) 5,cell (aI 2 [116,48]) 6,cell (aI 2 [116,48]) 7,cell (aI 2 [116,48]) 8,cell (aI 2 [116,48]) 9,cell (aI 2 [116,48]) 10,cell (aI 2 [116,48]) 11,cell (aI 2 [116,48]) 12]) (qg 2 [116,48] 0 0 0 []):=⟨rfl,rfl,rfl,rfl,rfl,rfl,rfl,rfl,rfl,rfl,rfl,rfl,rfl,rfl⟩
theorem TY:(qg 2 [116,48] 0 0 0 []).Ok∧(qg 2 [116,48] 0 0 0 []).calls.length≤1000:=vK _ _ _ _ _ _ (by decide) (by decide) (by decide) (by decide) (by decide) (.inl rfl)
theorem acQ:bf [.agg [cell fe 0,cell fe 1,cell fe 2,cell fe 3,cell fe 4,cell fe 5,cell fe 6,cell fe 7,cell fe 8],.agg [cell (aI 2 [116,48]) 0,cell (aI 2 [116,48]) 1,cell (aI 2 [116,48]) 2,cell (aI 2 [116,48]) 3,cell (aI 2 [116,48]) 4,cell (aI 2 [116,48]) 5,cell (aI 2 [116,48]) 6,cell (aI 2 [116,48]) 7,cell (aI 2 [116,48]) 8,cell (aI 2 [116,48]) 9,cell (aI 2 [116,48]) 10,cell (aI 2 [116,48]) 11,cell (aI 2 [116,48]) 12]]=some (.aZ [Qw.pv,.int .i64 0]):=sg TX TY (TV (by decide+kernel) (by kernel_rfl))
theorem acR:nL (.agg [cell (aI 1 [116,48]) 0,cell (aI 1 [116,48]) 1,cell (aI 1 [116,48]) 2,cell (aI 1 [116,48]) 3,cell (aI 1 [116,48]) 4,cell (aI 1 [116,48]) 5,cell (aI 1 [116,48]) 6,.int .i64 1,cell (aI 1 [116,48]) 8,cell (aI 1 [116,48]) 9,cell (aI 1 [116,48]) 10,cell (aI 1 [116,48]) 11,cell (aI 1 [116,48]) 12]) (qg 1 [116,48] 1 0 0 []):=⟨rfl,rfl,rfl,rfl,rfl,rfl,rfl,rfl,rfl,rfl,rfl,rfl,rfl,rfl⟩
theorem acS:(qg 1 [116,48] 1 0 0 []).Ok∧(qg 1 [116,48] 1 0 0 []).calls.length≤1000:=vK _ _ _ _ _ _ (by decide) (by decide) (by decide) (by decide) (by decide) (.inl rfl)
theorem acT:bf [.agg [cell fe 0,cell fe 1,cell fe 2,cell fe 3,cell fe 4,cell fe 5,cell fe 6,cell fe 7,cell fe 8],.agg [cell (aI 1 [116,48]) 0,cell (aI 1 [116,48]) 1,cell (aI 1 [116,48]) 2,cell (aI 1 [116,48]) 3,cell (aI 1 [116,48]) 4,cell (aI 1 [116,48]) 5,cell (aI 1 [116,48]) 6,.int .i64 1,cell (aI 1 [116,48]) 8,cell (aI 1 [116,48]) 9,cell (aI 1 [116,48]) 10,cell (aI 1 [116,48]) 11,cell (aI 1 [116,48]) 12]]=some (.aZ [z9,.int .i64 16]):=sg acR acS (TW (N:=EU) (by decide+kernel) (by kernel_rfl) (by decide))
theorem acU:nL (.agg [cell (aI 1 [116,48]) 0,cell (aI 1 [116,48]) 1,cell (aI 1 [116,48]) 2,cell (aI 1 [116,48]) 3,cell (aI 1 [116,48]) 4,cell (aI 1 [116,48]) 5,cell (aI 1 [116,48]) 6,.int .i64 0,.int .i64 2,cell (aI 1 [116,48]) 9,cell (aI 1 [116,48]) 10,cell (aI 1 [116,48]) 11,cell (aI 1 [116,48]) 12]) (qg 1 [116,48] 0 2 0 []):=⟨rfl,rfl,rfl,rfl,rfl,rfl,rfl,rfl,rfl,rfl,rfl,rfl,rfl,rfl⟩
theorem acV:(qg 1 [116,48] 0 2 0 []).Ok∧(qg 1 [116,48] 0 2 0 []).calls.length≤1000:=vK _ _ _ _ _ _ (by decide) (by decide) (by decide) (by decide) (by decide) (.inl rfl)
theorem acW:bf [.agg [cell fe 0,cell fe 1,cell fe 2,cell fe 3,cell fe 4,cell fe 5,cell fe 6,cell fe 7,cell fe 8],.agg [cell (aI 1 [116,48]) 0,cell (aI 1 [116,48]) 1,cell (aI 1 [116,48]) 2,cell (aI 1 [116,48]) 3,cell (aI 1 [116,48]) 4,cell (aI 1 [116,48]) 5,cell (aI 1 [116,48]) 6,.int .i64 0,.int .i64 2,cell (aI 1 [116,48]) 9,cell (aI 1 [116,48]) 10,cell (aI 1 [116,48]) 11,cell (aI 1 [116,48]) 12]]=some (.aZ [z9,.int .i64 9]):=sg acU acV (TW (N:=EU) (by decide+kernel) (by kernel_rfl) (by decide))
theorem acX:nL (.agg [cell (aI 5 [120]) 0,cell (aI 5 [120]) 1,cell (aI 5 [120]) 2,cell (aI 5 [120]) 3,cell (aI 5 [120]) 4,cell (aI 5 [120]) 5,cell (aI 5 [120]) 6,cell (aI 5 [120]) 7,cell (aI 5 [120]) 8,cell (aI 5 [120]) 9,cell (aI 5 [120]) 10,cell (aI 5 [120]) 11,.rs 5 (DC.map an.pv)]) (qg 5 [120] 0 0 0 DC):=⟨rfl,rfl,rfl,rfl,rfl,rfl,rfl,rfl,rfl,rfl,rfl,rfl,rfl,rfl⟩
theorem acY:(qg 5 [120] 0 0 0 DC).Ok∧(qg 5 [120] 0 0 0 DC).calls.length≤1000:=vK _ _ _ _ _ _ (by decide) (by decide) (by decide) (by decide) (by decide) (.inr rfl)
theorem acZ:bf [.agg [cell fe 0,cell fe 1,cell fe 2,cell fe 3,cell fe 4,cell fe 5,cell fe 6,cell fe 7,cell fe 8],.agg [cell (aI 5 [120]) 0,cell (aI 5 [120]) 1,cell (aI 5 [120]) 2,cell (aI 5 [120]) 3,cell (aI 5 [120]) 4,cell (aI 5 [120]) 5,cell (aI 5 [120]) 6,cell (aI 5 [120]) 7,cell (aI 5 [120]) 8,cell (aI 5 [120]) 9,cell (aI 5 [120]) 10,cell (aI 5 [120]) 11,.rs 5 (DC.map an.pv)]]=some (.aZ [exD.pv,.int .i64 0]):=sg acX acY (TV (by decide+kernel) (by kernel_rfl))
theorem XE:nL (.agg [cell (aI 5 [120]) 0,cell (aI 5 [120]) 1,cell (aI 5 [120]) 2,cell (aI 5 [120]) 3,cell (aI 5 [120]) 4,.str [116,48],cell (aI 5 [120]) 6,cell (aI 5 [120]) 7,cell (aI 5 [120]) 8,cell (aI 5 [120]) 9,cell (aI 5 [120]) 10,cell (aI 5 [120]) 11,.rs 5 (DC.map an.pv)]) (qg 5 [116,48] 0 0 0 DC):=⟨rfl,rfl,rfl,rfl,rfl,rfl,rfl,rfl,rfl,rfl,rfl,rfl,rfl,rfl⟩
theorem TZ:(qg 5 [116,48] 0 0 0 DC).Ok∧(qg 5 [116,48] 0 0 0 DC).calls.length≤1000:=vK _ _ _ _ _ _ (by decide) (by decide) (by decide) (by decide) (by decide) (.inr rfl)
theorem ac0:bf [.agg [cell fe 0,cell fe 1,cell fe 2,cell fe 3,cell fe 4,cell fe 5,cell fe 6,cell fe 7,cell fe 8],.agg [cell (aI 5 [120]) 0,cell (aI 5 [120]) 1,cell (aI 5 [120]) 2,cell (aI 5 [120]) 3,cell (aI 5 [120]) 4,.str [116,48],cell (aI 5 [120]) 6,cell (aI 5 [120]) 7,cell (aI 5 [120]) 8,cell (aI 5 [120]) 9,cell (aI 5 [120]) 10,cell (aI 5 [120]) 11,.rs 5 (DC.map an.pv)]]=some (.aZ [z9,.int .i64 6]):=sg XE TZ (TW (N:=EU) (by decide+kernel) (by kernel_rfl) (by decide))
theorem Mh:bW [.agg [cell fe 0,cell fe 1,cell fe 2,cell fe 3,cell fe 4,cell fe 5,cell fe 6,cell fe 7,cell fe 8],.agg [cell Qw.pv 0,cell Qw.pv 1,cell Qw.pv 2,cell Qw.pv 3,cell Qw.pv 4,cell Qw.pv 5,cell Qw.pv 6,cell Qw.pv 7,cell Qw.pv 8]]=some (.rs 1 [.int .i64 0]):=by refine(Gh (B:=Qw) OM).trans ((Gg EU Qw ⟨by decide,fun x hx=>TU.runs.2 x hx|>.calls.1⟩ (by decide)).trans ?_);kernel_rfl
theorem Qx:bI [.agg [cell fe 0,cell fe 1,cell fe 2,cell fe 3,cell fe 4,cell fe 5,cell fe 6,cell fe 7,cell fe 8],.agg [cell (aI 2 [116,48]) 0,cell (aI 2 [116,48]) 1,cell (aI 2 [116,48]) 2,cell (aI 2 [116,48]) 3,cell (aI 2 [116,48]) 4,cell (aI 2 [116,48]) 5,cell (aI 2 [116,48]) 6,cell (aI 2 [116,48]) 7,cell (aI 2 [116,48]) 8,cell (aI 2 [116,48]) 9,cell (aI 2 [116,48]) 10,cell (aI 2 [116,48]) 11,cell (aI 2 [116,48]) 12]]=some (.aZ [.int .i64 0,.bool true]):=(AF OM TX).trans ((uY EU _ (by decide)).trans (by kernel_rfl))
theorem ZR:fj [.agg [cell fe 0,cell fe 1,cell fe 2,cell fe 3,cell fe 4,cell fe 5,cell fe 6,cell fe 7,cell fe 8],.rs 13 [.agg [cell (aI 5 [120]) 0,cell (aI 5 [120]) 1,cell (aI 5 [120]) 2,cell (aI 5 [120]) 3,cell (aI 5 [120]) 4,.str [116,48],cell (aI 5 [120]) 6,cell (aI 5 [120]) 7,cell (aI 5 [120]) 8,cell (aI 5 [120]) 9,cell (aI 5 [120]) 10,cell (aI 5 [120]) 11,.rs 5 (DC.map an.pv)],.agg [cell (aI 2 [116,48]) 0,cell (aI 2 [116,48]) 1,cell (aI 2 [116,48]) 2,cell (aI 2 [116,48]) 3,cell (aI 2 [116,48]) 4,cell (aI 2 [116,48]) 5,cell (aI 2 [116,48]) 6,cell (aI 2 [116,48]) 7,cell (aI 2 [116,48]) 8,cell (aI 2 [116,48]) 9,cell (aI 2 [116,48]) 10,cell (aI 2 [116,48]) 11,cell (aI 2 [116,48]) 12]]]=some (.aZ [Qw.pv,.rs 1 [.int .i64 6,.int .i64 0]]):=by
 refine(TR _ _ EU [qg 5 [116,48] 0 0 0 DC,qg 2 [116,48] 0 0 0 []] OM rfl (fun k hk=>?_) ON zB (by decide) (by decide) ?_ ?_).trans ?_
 ·match k,hk with
  |0,_=>exact⟨_,rfl,XE⟩
  |1,_=>exact⟨_,rfl,TX⟩
 ·intro m hm;simp only[List.mem_cons,List.not_mem_nil,or_false]at hm;rcases hm with rfl|rfl
  ·exact TZ.1
  ·exact TY.1
 ·intro m hm;simp only[List.mem_cons,List.not_mem_nil,or_false]at hm;rcases hm with rfl|rfl
  ·exact TZ.2
  ·exact TY.2
 ·kernel_rfl
theorem afG:asAgg 9 z9=some ():=rfl
theorem T2:dD []=some (.bool true):=by simp only[dD,kv,iX,ZP,Wi,Mg,acM,ZQ,U,ab,if_true,acP,acQ,acT,acW,acZ,ac0,bJ,List.length_cons,List.length_nil,Nat.reduceAdd,List.getD_cons_zero,List.getD_cons_succ,asInt,nS,afG,Qx,ZR,Mh];kernel_rfl
end Go.Ab.Tt
namespace Go.Ab.Tt
set_option maxRecDepth 100000
set_option linter.unusedVariables false
set_option linter.unusedSimpArgs false
theorem Mi{l:List ax}(h:(fB l).2=0):l.length≤64:=by
 unfold fB at h;by_cases tw:l.length>64
 ·rw[if_pos tw]at h;cases h
 ·omega
theorem Qy{l:List aS}{a b c:Int}(h:(dF l a b c).2=0):l.length≤16:=by
 unfold dF at h;split at h
 ·cases h
 ·by_cases h16:l.length>16
  ·rw[if_pos h16]at h;cases h
  ·omega
def Da(N:ag):Bool:= !(decide ((N.stops.length:Int)>5)||decide ((N.runs.length:Int)>7)||decide ((N.ah.length:Int)>30)||decide ((N.paths.length:Int)>60))&&(!((List.range N.runs.length).any fun k=>(N.runs[k]?).elim false fun r=>decide ((r.calls.length:Int)>6))&&decide ((dp N).2.2=0))
theorem T3(N:ag)(h:N.Ok):jR [N.pv]=some (.bool (Da N)):=by
 have hm:=aT;have hr:=h.runs.1;simp only[jR,uz,nS,pC,pD,pE,pF,pG,pH,pI,pJ,pK,U,aW,List.length_map];unfold Da;by_cases hc:(decide ((N.stops.length:Int)>5)||decide ((N.runs.length:Int)>7)||decide ((N.ah.length:Int)>30)||decide ((N.paths.length:Int)>60))=true
 ·rw[if_pos hc,hc];rfl
 ·rw[if_neg hc];have QR:(decide ((N.stops.length:Int)>5)||decide ((N.runs.length:Int)>7)||decide ((N.ah.length:Int)>30)||decide ((N.paths.length:Int)>60))=false:=by simpa using hc
  rw[QR,Bool.not_false,Bool.true_and];refine(px (fun k=>((k:Int),N.stops.map Stop.pv,N.af.map ax.pv,N.runs.map bp.pv,N.ah.map aD.pv,N.paths.map Path.pv,N.aw.map aS.pv,N.aQ,N.within,N.cap,())) N.runs.length (fun k=>(N.runs[k]?).elim false fun r=>decide ((r.calls.length:Int)>6)) (no:=some (.bool false)) (fin:=some (.bool (decide ((dp N).2.2=0)))) (fun k hk rec=>?_) (fun rec=>?_) (by have:=aP;omega) rfl).trans ?_
  ·unfold pX;dsimp only;rw[List.length_map,if_pos (by rw[decide_eq_true_eq];omega),aq,List.getElem?_map,List.getElem?_eq_getElem hk];simp only[Option.map_some,U,AV,ab,if_true,List.length_map,al (show k<9223372036854775807 by omega),Option.elim];rfl
  ·unfold pX;dsimp only;rw[List.length_map,if_neg (by simp)];have hp:N.paths.length≤4096:=by simp only[Bool.or_eq_false_iff,decide_eq_false_iff_not]at QR;omega
   simp only[vN,Ip N h hp,U,asBool]
  ·cases((List.range N.runs.length).any fun k=>(N.runs[k]?).elim false fun r=>decide ((r.calls.length:Int)>6))<;>rfl
theorem Qz{N:ag}(h:Da N=true):N.runs.length≤7∧N.paths.length≤60∧(dp N).2.2=0∧(N.Ok→Io N):=by
 unfold Da at h;simp only[Bool.and_eq_true,Bool.not_eq_true',Bool.or_eq_false_iff,decide_eq_false_iff_not,decide_eq_true_eq]at h;obtain⟨⟨⟨⟨h1,h2⟩,h3⟩,h4⟩,h7,hv⟩:=h;have ta:∀r∈N.runs,r.calls.length≤6:=fun r hr=>by obtain⟨k,hk,rfl⟩:=List.getElem_of_mem hr;rw[List.any_eq_false]at h7;have:=h7 k (by simpa using hk);rw[List.getElem?_eq_getElem hk]at this;simp only[Option.elim,decide_eq_true_eq]at this;omega
 have hz:=(nj N).1 hv;have r1:=Mi hz.2.1;have r2:=Qy hz.2.2.2.2.2;exact⟨by omega,by omega,hv,fun ho=>⟨ho,by omega,by omega,by omega,by omega,by omega,by omega,fun r hr=>by have:=ta r hr;omega⟩⟩
def Wj(m:fL):Bool:=decide ((m.cX.length:Int)≤1024)&&decide ((m.calls.length:Int)≤40)
theorem Mj(m:fL):hZ [m.pv]=some (.bool (Wj m)):=by simp only[hZ,q6,zo,zp,zq,zr,zs,zt,zu,zw,zx,zy,zz,rZ,sc,wk,U,asInt,bg,ab,if_true,asBool,cT,List.length_map];rfl
theorem Wk{m:fL}(h:Wj m=true):m.calls.length≤40:=by simp only[Wj,Bool.and_eq_true,decide_eq_true_eq]at h;omega
def eN:ag:=⟨[],[],[],[],[],[],0,0,0⟩
theorem Wl:wm z9 eN:=⟨rfl,rfl,rfl,rfl,rfl,rfl,rfl,rfl,rfl,rfl⟩
theorem ac1:eN.Ok:=⟨⟨Nat.zero_le _,fun _ h=>by cases h⟩,⟨Nat.zero_le _,fun _ h=>by cases h⟩,⟨Nat.zero_le _,fun _ h=>by cases h⟩,⟨Nat.zero_le _,fun _ h=>by cases h⟩,⟨Nat.zero_le _,fun _ h=>by cases h⟩,⟨Nat.zero_le _,fun _ h=>by cases h⟩,by decide,by decide,by decide⟩
theorem Mk{p q:PV}{A B:ag}(hp:wm p A)(hq:wm q B)(hA:A.Ok):fk [p,q]=some (.bool (eqN A B)):=by have h:=P7 A B hA;simp only[fk,nc,nS,pC,pD,pE,pF,pG,pH,pI,pJ,pK,U]at h;simp only[fk,nc,hp.hA,hp.h0,hp.h1,hp.h2,hp.h3,hp.h4,hp.h5,hp.h6,hp.h7,hp.h8,hq.hA,hq.h0,hq.h1,hq.h2,hq.h3,hq.h4,hq.h5,hq.h6,hq.h7,hq.h8,U];exact h
def IA(N:ag)(m:fL):PV:=if(dp N).2.2=0∧Gc N m=0 then(DB N m).pv else z9
def apE(N:ag)(m:fL):Int:=if(dp N).2.2=0 then Gc N m else 21
theorem QA(N:ag)(m:fL):sf N m=.aZ [IA N m,.int .i64 (apE N m)]:=by
 unfold IA apE;by_cases hv:(dp N).2.2=0
 ·rw[Iz hv,if_pos hv];by_cases hx:Gc N m=0
  ·rw[if_pos hx,if_pos ⟨hv,hx⟩,hx]
  ·rw[if_neg hx,if_neg fun h=>hx h.2]
 ·unfold sf;rw[if_neg hv,if_neg hv,if_neg fun h=>hv h.1]
theorem ac2(N:ag)(m:fL):asAgg 9 (IA N m)=some ():=by unfold IA;split<;>rfl
theorem ac3(N:ag)(m:fL):PV.agg [cell (IA N m) 0,cell (IA N m) 1,cell (IA N m) 2,cell (IA N m) 3,cell (IA N m) 4,cell (IA N m) 5,cell (IA N m) 6,cell (IA N m) 7,cell (IA N m) 8]=IA N m:=by unfold IA;split<;>rfl
def apR(N:ag)(m:fL):ag:=if(dp N).2.2=0∧Gc N m=0 then DB N m else eN
theorem OO(N:ag)(m:fL):wm (IA N m) (apR N m):=by
 unfold IA apR;split
 ·exact XA _
 ·exact Wl
theorem ZS{N:ag}{m:fL}(h:Io N)(hm:m.Ok)(hr:N.runs.length<100):(apR N m).Ok:=by
 unfold apR;split
 ·rename_i hc;exact(Iw h (Iu N m) (ER hc.1) hm hr).ok
 ·exact ac1
theorem IB(N:ag)(m:fL)(h:N.Ok)(hm:m.Ok):dU [N.pv,m.pv]=some (.bool true):=by
 simp only[dU,iY,nS,pC,pD,pE,pF,pG,pH,pI,pJ,pK,U,vN,T3 N h];simp only[zo,zp,zq,zr,zs,zt,zu,zw,zx,zy,zz,rZ,sc,wk,U,asInt,bg,ab,if_true,asBool,Qm,aW,Mj,T2];by_cases hc:(!Da N|| !Wj m)=true
 ·rw[if_pos hc]
 ·rw[if_neg hc];simp only[Bool.or_eq_true,not_or,Bool.not_eq_true',Bool.not_eq_false]at hc;obtain⟨hr,_,hv,hl⟩:=Qz hc.1;have hL:=hl h;have hk:=Wk hc.2;have h1:=C8 N m hL hm (by omega);have h2:=Qt N m hL hm (by omega);rw[h1,h2,QA];simp only[U,bJ,List.length_cons,List.length_nil,Nat.reduceAdd,List.getD_cons_zero,List.getD_cons_succ,if_true,asInt,ac2,ac3,Mk (OO N m) (OO N m) (ZS hL hm (by omega)),S8,asBool,beq_self_eq_true,cond_true];rfl
end Go.Ab.Tt
