import Derived.Test.YtoaknfoobjnjgaaGreatRnP1
import Derived.Test.YtoaknfoobjnjgaaGreatNkP2
set_option linter.all false
namespace Go.Ab.Tt
set_option maxRecDepth 100000
theorem PM(a b:List ai)(ha:a.length≤maxLen):sH [.rs 5 (a.map ai.pv),.rs 5 (b.map ai.pv)]=some (.bool (decide (a=b))):=by
 have hm:=aL;simp only[sH,Ch,ak,IS,U,By,gd];by_cases hl:a.length=b.length
 ·rw[IT (by simp[hl])];refine(jV (fun k=>(b.map ai.pv,a.map ai.pv,(a.length:Int),(k:Int),())) a.length (fun k=> !decide (a[k]?=b[k]?)) (no:=some (.bool false)) (fin:=some (.bool true)) (fun k hk rec=>?_) (fun rec=>?_) ?_ rfl).trans (R9 hl)
  ·have h1:(k:Int)<(a.length:Int):=by omega
   have hkb:k<b.length:=by omega
   simp only[vY,te,h1,IS,af,AT,ta hk,ta hkb,No,U,ah (show k<9223372036854775807 by omega),tb];rw[BY ⟨rfl,rfl⟩,abR]
  ·simp[vY,te,anN,PS]
  ·have:=aN;omega
 ·rw[BY (by simp;omega)];have:¬a=b:=fun e=>hl (by rw[e]);simp[this]
theorem K4(x y:aX)(hx:x.calls.length≤maxLen):rC [x.pv,y.pv]=some (.bool (decide (x=y))):=by simp only[rC,EE,afO,L9,HS,Ma,OB,VB,YN,YO,FX,asInt,bt,asBool,ak,IS,U,PM x.calls y.calls hx,bL,dY];rw[abS]
def fh(T:ao)(r:aX):Bool:=rz r.day&&decide (r∈gv T r.day)
theorem abT(x:bY)(YY:x.Ok)(MV:x.calls.length≤40)(i day:Int)(r:aX)(s:List Int)(hs:∀t∈s,0≤t∧t≤172800)(I5:s.length≤172800000):bd.run lN (day,s.map iv,(s.length:Int),0,r.aZ,r.day,r.inst,r.id,r.aY,r.free,r.rr,r.calls.map ai.pv,false,cell x.pv 0,cell x.pv 1,cell x.pv 2,cell x.pv 3,cell x.pv 4,i,day,0,x.id,x.aY,x.free,false,[],())=some (.bool (decide (r∈(List.range s.length).map fun(k:Nat)=>fi x i day k (cd x.calls (s.getD k 0))))):=by
 refine(jV (fun k=>(day,s.map iv,(s.length:Int),(k:Int),r.aZ,r.day,r.inst,r.id,r.aY,r.free,r.rr,r.calls.map ai.pv,false,cell x.pv 0,cell x.pv 1,cell x.pv 2,cell x.pv 3,cell x.pv 4,i,day,PK k,x.id,x.aY,x.free,false,DA x day s k,())) s.length (fun k=>decide (fi x i day k (cd x.calls (s.getD k 0))=r)) (no:=some (.bool true)) (fin:=some (.bool false)) (fun k hk rec=>?_) (fun rec=>?_) ?_ rfl).trans ?_
 ·have h1:(k:Int)<(s.length:Int):=by omega
  have ci:∀n:Int,cell (iv n) 0=.int .i64 n:=fun _=>rfl;have hr:=hs s[k] (agZ hk);have qB:=zZ x.calls s[k];have WS:s.getD k 0=s[k]:=II s k hk;have agU:mc s[k]:=(eY _).2 (by omega);have hlC:DA x day s (k+1)=((cd x.calls s[k]).map (B2 (jM day))).map ai.pv:=by simp only[DA,WS]
  have hfc:=K3 x YY s[k] agU MV;rw[←akg x]at hfc;have hsh:=xZ (cd x.calls s[k]) (jM day) (by omega);have U7:=K4 (fi x i day k (cd x.calls s[k])) r (anW (show _≤40 by grind [fi,List.length_map]) (by decide));rw[show r.pv=.agg [.int .i64 r.aZ,.int .i64 r.day,.int .i64 r.inst,.str r.id,.int .i64 r.aY,.bool r.free,.bool r.rr,.rs 5 (r.calls.map ai.pv)]from rfl,show(fi x i day k (cd x.calls s[k])).pv=.agg [.int .i64 i,.int .i64 day,.int .i64 k,.str x.id,.int .i64 x.aY,.bool x.free,.bool false,.rs 5 (((cd x.calls s[k]).map (B2 (jM day))).map ai.pv)]from rfl]at U7;rw[hlC,WS];unfold jM at hsh U7;simp only[lN,te,h1,IS,af,Gl,ta hk,No,U,ci,asInt,hfc,cz,ak,alx,anx,Nat.reduceAdd,aki,amr,hsh,U7,asBool,aqw,ah (show k<9223372036854775807 by omega)];by_cases he:fi x i day k (cd x.calls s[k])=r
  ·rw[BY he,he];simp
  ·rw[IT he];simp only[he,anJ];rfl
 ·simp[lN,te,anN,PS]
 ·grind [rounds,decide]
 grind
theorem Jx(T:ao)(hT:vA T)(jq:T.Ok)(r:aX):jX [T.pv,r.pv]=some (.bool (fh T r)):=by
 have hkn:fh T r=(rz r.day&&decide (r∈gv T r.day)):=rfl;simp only[jX,vR,Y0,Y1,Y2,Y3,Y4,Y5,Y6,Y7,Y8,Y9,Za,HY,HZ,H3,afO,L9,HS,Ma,OB,VB,YN,YO,FX,ak,asInt,bt,asBool,IS,U,By,aT,uV];rw[hkn];by_cases hr:(decide (r.aZ<0)||decide (r.aZ≥(T.aj.length:Int)))=true
 ·have DN:¬r∈gv T r.day:=fun hm=>by obtain⟨i,x,hx,hi,_⟩:=Gd.1 hm;grind
  simp_all
 ·simp only[aor]at hr;simp only[hr,apr];cases hd:rz r.day with
  |false=>rfl
  |true=>
   simp only[anL,anQ]at hr;obtain⟨i,hi⟩:∃i:Nat,r.aZ=i:=⟨r.aZ.toNat,by omega⟩;have I7:i<T.aj.length:=by omega
   obtain⟨x,hxx⟩:∃x,T.aj[i]=x:=⟨_,rfl⟩;have hx:T.aj[i]?=some x:=by simp_all
   have HF:x∈T.aj:=amq hx;have bu:(r∈gv T r.day)↔r∈eL T i x r.day:=by grind [Gd]
   have amo:=FH T.gR jq.gR.1 T.ru jq.ru.1 x.AX r.day;have kL:=IK T.bm jq.bm.1 (i:Int);have Ya:=K1 T.bm (anW hT.bm (by omega)) (i:Int);simp only[ag0,U,cond_false,tc,PS,hi,af,AT,hx,No,Bp,Bq,Br,Dw,yA,asInt,bt,asBool,ak,IS,amo,kL,Ya,aoB];cases ha:Dq T.gR T.ru x.AX r.day with
   |false=>
    have ht:eL T i x r.day=[]:=by unfold eL;rw[BY ha]
    simp_all
   |true=>
    simp only[ag0,tc,PS];cases hrp:B5 T.bm i with
    |false=>
     have ht:eL T i x r.day=[fi x i r.day 0 x.calls]:=by simp_all[eL,IT,BY]
     have U4:decide (r∈gv T r.day)=decide (fi x i r.day 0 x.calls=r):=apU.2 (by grind);rw[U4];have hsh:=xZ x.calls (jM r.day) (anW (hT.small x HF) (by omega));have U7:=K4 (fi x i r.day 0 x.calls) r (anW (show _≤40 by simp only[fi,By];exact hT.small x HF) (by decide));rw[show r.pv=.agg [.int .i64 r.aZ,.int .i64 r.day,.int .i64 r.inst,.str r.id,.int .i64 r.aY,.bool r.free,.bool r.rr,.rs 5 (r.calls.map ai.pv)]from rfl,show(fi x i r.day 0 x.calls).pv=.agg [.int .i64 i,.int .i64 r.day,.int .i64 0,.str x.id,.int .i64 x.aY,.bool x.free,.bool false,.rs 5 ((x.calls.map (B2 (jM r.day))).map ai.pv)]from rfl,hi]at U7;simp_all[jM,anM,IS,U,ak,asBool]
    |true=>
     have ht:eL T i x r.day=(List.range (instI T.bm i).length).map fun(k:Nat)=>fi x i r.day k (cd x.calls ((instI T.bm i).getD k 0)):=by simp_all[eL,IT]
     have U4:decide (r∈gv T r.day)=decide (r∈(List.range (instI T.bm i).length).map fun(k:Nat)=>fi x i r.day k (cd x.calls ((instI T.bm i).getD k 0))):=apU.2 (by rw[bu,ht]);rw[U4];simp only[ag0,tc,PS];have:=abT x (jq.aj.2 x HF) (hT.small x HF) i r.day r (instI T.bm i) (fun t ht=>instI_range _ _ _ ht) (instI_len _ (anW hT.bm (by omega)) _);rw[hi]at this;simp only[By];exact this
def k3(k:Int×Int×Int):PV:=.agg [.int .i64 k.1,.int .i64 k.2.1,.int .i64 k.2.2]
theorem abU(a b:Int×Int×Int):bR (k3 a).cells (k3 b).cells=decide (a=b):=by obtain⟨a1,a2,a3⟩:=a;obtain⟨b1,b2,b3⟩:=b;rw[anS];simp[k3,PV.cells,bR,peq]
def kat(l:List aX)(k:Int×Int×Int)(i:Nat):Bool:=match l[i]? with|some r=>decide (r.key=k)|none=>false
def lY(l:List aX)(k:Int×Int×Int)(n:Nat):Option Nat:=(List.range n).find? (kat l k)
def Jy(l:List aX)(n:Nat):List (PV×PV):=(List.range n).filterMap fun(i:Nat)=>(l[i]?).map fun(r:aX)=>(k3 r.key,PV.int .i64 (i:Int))
theorem EI(l:List aX)(n:Nat)(h:n<l.length):Jy l (n+1)=Jy l n++[(k3 l[n].key,.int .i64 (n:Int))]:=by simp_all[Jy,aot,List.filterMap_append,ta]
theorem IP(l:List aX)(k)(n:Nat):lY l k (n+1)=(lY l k n).or (if kat l k n=true then some n else none):=by unfold lY;rw[aot,List.find?_append,List.find?_cons,List.find?_nil];grind
theorem abV(k:PV)(a:List (PV×PV))(b:List (PV×PV)):me k (a++b)=(me k a||me k b):=by
 induction a with
 |nil=>rfl
 |cons x a ih=>simp_all[aoQ,me,Bool.or_assoc]
theorem Wu(k z:PV)(a:List (PV×PV))(b:List (PV×PV)):bT k z (a++b)=if me k a=true then bT k z a else bT k z b:=by
 induction a with
 |nil=>rfl
 |cons x a ih=>grind [bT,me,bR]
theorem abW(k v:PV)(a:List (PV×PV))(h:me k a=false):dr k v a=a++[(k,v)]:=by
 induction a with
 |nil=>rfl
 |cons x a ih=>simp_all[me,anL,dr,tc,PS,aoQ]
theorem MZ{l:List aX}{k}{n:Nat}(h:n<l.length):kat l k n=decide (l[n].key=k):=by grind [kat,List.getElem?_eq_getElem]
theorem wW(l:List aX)(k):∀n,n≤l.length→me (k3 k) (Jy l n)=(lY l k n).isSome
 |0,_=>rfl
 |n+1,h=>by rw[EI l n h,abV,wW l k n (by omega),IP,MZ h];simp only[me,abU,aoL];grind
theorem EJ(l:List aX)(k)(z:PV):∀n,n≤l.length→bT (k3 k) z (Jy l n)=match lY l k n with|some i=>.int .i64 (i:Int)|none=>z
 |0,_=>rfl
 |n+1,h=>by rw[EI l n h,Wu,wW l k n (by omega),EJ l k z n (by omega),IP,MZ h];simp only[bT,abU];have hd:decide (k=l[n].key)=decide (l[n].key=k):=apU.2 eq_comm;grind [lY]
theorem abX(m:List (PV×PV)):(m.map fun x=>x.fst).zip (m.map fun x=>x.snd)=m:=by
 induction m with
 |nil=>rfl
 |cons x m ih=>simp_all
def M0(T:ao)(l:List aX)(i:Nat):Option Int:=match l[i]? with
 |some r=>if fh T r=false then some 9 else if(lY l r.key i).isSome=true then some 6 else none
 |none=>none
def Wv(T:ao)(l:List aX):Option Int:=(List.range l.length).findSome? (M0 T l)
def mpv(l:List aX):PV:=.rm 253 ((Jy l l.length).map fun x=>x.fst) ((Jy l l.length).map fun x=>x.snd)
theorem Sb(T:ao)(hT:vA T)(jq:T.Ok)(l:List aX)(hl:l.length≤maxLen):sI [T.pv,.rs 8 (l.map aX.pv)]=some (match Wv T l with|some e=>.aV [.nW,.int .i64 e]|none=>.aV [mpv l,.int .i64 0]):=by
 have hm:=aL;simp only[sI,Ci,Y0,Y1,Y2,Y3,Y4,Y5,Y6,Y7,Y8,Y9,Za,HY,HZ,H3,ak,asInt,IS,U,By];refine(aO (fun k=>(l.map aX.pv,(l.length:Int),(k:Int),Gm T (Jy l k,()))) l.length (fun k=>(M0 T l k).map fun e=>some (.aV [.nW,.int .i64 e])) (fin:=some (.aV [mpv l,.int .i64 0])) (fun k hk rec=>?_) (fun rec=>?_) ?_ ?_).trans ?_
 ·have h1:(k:Int)<(l.length:Int):=by omega
  have ho:jX [T.pv,PV.agg [.int .i64 l[k].aZ,.int .i64 l[k].day,.int .i64 l[k].inst,cell l[k].pv 3,cell l[k].pv 4,cell l[k].pv 5,cell l[k].pv 6,cell l[k].pv 7]]=_:=Jx T hT jq l[k];have hb:M0 T l k=if fh T l[k]=false then some 9 else if(lY l l[k].key k).isSome=true then some 6 else none:=by grind [M0,List.getElem?_eq_getElem]
  have tn:∀r:aX,PV.agg [.int .i64 r.aZ,.int .i64 r.day,.int .i64 r.inst]=k3 r.key:=fun _=>rfl;have kx:(asInt .i64 (match lY l l[k].key k with|some i=>.int .i64 (i:Int)|none=>PV.int .i64 0))=some (match lY l l[k].key k with|some i=>(i:Int)|none=>0):=by cases lY l l[k].key k<;>rfl
  simp only[Gm];simp only[vZ,te,h1,IS,af,AT,ta hk,No,U,ttE,afP,ho,asBool,L9,HS,Ma,asInt,tn,EJ l _ _ k (apR hk),wW l _ k (apR hk),ah (show k<9223372036854775807 by omega)];rw[hb];cases fh T l[k]with
  |false=>rfl
  |true=>
   simp only[ag0,tc,PS,anE];cases hf:lY l l[k].key k with
   |some i=>rfl
   |none=>
    have DN:me (k3 l[k].key) (Jy l k)=false:=by rw[wW l _ k (apR hk),hf];rfl
    rw[abW _ _ _ DN,←EI l k hk];rfl
 ·simp only[vZ,Gm,te,anN,PS];rfl
 ·have:=aN;omega
 ·rfl
 ·unfold Wv;have:∀L:List Nat,(L.findSome? fun k=>(M0 T l k).map fun e=>some (PV.aV [.nW,.int .i64 e]))=(L.findSome? (M0 T l)).map fun e=>some (PV.aV [.nW,.int .i64 e]):=fun L=>by
   induction L with
   |nil=>rfl
   |cons a L ih=>grind
  rw[this];cases(List.range l.length).findSome? (M0 T l)<;>rfl
variable{T:ao}
theorem Eo(hV:dE T){x:kN}(hx:x∈T.dn):sk x.a x.b T.aj.length=false∧mE T.bm x.a x.b=false:=by
 obtain⟨k,hk⟩:=anI.1 hx;have h6:(tK T.dn T.aj T.bm).2=0:=hV 6 (by omega);unfold tK at h6;by_cases h:T.dn.length>128
 ·simp_all
 ·rw[IT h]at h6;have he:=j3 _ _ h6 k (IN.1 hk).1;unfold H6 at he;grind
theorem IQ(hV:dE T){g:jT}(hg:g∈T.cH):∃(i j:Nat)(p q:bY),g.a=i∧g.b=j∧T.aj[i]?=some p∧T.aj[j]?=some q∧B5 T.bm g.a=false∧B5 T.bm g.b=false∧qx p.calls q.calls g.stop=true:=by
 obtain⟨k,hk⟩:=anI.1 hg;have h7:(pO T.cH T.aj T.bm T.stops.length).2=0:=hV 7 (by omega);unfold pO at h7;by_cases h:T.cH.length>128
 ·simp_all
 ·rw[IT h]at h7;have he:=j3 _ _ h7 k (IN.1 hk).1;unfold DC at he;rw[hk]at he;simp only at he;by_cases h1:(sk g.a g.b T.aj.length|| !Jz g.stop T.stops.length)=true
  ·simp_all
  ·rw[IT h1]at he;by_cases h2:mE T.bm g.a g.b=true
   ·simp_all
   ·rw[IT h2]at he;simp only[anH,ap8,aor]at h1;obtain⟨i,j,hi,hj,I7,yD⟩:=C9 g.a g.b T.aj h1.1;have hp:T.aj[g.a.toNat]?=some T.aj[i]:=by simp_all
    have hq:T.aj[g.b.toNat]?=some T.aj[j]:=by simp_all
    rw[hp,hq]at he;simp only at he;have hr:B5 T.bm g.a=false∧B5 T.bm g.b=false:=by simp_all[mE]
    grind
theorem B6{r:aX}(hk:fh T r=true)(hr:B5 T.bm r.aZ=false):rz r.day=true∧∃(i:Nat)(x:bY),r.aZ=i∧T.aj[i]?=some x∧r=fi x i r.day 0 x.calls:=by unfold fh at hk;rw[OF,te]at hk;obtain⟨i,x,hx,hi,hm⟩:=Gd.1 hk.2;refine⟨hk.1,i,x,hi,hx,?_⟩;unfold eL at hm;grind
def mI(a b:List ai)(s:Int):Int×Int:=match(List.range a.length).find? (F0 a s)with
 |none=>(0,0)
 |some i=>match(List.range b.length).find? (F1 b s)with
  |none=>(0,0)
  |some k=>if mtB a b i k=true then((i:Int),(k:Int))else(0,0)
theorem abY(a b:List ai)(s:Int):AJ a b s=.aV [.int .i64 (mI a b s).1,.int .i64 (mI a b s).2,.bool (qx a b s)]:=by
 unfold AJ mI qx;cases(List.range a.length).find? (F0 a s)with
 |none=>rfl
 |some i=>
  cases(List.range b.length).find? (F1 b s)with
  |none=>rfl
  |some k=>grind [adR,mtB]
def fp(T:ao)(l:List aX)(a:Nat)(r:aX):Option aD:=(gx T.dn r.aZ).bind fun n=>(lY l (n,r.day,0) l.length).map fun(b:Nat)=>(⟨(a:Int),(r.calls.length:Int)-1,(b:Int),0,true⟩:aD)
def wL(T:ao)(l:List aX)(a:Nat)(r:aX)(g:jT):Option aD:=
 if g.a=r.aZ then(lY l (g.b,r.day,0) l.length).bind fun b=>(l[b]?).bind fun q=>
  if qx r.calls q.calls g.stop=false∨fp T l a r=some ⟨a,(mI r.calls q.calls g.stop).1,b,(mI r.calls q.calls g.stop).2,true⟩then none
  else some ⟨a,(mI r.calls q.calls g.stop).1,b,(mI r.calls q.calls g.stop).2,false⟩
 else none
def kv(T:ao)(l:List aX)(a:Nat)(r:aX):List aD:=(fp T l a r).toList++T.cH.filterMap (wL T l a r)
theorem Da{l:List aX}{k}{b:Nat}(h:lY l k l.length=some b):b<l.length∧∃r,l[b]?=some r∧r.key=k:=by grind [lY,List.mem_of_find?_eq_some,kat,List.getElem?_eq_getElem]
theorem IU{A B:Type}(f:A→Option B)(l:List A)(k:Nat)(h:k<l.length):(l.take (k+1)).filterMap f=(l.take k).filterMap f++(f l[k]).toList:=by grind [List.take_succ_eq_append_getElem]
theorem adS(s:aD)(a i b k:Int):bR [PV.int .i64 s.a,.int .i64 s.ac,.int .i64 s.b,.int .i64 s.bc,.bool s.stay] [PV.int .i64 a,.int .i64 i,.int .i64 b,.int .i64 k,.bool true]=decide (s=⟨a,i,b,k,true⟩):=by obtain⟨s0,s1,s2,s3,s4⟩:=s;rw[anS];simp[bR,peq]
def Ww(s:Option aD):aD:=s.getD ⟨-1,0,0,0,false⟩
theorem agX(s:Option aD)(a:Nat)(i b k:Int):decide (Ww s=⟨a,i,b,k,true⟩)=decide (s=some ⟨a,i,b,k,true⟩):=by
 refine apU.2 ?_;cases s with
 |none=>simp[Ww]
 |some x=>simp[Ww]
theorem abZ(l:List PV)(h:l.length≤1000000):l.length*40≤aa∧0<40:=⟨by unfold aa;omega,by omega⟩
theorem PN(o:Option aD):o.toList.length≤1:=by simp
theorem ab0{A B:Type}(f:A→Option B)(l:List A):(l.filterMap f).length≤l.length:=List.length_filterMap_le f l
def lkI(o:Option Nat):Int:=match o with|some i=>(i:Int)|none=>0
theorem IV(l:List aX)(k):bT (k3 k) (.int .i64 0) (Jy l l.length)=.int .i64 (lkI (lY l k l.length)):=by rw[EJ l k _ _ (anz _)];cases lY l k l.length<;>rfl
theorem PO(i:Nat):lkI (some i)=(i:Int):=rfl
theorem adT(T:ao)(hT:vA T)(l:List aX)(hl:l.length≤1024)(hc:∀r∈l,r.calls.length≤40)(a:Nat)(r:aX)(ha:l[a]?=some r):bd.run (k9 bd) (l.map aX.pv,mpv l,(a:Int),T.cH.map jT.pv,(T.cH.length:Int),0,(fp T l a r).toList.map aD.pv,cell r.pv 0,cell r.pv 1,cell r.pv 2,cell r.pv 3,cell r.pv 4,cell r.pv 5,cell r.pv 6,cell r.pv 7,(Ww (fp T l a r)).a,(Ww (fp T l a r)).ac,(Ww (fp T l a r)).b,(Ww (fp T l a r)).bc,(Ww (fp T l a r)).stay,())=some (.rs 5 ((kv T l a r).map aD.pv)):=by
 have am2:=hT.cH;have WX:=hc r (amq ha);have hs1:=PN (fp T l a r);obtain⟨st,gw⟩:∃st,fp T l a r=st:=⟨_,rfl⟩;refine bh (fun(k:Nat)=>(l.map aX.pv,mpv l,(a:Int),T.cH.map jT.pv,(T.cH.length:Int),(k:Int),((fp T l a r).toList++(T.cH.take k).filterMap (wL T l a r)).map aD.pv,cell r.pv 0,cell r.pv 1,cell r.pv 2,cell r.pv 3,cell r.pv 4,cell r.pv 5,cell r.pv 6,cell r.pv 7,(Ww (fp T l a r)).a,(Ww (fp T l a r)).ac,(Ww (fp T l a r)).b,(Ww (fp T l a r)).bc,(Ww (fp T l a r)).stay,())) T.cH.length (fun k hk rec=>?_) (fun rec=>?_) ?_ ?_
 ·have h1:(k:Int)<(T.cH.length:Int):=by omega
  obtain⟨g,hg⟩:∃g,T.cH[k]=g:=⟨_,rfl⟩;have tn:PV.agg [.int .i64 g.b,.int .i64 r.day,.int .i64 0]=k3 (g.b,r.day,0):=rfl;have Kn:=ab0 (wL T l a r) (T.cH.take k);rw[an9]at Kn;have cr:∀X:PV,(((fp T l a r).toList++(T.cH.take k).filterMap (wL T l a r)).map aD.pv++[X]).length*40≤aa∧0<40:=fun X=>abZ _ (by grind);have Bn:((fp T l a r).toList++(T.cH.take (k+1)).filterMap (wL T l a r)).map aD.pv=((fp T l a r).toList++(T.cH.take k).filterMap (wL T l a r)).map aD.pv++(wL T l a r g).toList.map aD.pv:=by simp_all[IU,an1,anU]
  rw[Bn];generalize ((fp T l a r).toList++(T.cH.take k).filterMap (wL T l a r)).map aD.pv=ov at cr;simp only[k9,te,h1,IS,af,AT,ta hk,hg,No,U,aeX,aeY,aeZ,L9,HS,FX,asInt,ak,mpv,cS,abX,tn,IV,wW l _ _ (anz _),gd];unfold wL;by_cases hga:g.a=r.aZ
  ·simp only[hga,anR,ag0,cond_false,U,IS];cases hf:lY l (g.b,r.day,0) l.length with
   |none=>simp only[aoY,anM,IS,Option.bind_none,apG,apo,aof,ah (show k<9223372036854775807 by omega)]
   |some b=>
    obtain⟨U1,q,hq,Vh⟩:=Da hf;have hqc:=hc q (amq hq);have hmp:=IW r.calls q.calls (anW WX (by decide)) (Nat.lt_of_le_of_lt hqc (by decide)) g.stop;rw[abY]at hmp;simp only[apl,PO,ag0,tc,PS,af,AT,hq,No,U,FX,ak,IS,hmp,cz,asInt,asBool,alx,anx,Nat.reduceAdd,aki,amr,adS,agX,anC];cases hm:qx r.calls q.calls g.stop with
    |false=>simp only[anM,cond_true,U,IS,true_or,apG,apo,aof,ah (show k<9223372036854775807 by omega)]
    |true=>
     simp only[ag0,cond_false,U,anE,false_or,te];by_cases he:fp T l a r=some ⟨a,(mI r.calls q.calls g.stop).1,b,(mI r.calls q.calls g.stop).2,true⟩
     ·rw[BY he,BY he];grind [Option.toList_none,ah]
     ·rw[IT he,IT he];have SJ:=cr (PV.agg [.int .i64 (a:Int),.int .i64 (mI r.calls q.calls g.stop).1,.int .i64 (b:Int),.int .i64 (mI r.calls q.calls g.stop).2,.bool false]);refine(BY SJ).trans ?_;rw[ah (show k<9223372036854775807 by omega)];rfl
  ·simp only[hga,anJ,anM,cond_true,U,IS,PS,apG,apo,aof,ah (show k<9223372036854775807 by omega)]
 ·simp[k9,te,anN,PS,aoe,kv]
 ·grind [rounds,decide]
 simp
theorem adU(T:ao)(hT:vA T)(jq:T.Ok)(l:List aX)(hl:l.length≤1024)(hc:∀r∈l,r.calls.length≤40)(a:Nat)(r:aX)(ha:l[a]?=some r):AK [T.pv,.rs 8 (l.map aX.pv),mpv l,.int .i64 a]=some (.rs 5 ((kv T l a r).map aD.pv)):=by
 have WX:=hc r (amq ha);have DD:=adT T hT l hl hc a r ha;have Bn:=EK T.dn jq.dn.1 r.aZ;simp only[AK,MJ,Y0,Y1,Y2,Y3,Y4,Y5,Y6,Y7,Y8,Y9,Za,HY,HZ,H3,ak,asInt,IS,U,mpv,cS,af,AT,ha,No,L9,HS,FX,Bn];unfold fp at DD;cases hn:gx T.dn r.aZ with
 |none=>rw[hn]at DD;simp only[Aa,cz,asInt,asBool,alx,anx,Nat.reduceAdd,IS,U,aki,amr,tc,PS,By];exact DD
 |some n=>
  rw[hn]at DD;have tn:PV.agg [.int .i64 n,.int .i64 r.day,.int .i64 0]=k3 (n,r.day,0):=rfl;simp only[Aa,cz,asInt,asBool,alx,anx,Nat.reduceAdd,IS,U,aki,amr,abX,tn,IV,wW l _ _ (anz _)];simp only[anC]at DD;cases hf:lY l (n,r.day,0) l.length with
  |none=>rw[hf]at DD;simp only[aoY,tc,PS,U,By];exact DD
  |some b=>rw[hf]at DD;have hw:IntKind.i64.wrap ((r.calls.length:Int)-1)=(r.calls.length:Int)-1:=bp (by omega) (by omega);simp only[apl,PO,IS,U,ak,By,hw];exact DD
def oV(T:ao)(l:List aX)(a:Nat):List aD:=match l[a]? with|some r=>kv T l a r|none=>[]
def ba(T:ao)(l:List aX)(n:Nat):List aD:=(List.range n).flatMap (oV T l)
theorem mw(T:ao)(l:List aX)(n:Nat):ba T l (n+1)=ba T l n++oV T l n:=by simp[ba,aot,apc]
theorem PQ(T:ao)(hT:vA T)(l:List aX)(a:Nat):(oV T l a).length≤141:=by
 unfold oV;cases l[a]? with
 |none=>simp
 |some r=>simp only[kv,anD];have h1:=PN (fp T l a r);have h2:=ab0 (wL T l a r) T.cH;have:=hT.cH;omega
theorem DE(T:ao)(hT:vA T)(l:List aX):∀n,(ba T l n).length≤141*n
 |0=>by simp[ba]
 |n+1=>by rw[mw,anD];have:=DE T hT l n;have:=PQ T hT l n;omega
def tI(m:List aD)(e:Int):PV:=.aV [.rs 5 (m.map aD.pv),.int .i64 e]
def Mf(T:ao)(l:List aX):PV:=match Wv T l with
 |some e=>tI [] e
 |none=>if(ba T l l.length).length>1024 then tI [] 5 else tI (ba T l l.length) 0
theorem ab1(T:ao)(hT:vA T)(jq:T.Ok)(l:List aX)(hl:l.length≤1024)(hc:∀r∈l,r.calls.length≤40):bd.run (my bd) (l.map aX.pv,mpv l,(l.length:Int),0,Gm T ([],()))=some (if(ba T l l.length).length>1024 then tI [] 5 else tI (ba T l l.length) 0):=by
 refine(aO (fun k=>(l.map aX.pv,mpv l,(l.length:Int),(k:Int),Gm T ((ba T l k).map aD.pv,()))) l.length (fun k=>if(fun j=>(ba T l j).length) (k+1)>1024 then some (some (tI [] 5))else none) (fin:=some (tI (ba T l l.length) 0)) (fun k hk rec=>?_) (fun rec=>?_) ?_ ?_).trans ?_
 ·have h1:(k:Int)<(l.length:Int):=by omega
  have hof:=adU T hT jq l hl hc k l[k] (ta hk);have Qk:oV T l k=kv T l k l[k]:=by grind [oV,List.getElem?_eq_getElem]
  have hlen:=DE T hT l (k+1);have cr:=abZ ((ba T l k).map aD.pv++(kv T l k l[k]).map aD.pv) (by grind [mw,List.length_append,List.length_map]);have WN:((ba T l k).map aD.pv++(kv T l k l[k]).map aD.pv).length=(ba T l (k+1)).length:=by rw[mw,Qk];simp
  simp only[Gm];simp only[my,te,h1,IS,ttE,hof,U,ak];have hmp:(ba T l (k+1)).map aD.pv=(ba T l k).map aD.pv++(kv T l k l[k]).map aD.pv:=by rw[mw,Qk,anU]
  rw[BY cr,WN,←hmp];by_cases hb:(ba T l (k+1)).length>1024
  ·rw[BY (show(((ba T l (k+1)).length:Nat):Int)>1024 by omega),BY hb];rfl
  ·rw[IT (show¬(((ba T l (k+1)).length:Nat):Int)>1024 by omega),IT hb,ah (show k<9223372036854775807 by omega)];rfl
 ·simp only[my,Gm,te,anN,PS];rfl
 ·grind [rounds,decide]
 ·rfl
 ·rw[wV (fun j=>(ba T l j).length) (fun k=>by grind [ba,mw,List.length_append]) (by simp[ba])];by_cases hb:(ba T l l.length).length>1024
  ·rw[BY hb,BY hb];rfl
  ·rw[IT hb,IT hb];rfl
theorem Rr(T:ao)(hT:vA T)(jq:T.Ok)(l:List aX)(hl:l.length≤1024)(hc:∀r∈l,r.calls.length≤40)(p i e:Int)(hw:ef [T.pv]=some (vC p i e)):sJ [T.pv,.rs 8 (l.map aX.pv)]=some (if e=0 then Mf T l else tI [] e):=by
 have abG:=Sb T hT jq l (anW hl (by decide));have amp:¬((l.length:Int)>1024):=by omega
 simp only[sJ,Ck,Y0,Y1,Y2,Y3,Y4,Y5,Y6,Y7,Y8,Y9,Za,HY,HZ,H3,ak,asInt,IS,U,ttE,hw,vC,cz,alx,anx,Nat.reduceAdd,aki,amr,gd,By,te,amp,PS,abG];by_cases he:e=0
 ·simp only[he,anR,ag0,tc,PS,IS];unfold Mf;cases hx:Wv T l with
  |some e'=>
   have cy:e'≠0:=by obtain⟨k,_,hk⟩:=an4 hx;grind [M0,decide]
   simp only[U,cS,alx,anx,Nat.reduceAdd,IS,aki,amr,cy,anJ,anM];rfl
  |none=>have ho:=ab1 T hT jq l hl hc;simp only[Gm]at ho;simp only[U,mpv,cS,alx,anx,Nat.reduceAdd,IS,aki,amr,anR,ag0,tc,PS];exact ho
 ·simp only[he,anJ,anM,IS,PS];rfl
structure Sc(l:List aX)(x:aD):Prop where
 ends:∃(a b:Nat)(r q:aX)(i k:Nat)(c d:ai),x.a=a∧x.b=b∧a≠b∧l[a]?=some r∧l[b]?=some q∧r.day=q.day∧x.ac=i∧x.bc=k∧r.calls[i]?=some c∧q.calls[k]?=some d∧c.stop=d.stop∧¬d.dep<c.arr∧(x.stay=true→i+1=r.calls.length∧k=0)
def aD.key(x:aD):Int×Int×Int×Int:=(x.a,x.ac,x.b,x.bc)
theorem ab2{a b:List ai}{s:Int}(h:qx a b s=true):∃(i k:Nat)(c d:ai),mI a b s=((i:Int),(k:Int))∧a[i]?=some c∧b[k]?=some d∧c.stop=s∧d.stop=s∧¬d.dep<c.arr:=by
 unfold qx at h;unfold mI;cases hi:(List.range a.length).find? (F0 a s)with
 |none=>rw[hi]at h;cases h
 |some i=>
  rw[hi]at h;simp only at h⊢;cases hk:(List.range b.length).find? (F1 b s)with
  |none=>rw[hk]at h;cases h
  |some k=>rw[hk]at h;simp only at h⊢;rw[BY h];have h1:=List.find?_some hi;have h2:=List.find?_some hk;unfold F0 at h1;unfold F1 at h2;unfold mtB at h;grind
variable{a:Nat}{T:ao}{l:List aX}{r:aX}{x:aD}
theorem Ge(hV:dE T)(hk:∀r∈l,fh T r=true)(ha:l[a]?=some r)(hx:fp T l a r=some x):Sc l x∧x.a=a∧x.stay=true:=by
 unfold fp at hx;obtain⟨n,hn,hx⟩:=AI.1 hx;obtain⟨b,hb,hx⟩:=ae0.1 hx;obtain⟨U1,q,hq,Vh⟩:=Da hb;have Qg:=hn;unfold gx at Qg;obtain⟨y,hy,hyb⟩:=ae0.1 Qg;have hym:=ao2 hy;have hya:y.a=r.aZ:=by grind
 obtain⟨hp,kL⟩:=Eo hV hym;obtain⟨gi,gj,SS,hgj,I7,yD⟩:=C9 y.a y.b T.aj hp;have cy:y.a≠y.b:=by simp_all[sk,anL,anQ]
 have hra:B5 T.bm y.a=false∧B5 T.bm y.b=false:=by simp_all[mE]
 simp only[aX.key,T0]at Vh;obtain⟨hd,i1,x1,hi1,hx1,e1⟩:=B6 (hk r (amq ha)) (by simp_all);obtain⟨_,i2,x2,hi2,hx2,e2⟩:=B6 (hk q (amq hq)) (by grind);have c1:r.calls=x1.calls.map (B2 (jM r.day)):=by rw[e1];rfl
 have c2:q.calls=x2.calls.map (B2 (jM r.day)):=by rw[←Vh.2.1,e2];rfl
 obtain⟨kk,yJ⟩:=anI.1 hym;have adV:ur x1 x2=0:=by
  have h6:(tK T.dn T.aj T.bm).2=0:=hV 6 (by omega);unfold tK at h6;by_cases h:T.dn.length>128
  ·grind
  ·rw[IT h]at h6;have he:=j3 _ _ h6 kk (IN.1 yJ).1;unfold H6 at he;grind
 have tp:=qm hV hx1;have tq:=qm hV hx2;obtain⟨_,hD0,hD1⟩:=Me hd;have hl1:x1.calls.length-1<x1.calls.length:=by have:=tp.two;omega
 have hl2:0<x2.calls.length:=by have:=tq.two;omega
 have g1:=ta hl1;have g2:=ta hl2;unfold ur at adV;by_cases LL:(!decide (x1.AX=x2.AX))=true
 ·grind
 ·rw[IT LL,g1,g2]at adV;simp only at adV;by_cases hs:(!decide (x1.calls[x1.calls.length-1].stop=x2.calls[0].stop))=true
  ·grind
  ·rw[IT hs]at adV;by_cases ht:x2.calls[0].dep<x1.calls[x1.calls.length-1].arr
   ·omega
   ·have hy1:=tp.call _ _ g1;have hy2:=tq.call _ _ g2;have w1:(B2 (jM r.day) x1.calls[x1.calls.length-1]).arr=x1.calls[x1.calls.length-1].arr+jM r.day:=bp (by omega) (by omega);have w2:(B2 (jM r.day) x2.calls[0]).dep=x2.calls[0].dep+jM r.day:=bp (by omega) (by omega);have Od:r.calls.length=x1.calls.length:=by rw[c1,By]
    have htw:=tp.two;subst hx;refine⟨⟨a,b,r,q,x1.calls.length-1,0,B2 (jM r.day) x1.calls[x1.calls.length-1],B2 (jM r.day) x2.calls[0],rfl,rfl,?_,ha,hq,Vh.2.1.symm,?_,rfl,?_,?_,?_,?_,fun _=>⟨by omega,rfl⟩⟩,rfl,rfl⟩
    ·grind
    ·simp only[Od];omega
    ·grind
    ·grind
    ·have:x1.calls[x1.calls.length-1].stop=x2.calls[0].stop:=by simpa using hs
     exact this
    omega
theorem DF(hV:dE T)(ha:l[a]?=some r){g:jT}(hg:g∈T.cH)(hx:wL T l a r g=some x):Sc l x∧x.a=a∧g.a=r.aZ∧fp T l a r≠some {x with stay:=true}∧∃(b i:Nat)(q:aX)(c:ai),x.b=b∧l[b]?=some q∧g.b=q.aZ∧x.ac=i∧r.calls[i]?=some c∧c.stop=g.stop:=by
 obtain⟨gi,gj,gp,gq,SS,hgj,_,_,_,_,_⟩:=IQ hV hg;have cy:g.a≠g.b:=by
  obtain⟨k,hk⟩:=anI.1 hg;have h7:(pO T.cH T.aj T.bm T.stops.length).2=0:=hV 7 (by omega);unfold pO at h7;by_cases h:T.cH.length>128
  ·simp_all
  ·rw[IT h]at h7;have he:=j3 _ _ h7 k (IN.1 hk).1;unfold DC at he;rw[hk]at he;simp only at he;by_cases h1:(sk g.a g.b T.aj.length|| !Jz g.stop T.stops.length)=true
   ·simp_all
   simp_all[anH,ap8,aor,sk,anL,anQ]
 unfold wL at hx;by_cases hga:g.a=r.aZ
 ·rw[BY hga]at hx;obtain⟨b,hb,hx⟩:=AI.1 hx;obtain⟨q,hq,hx⟩:=AI.1 hx;obtain⟨_,q',F9,Vh⟩:=Da hb;rw[hq]at F9;cases F9;simp only[aX.key,T0]at Vh;by_cases hc:qx r.calls q.calls g.stop=false∨fp T l a r=some ⟨a,(mI r.calls q.calls g.stop).1,b,(mI r.calls q.calls g.stop).2,true⟩
  ·simp_all
  ·rw[IT hc]at hx;rw[ap8]at hc;obtain⟨i,k,c,d,hm,hci,hdk,Jk,WU,ht⟩:=ab2 (show qx r.calls q.calls g.stop=true by simpa using hc.1);rw[hm]at hx hc;simp only[tb]at hx;subst hx;refine⟨⟨a,b,r,q,i,k,c,d,rfl,rfl,?_,ha,hq,Vh.2.1.symm,rfl,rfl,hci,hdk,by omega,ht,fun h=>by cases h⟩,rfl,hga,hc.2,b,i,q,c,rfl,hq,Vh.1.symm,rfl,hci,Jk⟩;grind
 simp_all
theorem PR(hV:dE T):T.cH.Pairwise fun g h=>g≠h:=by
 rw[an8];intro i j hi hj XC e;have h7:(pO T.cH T.aj T.bm T.stops.length).2=0:=hV 7 (by omega);unfold pO at h7;by_cases h:T.cH.length>128
 ·simp_all
 ·rw[IT h]at h7;have he:=j3 _ _ h7 j hj;unfold DC at he;rw[ta hj]at he;simp only at he;obtain⟨gi,gj,gp,gq,SS,hgj,hgp,hgq,hra,hrb,hmt⟩:=IQ hV (agZ hj);have t1:T.aj[T.cH[j].a.toNat]?=some gp:=by simp_all
  have t2:T.aj[T.cH[j].b.toNat]?=some gq:=by simp_all
  by_cases h1:(sk T.cH[j].a T.cH[j].b T.aj.length|| !Jz T.cH[j].stop T.stops.length)=true
  ·simp_all
  ·rw[IT h1]at he;by_cases h2:mE T.bm T.cH[j].a T.cH[j].b=true
   ·simp_all
   ·rw[IT h2,t1,t2]at he;simp only at he;rw[IT (by simp[hmt])]at he;have bu:T.cH[j]∈T.cH.take j:=by rw[←e,anI];exact⟨i,by simp_all⟩
    simp_all
theorem M1(hV:dE T)(hk:∀r∈l,fh T r=true)(ha:l[a]?=some r):(kv T l a r).Pairwise fun x y=>x.key≠y.key:=by
 unfold kv;rw[aow];refine⟨?_,?_,?_⟩
 ·simp
 ·rw[List.pairwise_filterMap];refine aom (R:=fun g h=>g≠h) (fun{g h}hg hh cy x hx y hy e=>?_) (PR hV);obtain⟨_,_,hga,_,b,i,q,c,hb,hq,hgb,hi,hc,Jk⟩:=DF hV ha hg hx;obtain⟨_,_,ans,_,b',i',q',c',j4,F9,ant,oa,hc',anu⟩:=DF hV ha hh hy;simp only[aD.key,T0]at e;have eb:b=b':=by omega
  have ei:i=i':=by omega
  subst eb;subst ei;rw[hq]at F9;cases F9;rw[hc]at hc';cases hc';apply cy;obtain⟨g1,g2,g3⟩:=g;obtain⟨k1,k2,k3⟩:=h;simp_all
 ·intro x hx y hy e;obtain⟨g,hg,hy⟩:=aph.1 hy;obtain⟨_,hya,_,Ji,_⟩:=DF hV ha hg hy;have GX:fp T l a r=some x:=by simp_all
  obtain⟨_,hxa,anv⟩:=Ge hV hk ha GX;apply Ji;rw[GX];simp only[aD.key,T0]at e;obtain⟨x1,x2,x3,x4,x5⟩:=x;simp_all
theorem Tr(hV:dE T)(hk:∀r∈l,fh T r=true){n:Nat}(hx:x∈ba T l n):Sc l x:=by
 obtain⟨a,_,hx⟩:=an3.1 hx;unfold oV at hx;cases ha:l[a]? with
 |none=>rw[ha]at hx;cases hx
 |some r=>
  rw[ha]at hx;simp only[kv,anO,aph]at hx;rcases hx with hx|⟨g,hg,hx⟩
  ·grind [fp,Option.toList_some,List.mem_singleton,Ge]
  ·exact(DF hV ha hg hx).1
theorem akh(hV:dE T)(hk:∀r∈l,fh T r=true)(hx:x∈oV T l a):x.a=a:=by
 unfold oV at hx;cases ha:l[a]? with
 |none=>rw[ha]at hx;cases hx
 |some r=>
  rw[ha]at hx;simp only[kv,anO,aph]at hx;rcases hx with hx|⟨g,hg,hx⟩
  ·cases hs:fp T l a r with
   |none=>rw[hs]at hx;cases hx
   |some z=>rw[hs]at hx;simp only[ap6,aoq]at hx;subst hx;exact(Ge hV hk ha hs).2.1
  ·exact(DF hV ha hg hx).2.1
theorem Zj(hV:dE T)(hk:∀r∈l,fh T r=true)(n:Nat):(ba T l n).Pairwise fun x y=>x.key≠y.key:=by
 unfold ba;rw[aoD];refine⟨fun a _=>?_,?_⟩
 ·unfold oV;cases ha:l[a]? with
  |none=>simp
  |some r=>exact M1 hV hk ha
 ·refine aom (R:=fun a b=>a≠b) (fun{a b}_ _ h x hx y hy e=>?_) apC;have h1:=akh hV hk hx;have h2:=akh hV hk hy;have:x.a=y.a:=congrArg (fun k=>k.1) e;omega
theorem B3{a b:Int}(ha:rz a=true)(hb:rz b=true){n:Nat}(hn:a+n≤b+1)(hr:r∈bU T a n):fh T r=true:=by obtain⟨d,hd,hr⟩:=an3.1 hr;have ah2:=zX hr;have hdl:=an0.1 hd;have h1:=(ry a).1 ha;have h2:=(ry b).1 hb;unfold fh;rw[OF,te,ah2];grind [ry]
theorem Rq{a b:Int}(ha:rz a=true)(hb:rz b=true){n:Nat}(hn:a+n≤b+1):Wv T (bU T a n)=none:=by
 unfold Wv;rw[ap3];intro k hk;have kh:=an0.1 hk;unfold M0;rw[ta kh];simp only;rw[B3 ha hb hn (agZ kh)];have DN:lY (bU T a n) (bU T a n)[k].key k=none:=by unfold lY;rw[apj];intro j hj;have hjk:=an0.1 hj;have hp:=an8.1 (Bj T a n) j k (by omega) kh hjk;grind [MZ]
 rw[DN];simp
end Go.Ab.Tt
