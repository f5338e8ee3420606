import Derived.Test.YtmbihgjlollbeaaGreatAbSortK
import Derived.Test.YtmbihgjlollbeaaGreatAbSortOk
import Derived.Shelf.SlSortCmp.NoneTotal
set_option linter.unusedVariables false
set_option linter.unusedSimpArgs false
namespace Go.Ab
open Go.Proofs Go.Shelf
set_option maxRecDepth 100000
section
variable {P:Program} {G:Nat→Option (List PV)} {w0:bw} {μ:Ro} {φ:Nat→aA} {m:Mem} {w w':World}
def nP:PV→Value
 |.int k n=>.int k n
 |.bool b=>.bool b
 |.str s=>.string ⟨s.toArray⟩
 |_=>.bool false
theorem Vd{p:PV}{x:Value}(h:ah P μ p x)(hs:Zn p=true):x=nP p∧(∀μ',ah P μ' p (nP p))∧(nP p).oneCell'=true:=by
 cases h<;>first|(cases hs;done)|skip
 ·exact⟨rfl,fun _=>.int ‹_›,rfl⟩
 ·exact⟨rfl,fun _=>.bool,rfl⟩
 ·exact⟨rfl,fun _=>.str ‹_›,rfl⟩
theorem av.agR{α:Type}[Inhabited α](kk:Nat)(hk0:0<kk)(enc:α→List Value)(val:α→List PV)(XO:∀x,enc x=(val x).map nP)(Uv:∀x,(val x).length=kk)(zi:∀x,∀p∈val x,ah P μ p (nP p)∧(nP p).oneCell'=true)(hM:av P G w0 μ φ m w){id g:Nat}{et:TypeId}{es:List PV}(hm:m id=some (.arr kk et es))(hg:(φ id).g=some g)(mm:Nat)(os:Array Obj)(dk:Array α)(hd:dk.size=es.length):av P G w0 μ φ (al m id (.arr kk et (eh (dk.toList.map val)))) (sortWorldK enc kk w g 0 mm dk os):=by
 have hA:=hM.dw id _ hm;have hA:aH P μ φ w id kk et es:=hA;obtain⟨a1,a2,a3,a4,a5,a6,a7⟩:=hA;rw[hg]at a7;obtain⟨c,T,c1,c2,c3,c4,c5⟩:=a7;have agS:g<w.heap.size:=(OF.1 c1).1;obtain⟨F,hF⟩:∃F,F=Go.Sort.flatK enc kk dk:=⟨_,rfl⟩;have hFs:F.size=dk.size*kk:=by rw[hF];simp
 have Eg:∀k,(Go.Sort.putRow _root_.id (Go.Sort.ahead w mm) g 0 F).heap[k]?=if k=g then some (.cells (Go.Sort.putCells _root_.id 0 F c) T (0,0))else w.heap[k]?:=fun k=>by
  unfold Go.Sort.putRow Go.Sort.mapBlock Go.Sort.ahead;simp only[ajR];by_cases e:g=k
  ·subst e;simp[c1,Go.Sort.onCells]
  ·rw[By e,By fun h=>e h.symm]
 have Tz:(Go.Sort.putCells _root_.id 0 F c).size=c.size:=by simp[Go.Sort.putCells]
 have od:dk.size*kk≤c.size:=ajq (ZG _ (by omega)) c2;have xx:∀k,k<dk.size*kk→(Go.Sort.putCells _root_.id 0 F c)[k]?=some ((enc dk[k/kk]!)[k%kk]!):=fun k hk=>by
  unfold Go.Sort.putCells;rw[alb];have hkc:k<c.size:=by omega
  rw[IN hkc];simp only[aff,alo,ajk,true_and,hFs,hk,IS,alz,_root_.id_eq];rw[hF,Go.Sort.get_flatK _ _ _ _ hk]
 have hlen:(eh (dk.toList.map val)).length=es.length:=by simp[eh,hd]
 have fh:∀(i:Nat)e,(eh (dk.toList.map val))[i]?=some e→i<dk.size∧e=xg (val dk[i]!):=fun i e he=>by
  simp only[eh,akt,GP,Yo]at he;obtain⟨x,hx,rfl⟩:=he;have hi:i<dk.size:=by have:=(AT.1 hx).1;simpa using this
  refine⟨hi,?_⟩;have:dk[i]! =x:=by rw[getElem!_pos dk i hi];simpa[hi]using hx
  rw[this];rfl
 have hec:∀x:α,∀j,j<kk→∃n,(enc x)[j]! =nP n∧(val x)[j]?=some n∧n∈val x:=fun x j hj=>by
  have Jo:j<(val x).length:=by rw[Uv];exact hj
  refine⟨(val x)[j],?_,cO Jo,aiZ Jo⟩;rw[XO,getElem!_pos _ j (by simpa using Jo)];simp
 have h1:av P G w0 μ φ (al m id (.arr kk et (eh (dk.toList.map val)))) (Go.Sort.putRow _root_.id (Go.Sort.ahead w mm) g 0 F):=by
  refine hM.write hm rfl hg ⟨⟨rfl,rfl,rfl,?_,fun k hk=>?_⟩,?_⟩ ?_ (fun k hk=>?_) ?_ rfl (by simp[bF.names])
  ·simp[Go.Sort.putRow,Go.Sort.mapBlock,Go.Sort.ahead]
  ·rw[Eg k,By (by omega)]
  ·simp[Go.Sort.putRow,Go.Sort.mapBlock,Go.Sort.ahead]
  ·simp[Go.Sort.putRow,Go.Sort.mapBlock,Go.Sort.ahead]
  ·rw[Eg k,By hk]
  ·show aH P μ φ _ id kk et _;refine⟨by rw[a1,hlen],a2,a3,a4,fun i e he=>?_,a6,?_⟩
   ·obtain⟨_,rfl⟩:=fh i e he;simp[xg,PV.cells,Uv]
   ·rw[hg];refine⟨_,T,by rw[Eg g,AI rfl],by rw[Tz];exact c2,by rw[hlen];exact c3,fun i e j p x he hp hx=>?_,fun i x hi hx=>?_⟩
    ·obtain⟨hi,rfl⟩:=fh i e he;simp only[xg,PV.cells]at hp;have hn:=hp;have hj:j<kk:=by have:=(AT.1 hn).1;rw[Uv]at this;exact this
     have bT:i*kk+j<dk.size*kk:=by have:(i+1)*kk≤dk.size*kk:=ZG _ (by omega);rw[Nat.succ_mul]at this;omega
     rw[xx _ bT]at hx;have e1:(i*kk+j)/kk=i:=by rw[akl,Nat.mul_add_div hk0,Nat.div_eq_of_lt hj,akj]
     have e2:(i*kk+j)%kk=j:=by rw[akl,ala,ajP hj]
     rw[e1,e2]at hx;obtain⟨n',h1,h2,h3⟩:=hec dk[i]! j hj;rw[h1]at hx;rw[hn]at h2;simp only[cN]at hx h2;subst hx;subst h2;exact(zi _ _ h3).1
    ·rw[hlen,←hd]at hi;rw[xx i hi]at hx;simp only[cN]at hx;subst hx;obtain⟨n',h1,_,h3⟩:=hec dk[i/kk]! (i%kk) (alk _ hk0);rw[h1];exact(zi _ _ h3).2
 have h2:av P G w0 μ φ (al m id (.arr kk et (eh (dk.toList.map val)))) (Go.Sort.grow (Go.Sort.putRow _root_.id (Go.Sort.ahead w mm) g 0 F) os):=by
  refine h1.later ?_;refine⟨⟨rfl,rfl,rfl,?_,fun k hk=>?_⟩,fun _=>aiJ _⟩
  ·simp[Go.Sort.grow]
  ·unfold Go.Sort.grow;rw[ajA hk]
 rw[hF]at h2;exact h2
theorem Hr{P:Program}{G:Nat→Option (List PV)}{ρr:Ren}(L:SlLaysF0.n6 P ρr){gs:FuncId}(hgs:ρr.f 6=gs)(agT:∃fn c,P.funcs[gs]?=some fn∧fn.body=some c∧(fn.name== "runtime.NumGoroutine")=false){kk:Nat}(aE:∀w,(isAgg (ρr.t 24)).run P w=.ok true w)(zE:∀w,(Go.sizeOf (ρr.t 24)).run P w=.ok kk w){XN:FuncId→Option (List PV→Option PV)}(agU:∀g M,XN g=some M→tz P G g M){R:Type}{args:List V}{f:Fr}{m:Mem}{k:V→Fr→Mem→Option R}{r:R}(h:wY kk XN R args f m k=some r):Hf P G gs args f m k r:=by
 unfold wY at h;split at h
 ·rename_i id gc caps;split at h
  ·rename_i sz et es hm;split at h
   ·rename_i M hM;split at h
    ·rename_i mI;obtain⟨rfl,gn,hgb⟩:=mI;obtain⟨es',hs,hk⟩:=cQ.1 h;obtain⟨ns,Ki,cf,e1,e2,hf⟩:=Gm hs;obtain⟨⟨fc,cc,fc1,fc2,fc3⟩,hMs⟩:=agU gc M hM;refine⟨agT,fun w0 μ φ ρ w xs hR hF hlen jR BG=>?_⟩;have MO:∃x0 x1,xs= #[x0,x1]:=by
      obtain⟨l⟩:=xs;match l,hlen with
      |[x0,x1],_=>exact⟨x0,x1,rfl⟩
      |[],h=>simp at h
      |[_],h=>simp at h
      |_::_::_::_,h=>simp at h
     obtain⟨x0,x1,rfl⟩:=MO;have r0:=jR 0 _ x0 rfl rfl;have r1:=jR 1 _ x1 rfl rfl;have hA:aH P μ φ w id sz et es:=hR.dw id _ hm;have nothing:es=[]→∀p c,x0=.slice p 0 c→Calls P gs #[x0,x1] w fun e w'=>∃v f' m' y μ' φ',k v f' m'=some r∧e=.returned y∧av P G w0 μ' φ' m' w'∧bU P μ' φ' m' f' ρ∧ag P μ' φ' v y∧∀id,v.has id=true→(m' id).isSome=true:=by
      intro he p c hx;subst hx;have F0:ns=[]:=by
       have:eh ns=[]:=by rw[←e1];exact he
       simpa[eh]using this
      have agV:Ki=[]:=by have:=hf.perm;rw[F0]at this;exact List.Perm.eq_nil this
      rw[e2,agV]at hk;have hme:al m id (.arr sz et (eh []))=m:=Kj (by rw[hm,he];rfl);rw[hme]at hk;rw[←hgs];refine(AnyF.slices_SortFunc_none L p c x1 w).mono ?_;rintro e w' ⟨rfl,rfl⟩;exact⟨_,_,_,_,μ,φ,hk,rfl,hR,hF,.aP rfl (by simp),fun id hid=>by simp[V.has,cd]at hid⟩
     cases r0 with
     |qY hg=>obtain⟨a1,a2,a3,a4,a5,a6,a7⟩:=hA;rw[hg]at a7;exact nothing a7.1 _ _ rfl
     | @os _ g hg=>
      have xq:=hA;obtain⟨a1,a2,a3,a4,a5,a6,a7⟩:=hA;rw[hg]at a7;obtain⟨c,T,c1,c2,c3,c4,c5⟩:=a7;by_cases F8:es=[]
      ·refine nothing F8 (some ⟨g,0,none⟩) (φ id).cap ?_;rw[a1,F8];rfl
      have dh:ns≠[]:=fun h=>F8 (by rw[e1,h];rfl);obtain⟨n0,hn0⟩:=List.exists_mem_of_ne_nil ns dh;cases r1 with
      | @fn _ _ cb aix Eh=>
       rw[pM hgb];let α:={n:List PV//n∈ns};let _:Inhabited α:=⟨⟨n0,hn0⟩⟩;let enc:α→List Value:=fun x=>x.1.map nP;let cf':α→α→Int:=fun x y=>cf x.1 y.1;let d:Array α:=ns.attach.toArray;have M8:d.size=ns.length:=by show ns.attach.toArray.size=ns.length;rw[ajj];exact List.length_attach
       have hdv:d.toList.map (fun x:α=>x.1)=ns:=by show ns.attach.toArray.toList.map (fun x=>x.1)=ns;exact List.attach_map_subtype_val ns
       have hds:d.size=es.length:=by rw[e1,M8];simp[eh]
       have Uv:∀x:α,x.1.length=sz:=fun x=>hf.len _ x.2;have aiy:ns.length*sz≤c.size:=ajq (ZG _ (by rw[←M8,hds];exact c3)) c2;have Zo:∀(i:Nat)(r:List PV),ns[i]?=some r→∀(j:Nat)n,r[j]?=some n→i*sz+j<c.size∧c[i*sz+j]?=some (nP n)∧(∀μ',ah P μ' n (nP n))∧(nP n).oneCell'=true:=fun i r hi j n hj=>by
        have hie:es[i]?=some (xg r):=by rw[e1];simp[eh,hi]
        have hil:i<ns.length:=(AT.1 hi).1;have Cq:j<sz:=by have:=(AT.1 hj).1;rw[hf.len _ (abV hi)]at this;exact this
        have bT:i*sz+j<c.size:=by have:(i+1)*sz≤ns.length*sz:=ZG _ (by omega);rw[Nat.succ_mul]at this;omega
        have:=c4 i _ j n c[i*sz+j] hie (by simp[xg,PV.cells,hj]) (IN bT);rw[IN bT];obtain⟨v1,v2,v3⟩:=Vd this (hf.Up _ (abV hi) _ (abV hj));exact⟨bT,by rw[v1],v2,v3⟩
       have zi:∀x:α,∀n∈x.1,(∀μ',ah P μ' n (nP n))∧(nP n).oneCell'=true:=fun x n hn=>by obtain⟨i,hi⟩:=aiU x.2;obtain⟨j,hj⟩:=aiU hn;exact(Zo i _ hi j n hj).2.2
       have hH:Go.Sort.HoldsK enc sz w g 0 d:=fun t ht=>by
        have ht:t<d.size*sz:=by simpa using ht
        have hti:t/sz<d.size:=Nat.div_lt_of_lt_mul (by rw[akl];exact ht);have WN:t%sz<sz:=alk _ a4;have hdj:ns[t/sz]?=some d[t/sz]!.1:=by
         rw[getElem!_pos d _ hti];have h7:(d.toList.map (fun x:α=>x.1))[t/sz]?=ns[t/sz]?:=by rw[hdv]
         rw[←h7,GP,aiM,IN hti];rfl
        have Cq:t%sz<d[t/sz]!.1.length:=by rw[Uv];exact WN
        obtain⟨h1,h2,h3⟩:=Zo _ _ hdj _ _ (cO Cq);have het:t/sz*sz+t%sz=t:=by rw[akl];exact Nat.div_add_mod t sz
        rw[het]at h1 h2;have hfl:(Go.Sort.flatK enc sz d)[t]! =nP (d[t/sz]!.1[t%sz]):=by rw[Go.Sort.get_flatK _ _ _ _ ht];show(d[t/sz]!.1.map nP)[t%sz]! =_;rw[getElem!_pos _ _ (by simpa using Cq)];simp
        refine⟨?_,?_⟩
        ·rw[hfl];simp only[World.cell?,c1,ajk,h2,akQ,cT,T1,_root_.id_eq]
        ·simp only[World.frozen?,c1,ajk];simp
       have hO:Go.Sort.SWO (ltOf cf'):=by
        refine⟨fun x=>?_,fun x y z h1 h2=>?_,fun x y z h1 h2=>?_⟩
        ·simp only[ltOf,aiQ];exact hf.irrefl x.1 x.2
        ·simp only[ltOf,IL]at h1 h2⊢;exact hf.trans _ x.2 _ y.2 _ z.2 h1 h2
        ·simp only[ltOf,aiQ]at h1 h2⊢;intro h3;by_cases h4:cf y.1 x.1<0
         ·exact h2 (hf.trans _ y.2 _ x.2 _ z.2 h4 h3)
         ·have:=hf.total _ x.2 _ y.2 h1 h4;have h5:x=y:=Subtype.ext this;subst h5;exact h2 h3
       have jT:=fun(mm:Nat)(os:Array Obj)(dk:Array α)(hd:dk.size=d.size)=>av.agR sz a4 enc (fun x=>x.1) (fun _=>rfl) Uv (fun x p hp=>⟨(zi x p hp).1 _,(zi x p hp).2⟩) hR hm hg mm os dk (by rw[hd,hds]);have hrp:∀x:α,ah P (fun _=>none) (xg x.1) (.agg (enc x).toArray):=fun x=>by
        refine .agg (by simp[enc]) (fun i p y hp hy=>?_) (fun i y hy=>?_)
        ·have hy:(x.1.map nP).toArray[i]?=some y:=hy;rw[ai0,GP,hp]at hy;simp only[aff,cN]at hy;rw[←hy];exact(zi x p (abV hp)).1 _
        ·have hy:(x.1.map nP).toArray[i]?=some y:=hy;rw[ai0,GP,Yo]at hy;obtain⟨n,hn,rfl⟩:=hy;exact(zi x n (abV hn)).2
       have agW:CmpLays P gc cb enc sz cf' g 0 d.size w:=by
        intro mm os dk hd x y;have hW:=jT mm os dk hd;have hr:=hf.reads (dk.toList.map fun x=>x.1) (by rw[ahj,ajD,hd,M8]) (fun z hz=>by obtain⟨q,_,rfl⟩:=aiR.1 hz;exact q.2) x.1 x.2 y.1 y.2;obtain⟨ps,oa,hMp⟩:=cQ.1 hr;obtain⟨p1,p2⟩:=gr oa;refine(hMs _ _ hMp _ (jf _) _ (fun _ _ h=>h) (fun g cs hg=>(hW.aF g cs hg).mono hW.wO) (by simp;omega) (fun i q z hq hz=>?_)).mono ?_
        ·match i with
         |0=>
          rw[ajA (by simp)]at hz;have e3:q=xg x.1:=by simpa using hq.symm
          have e4:z=.agg (enc x).toArray:=by simpa using hz.symm
          rw[e3,e4];exact(hrp x).mono (fun _ _ h=>by cases h)
         |1=>
          rw[ajA (by simp)]at hz;have e3:q=xg y.1:=by simpa using hq.symm
          have e4:z=.agg (enc y).toArray:=by simpa using hz.symm
          rw[e3,e4];exact(hrp y).mono (fun _ _ h=>by cases h)
         |i+2=>
          simp only[aj2]at hq;obtain⟨u,hu,uS⟩:=p2 i q hq;have Ua:cb[i]?=some z:=by rw[Array.getElem?_append_right (by simp)]at hz;simpa using hz
          exact sF hW hW.wO (fun _ _ _ _ _=>rfl) _ uS (Eh i u z hu Ua)
        ·rintro e w' ⟨v,rfl,hb,hv⟩;cases hv with
         |int _=>exact⟨rfl,Ve hb⟩
       have Z1:g<w.heap.size:=(OF.1 c1).1;have Qw:d.size<4611686018427387904:=by
        have h2:ar<4611686018427387904:=by decide
        omega
       have sI:∀x:α,∀v∈enc x,v.oneCell'=true:=fun x v hv=>by obtain⟨n,hn,rfl⟩:=aiR.1 hv;exact(zi x n hn).2
       have zC:=AnyQ.slices_SortFunc L sz aE zE enc (fun x=>by simp[enc,Uv]) sI cf' hO gc cb g 0 (φ id).cap d w (fun a W=>wU fc1 fc3 fc2) agW hH Z1 Qw;rw[hgs]at zC;have MO:Value.slice (some ⟨g,0,none⟩) (φ id).len (φ id).cap=Value.slice (some ⟨g,0,none⟩) d.size (φ id).cap:=by rw[a1,hds]
       rw[MO];refine zC.mono ?_;rintro e w' ⟨rfl,d',n,os,hp,Xl,rfl⟩;have hW:=jT n os d' hp.1;have acZ:(d'.toList.map fun x=>x.1).Perm ns:=by
        have h3:=hp.2.2;have e3:d'.extract 0 d.size=d':=by rw[←hp.1];exact Array.extract_size
        rw[e3,Array.extract_size]at h3;have h4:=h3.map (fun x:α=>x.1);rw[hdv]at h4;exact h4
       have agX:(d'.toList.map fun x=>x.1).Pairwise fun a b=>¬cf b a<0:=by
        rw[List.pairwise_map,ajW];intro i j hi hj Y5;have oc:i<d'.size:=by simpa using hi
        have Jo:j<d'.size:=by simpa using hj
        have:=Xl i j (alo _) Y5 (by rw[←hp.1];exact Jo);rw[getElem!_pos d' j Jo,getElem!_pos d' i oc]at this;simp only[ltOf,aiQ]at this;simpa using this
       have heq:(d'.toList.map fun x=>x.1)=Ki:=jE.unique (c1:=cf) (c2:=cf) ⟨hf.len,hf.Up,acZ,hf.reads,hf.irrefl,hf.trans,hf.total,agX⟩ hf;rw[heq,←e2]at hW;exact⟨_,_,_,_,μ,φ,hk,rfl,hW,hF.lS (fun _ _ h=>h) (.set),.aP rfl (by simp),fun id hid=>by simp[V.has,cd]at hid⟩
    ·cases h
   ·cases h
  ·cases h
 ·cases h
end
end Go.Ab
