import Derived.Test.YtmbihgjlollbeaaGreatAbSortK
import Derived.Test.YtmbihgjlollbeaaGreatAbSortOk
import Derived.Shelf.SlSortCmp.NoneTotal
set_option linter.all false
namespace Go.Ab
open Go.Proofs Go.Shelf
set_option maxRecDepth 100000
section
variable {P:Program} {G:Nat→Option (List PV)} {w0:bA} {μ:Ro} {φ:Nat→aA} {m:Mem} {w w':World}
def sx:PV→Value
 |.int k n=>.int k n
 |.bool b=>.bool b
 |.str s=>.string ⟨s.toArray⟩
 |_=>.bool false
theorem V5{p:PV}{x:Value}(h:ah P μ p x)(hs:ab2 p=true):x=sx p∧(∀μ',ah P μ' p (sx p))∧(sx p).oneCell'=true:=by
 cases h<;>first|(cases hs;done)|skip
 ·exact⟨rfl,fun _=>.int ‹_›,rfl⟩
 ·exact⟨rfl,fun _=>.bool,rfl⟩
 ·exact⟨rfl,fun _=>.str ‹_›,rfl⟩
theorem av.aiv{α:Type}[Inhabited α](kk:Nat)(hk0:0<kk)(enc:α→List Value)(val:α→List PV)(adf:∀x,enc x=(val x).map sx)(SG:∀x,(val x).length=kk)(Eb:∀x,∀p∈val x,ah P μ p (sx p)∧(sx p).oneCell'=true)(hM:av P G w0 μ φ m w){id g:Nat}{et:TypeId}{es:List PV}(hm:m id=some (.arr kk et es))(hg:(φ id).g=some g)(mm:Nat)(os:Array Obj)(dk:Array α)(hd:dk.size=es.length):av P G w0 μ φ (ao m id (.arr kk et (eH (dk.toList.map val)))) (sortWorldK enc kk w g 0 mm dk os):=by
 have hA:=hM.dy id _ hm;have hA:aH P μ φ w id kk et es:=hA;obtain⟨a1,a2,a3,a4,a5,a6,a7⟩:=hA;rw[hg]at a7;obtain⟨c,T,c1,c2,c3,c4,c5⟩:=a7;have aiw:g<w.heap.size:=(abq.1 c1).1;obtain⟨F,hF⟩:∃F,F=Go.Sort.flatK enc kk dk:=⟨_,rfl⟩;have hFs:F.size=dk.size*kk:=by rw[hF];simp
 have LC:∀k,(Go.Sort.putRow _root_.id (Go.Sort.ahead w mm) g 0 F).heap[k]?=if k=g then some (.cells (Go.Sort.putCells _root_.id 0 F c) T (0,0))else w.heap[k]?:=fun k=>by
  unfold Go.Sort.putRow Go.Sort.mapBlock Go.Sort.ahead;simp only[alu];by_cases e:g=k
  ·simp_all[Go.Sort.onCells]
  grind
 have NT:(Go.Sort.putCells _root_.id 0 F c).size=c.size:=by simp[Go.Sort.putCells]
 have qW:dk.size*kk≤c.size:=akT (ahw _ (by omega)) c2;have Bc:∀k,k<dk.size*kk→(Go.Sort.putCells _root_.id 0 F c)[k]?=some ((enc dk[k/kk]!)[k%kk]!):=fun k hk=>by
  unfold Go.Sort.putCells;rw[Array.getElem?_mapIdx];have hkc:k<c.size:=by omega
  rw[OF hkc];simp only[akb,al4,akV,true_and,hFs,hk,Ko,anf,_root_.id_eq];grind [Go.Sort.get_flatK]
 have hlen:(eH (dk.toList.map val)).length=es.length:=by simp[eH,hd]
 have fe:∀(i:Nat)e,(eH (dk.toList.map val))[i]?=some e→i<dk.size∧e=zx (val dk[i]!):=fun i e he=>by simp only[eH,al5,IT,acG]at he;grind
 have hec:∀x:α,∀j,j<kk→∃n,(enc x)[j]! =sx n∧(val x)[j]?=some n∧n∈val x:=fun x j hj=>by
  have Zq:j<(val x).length:=by rw[SG];omega
  refine⟨(val x)[j],?_,cN Zq,aki Zq⟩;simp_all
 have h1:av P G w0 μ φ (ao m id (.arr kk et (eH (dk.toList.map val)))) (Go.Sort.putRow _root_.id (Go.Sort.ahead w mm) g 0 F):=by
  refine hM.write hm rfl hg ⟨⟨rfl,rfl,rfl,?_,fun k hk=>?_⟩,?_⟩ ?_ (fun k hk=>?_) ?_ rfl (by simp[bH.names])
  ·simp[Go.Sort.putRow,Go.Sort.mapBlock,Go.Sort.ahead]
  ·grind
  ·simp[Go.Sort.putRow,Go.Sort.mapBlock,Go.Sort.ahead]
  ·simp[Go.Sort.putRow,Go.Sort.mapBlock,Go.Sort.ahead]
  ·rw[LC k,IS hk]
  ·show aH P μ φ _ id kk et _;refine⟨by omega,a2,a3,a4,fun i e he=>?_,a6,?_⟩
   ·obtain⟨_,rfl⟩:=fe i e he;simp[zx,PV.cells,SG]
   ·rw[hg];refine⟨_,T,by rw[LC g,AI rfl],by omega,by omega,fun i e j p x he hp hx=>?_,fun i x hi hx=>?_⟩
    ·obtain⟨hi,rfl⟩:=fe i e he;simp only[zx,PV.cells]at hp;have hn:=hp;have hj:j<kk:=by grind
     have bZ:i*kk+j<dk.size*kk:=by have:(i+1)*kk≤dk.size*kk:=ahw _ (by omega);grind
     rw[Bc _ bZ]at hx;have e1:(i*kk+j)/kk=i:=by rw[amf,Nat.mul_add_div hk0,Nat.div_eq_of_lt hj,alp]
     grind [Nat.mul_comm,Nat.mul_add_mod,Nat.mod_eq_of_lt,Option.some.injEq]
    grind [Option.some.injEq,Nat.mod_lt]
 have h2:av P G w0 μ φ (ao m id (.arr kk et (eH (dk.toList.map val)))) (Go.Sort.grow (Go.Sort.putRow _root_.id (Go.Sort.ahead w mm) g 0 F) os):=by
  refine h1.later ?_;refine⟨⟨rfl,rfl,rfl,?_,fun k hk=>?_⟩,fun _=>akk _⟩
  ·simp[Go.Sort.grow]
  grind [Go.Sort.grow,Array.getElem?_append_left]
 rw[hF]at h2;exact h2
theorem Jw{P:Program}{G:Nat→Option (List PV)}{ρr:Ren}(L:SlLaysF0.n6 P ρr){gs:FuncId}(hgs:ρr.f 6=gs)(aix:∃fn c,P.funcs[gs]?=some fn∧fn.body=some c∧(fn.name== "runtime.NumGoroutine")=false){kk:Nat}(aE:∀w,(isAgg (ρr.t 24)).run P w=.ok true w)(zE:∀w,(Go.sizeOf (ρr.t 24)).run P w=.ok kk w){clo:FuncId→Option (List PV→Option PV)}(aiy:∀g M,clo g=some M→vA P G g M){R:Type}{args:List V}{f:Fr}{m:Mem}{k:V→Fr→Mem→Option R}{r:R}(h:zf kk clo R args f m k=some r):Ji P G gs args f m k r:=by
 unfold zf at h;split at h
 ·rename_i id gc caps;split at h
  ·rename_i sz et es hm;split at h
   ·rename_i M hM;split at h
    ·rename_i oP;obtain⟨rfl,fm,hgb⟩:=oP;obtain⟨es',hs,hk⟩:=cT.1 h;obtain⟨ns,LB,cf,e1,e2,hf⟩:=H9 hs;obtain⟨⟨fc,cc,fc1,fc2,fc3⟩,hMs⟩:=aiy gc M hM;refine⟨aix,fun w0 μ φ ρ w xs hR hF hlen lL C4=>?_⟩;have Ss:∃x0 x1,xs= #[x0,x1]:=by
      obtain⟨l⟩:=xs;match l,hlen with
      |[x0,x1],_=>simp
      |[],h=>simp at h
      |[_],h=>simp at h
      |_::_::_::_,h=>simp at h
     obtain⟨x0,x1,rfl⟩:=Ss;have r0:=lL 0 _ x0 rfl rfl;have r1:=lL 1 _ x1 rfl rfl;have hA:aH P μ φ w id sz et es:=hR.dy id _ hm;have nothing:es=[]→∀p c,x0=.slice p 0 c→Calls P gs #[x0,x1] w fun e w'=>∃v f' m' y μ' φ',k v f' m'=some r∧e=.returned y∧av P G w0 μ' φ' m' w'∧bR P μ' φ' m' f' ρ∧af P μ' φ' v y∧∀id,v.has id=true→(m' id).isSome=true:=by
      intro he p c hx;subst hx;have K4:ns=[]:=by simp_all[eH]
      have aiz:LB=[]:=by have:=hf.perm;simp_all
      rw[e2,aiz]at hk;have hme:ao m id (.arr sz et (eH []))=m:=LD (by rw[hm,he];rfl);rw[hme]at hk;rw[←hgs];refine(AnyF.slices_SortFunc_none L p c x1 w).mono ?_;rintro e w' ⟨rfl,rfl⟩;exact⟨_,_,_,_,μ,φ,hk,rfl,hR,hF,.aO rfl (by simp),fun id hid=>by simp[V.has,b8]at hid⟩
     cases r0 with
     |tp hg=>obtain⟨a1,a2,a3,a4,a5,a6,a7⟩:=hA;simp_all
     | @os _ g hg=>
      have Ai:=hA;obtain⟨a1,a2,a3,a4,a5,a6,a7⟩:=hA;rw[hg]at a7;obtain⟨c,T,c1,c2,c3,c4,c5⟩:=a7;by_cases Kx:es=[]
      ·simp_all
      have cK:ns≠[]:=fun h=>Kx (by rw[e1,h];rfl);obtain⟨n0,hn0⟩:=List.exists_mem_of_ne_nil ns cK;cases r1 with
      | @fn _ _ cb aj5 S2=>
       rw[sa hgb];let α:={n:List PV//n∈ns};let _:Inhabited α:=⟨⟨n0,hn0⟩⟩;let enc:α→List Value:=fun x=>x.1.map sx;let cf':α→α→Int:=fun x y=>cf x.1 y.1;let d:Array α:=ns.attach.toArray;have Vy:d.size=ns.length:=by grind
       have hdv:d.toList.map (fun x:α=>x.1)=ns:=by grind [List.attach_map_subtype_val]
       have hds:d.size=es.length:=by rw[e1,Vy];simp[eH]
       have SG:∀x:α,x.1.length=sz:=fun x=>hf.len _ x.2;have aj6:ns.length*sz≤c.size:=akT (ahw _ (by omega)) c2;have S3:∀(i:Nat)(r:List PV),ns[i]?=some r→∀(j:Nat)n,r[j]?=some n→i*sz+j<c.size∧c[i*sz+j]?=some (sx n)∧(∀μ',ah P μ' n (sx n))∧(sx n).oneCell'=true:=fun i r hi j n hj=>by
        have hie:es[i]?=some (zx r):=by rw[e1];simp[eH,hi]
        have Uv:i<ns.length:=(By.1 hi).1;have Am:j<sz:=by grind
        have bZ:i*sz+j<c.size:=by have:(i+1)*sz≤ns.length*sz:=ahw _ (by omega);grind
        have:=c4 i _ j n c[i*sz+j] hie (by simp[zx,PV.cells,hj]) (OF bZ);rw[OF bZ];obtain⟨v1,v2,v3⟩:=V5 this (hf.Vg _ (aeB hi) _ (aeB hj));grind
       have Eb:∀x:α,∀n∈x.1,(∀μ',ah P μ' n (sx n))∧(sx n).oneCell'=true:=fun x n hn=>by grind [List.getElem?_of_mem]
       have hH:Go.Sort.HoldsK enc sz w g 0 d:=fun t ht=>by
        have ht:t<d.size*sz:=by simpa using ht
        have hti:t/sz<d.size:=Nat.div_lt_of_lt_mul (by grind);have htj:t%sz<sz:=amZ _ a4;have hdj:ns[t/sz]?=some d[t/sz]!.1:=by grind
        have Am:t%sz<d[t/sz]!.1.length:=by rw[SG];omega
        obtain⟨h1,h2,h3⟩:=S3 _ _ hdj _ _ (cN Am);have het:t/sz*sz+t%sz=t:=by simp[amf,Nat.div_add_mod]
        rw[het]at h1 h2;have hfl:(Go.Sort.flatK enc sz d)[t]! =sx (d[t/sz]!.1[t%sz]):=by grind [Go.Sort.get_flatK,sx]
        refine⟨?_,?_⟩
        ·rw[hfl];simp only[World.cell?,c1,akV,h2,amw,cQ,abp,_root_.id_eq]
        ·simp only[World.frozen?,c1,akV];simp
       have hO:Go.Sort.SWO (ltOf cf'):=by
        refine⟨fun x=>?_,fun x y z h1 h2=>?_,fun x y z h1 h2=>?_⟩
        ·simp only[ltOf,akx];exact hf.irrefl x.1 x.2
        ·simp only[ltOf,AT]at h1 h2⊢;exact hf.trans _ x.2 _ y.2 _ z.2 h1 h2
        ·simp only[ltOf,akx]at h1 h2⊢;intro h3;by_cases h4:cf y.1 x.1<0
         ·exact h2 (hf.trans _ y.2 _ x.2 _ z.2 h4 h3)
         ·have:=hf.total _ x.2 _ y.2 h1 h4;grind
       have ng:=fun(mm:Nat)(os:Array Obj)(dk:Array α)(hd:dk.size=d.size)=>av.aiv sz a4 enc (fun x=>x.1) (fun _=>rfl) SG (fun x p hp=>⟨(Eb x p hp).1 _,(Eb x p hp).2⟩) hR hm hg mm os dk (by omega);have hrp:∀x:α,ah P (fun _=>none) (zx x.1) (.agg (enc x).toArray):=fun x=>by
        refine .agg (by simp[enc]) (fun i p y hp hy=>?_) (fun i y hy=>?_)
        ·grind
        grind
       have aiA:CmpLays P gc cb enc sz cf' g 0 d.size w:=by
        intro mm os dk hd x y;have hW:=ng mm os dk hd;have hr:=hf.reads (dk.toList.map fun x=>x.1) (by simp_all) (fun z hz=>by grind) x.1 x.2 y.1 y.2;obtain⟨ps,qe,hMp⟩:=cT.1 hr;obtain⟨p1,p2⟩:=gT qe;refine(hMs _ _ hMp _ (jd _) _ (fun _ _ h=>h) (fun g cs hg=>(hW.aG g cs hg).mono hW.yW) (by simp;omega) (fun i q z hq hz=>?_)).mono ?_
        ·match i with
         |0=>
          rw[alh (by simp)]at hz;have e3:q=zx x.1:=by simpa using hq.symm
          have e4:z=.agg (enc x).toArray:=by simpa using hz.symm
          rw[e3,e4];exact(hrp x).mono (fun _ _ h=>by cases h)
         |1=>
          rw[alh (by simp)]at hz;have e3:q=zx y.1:=by simpa using hq.symm
          have e4:z=.agg (enc y).toArray:=by simpa using hz.symm
          rw[e3,e4];exact(hrp y).mono (fun _ _ h=>by cases h)
         |i+2=>
          simp only[alI]at hq;obtain⟨u,hu,wF⟩:=p2 i q hq;have hz':cb[i]?=some z:=by rw[Array.getElem?_append_right (by simp)]at hz;simpa using hz
          exact uK hW hW.yW (fun _ _ _ _ _=>rfl) _ wF (S2 i u z hu hz')
        ·rintro e w' ⟨v,rfl,hb,hv⟩;cases hv with
         |int _=>exact⟨rfl,V6 hb⟩
       have ZD:g<w.heap.size:=(abq.1 c1).1;have P2:d.size<4611686018427387904:=by grind [ae,decide]
       have uO:∀x:α,∀v∈enc x,v.oneCell'=true:=fun x v hv=>by grind
       have zT:=AnyQ.slices_SortFunc L sz aE zE enc (fun x=>by simp[enc,SG]) uO cf' hO gc cb g 0 (φ id).cap d w (fun a W=>za fc1 fc3 fc2) aiA hH ZD P2;rw[hgs]at zT;have Ss:Value.slice (some ⟨g,0,none⟩) (φ id).len (φ id).cap=Value.slice (some ⟨g,0,none⟩) d.size (φ id).cap:=by rw[a1,hds]
       rw[Ss];refine zT.mono ?_;rintro e w' ⟨rfl,d',n,os,hp,Sx,rfl⟩;have hW:=ng n os d' hp.1;have afq:(d'.toList.map fun x=>x.1).Perm ns:=by
        have h3:=hp.2.2;have e3:d'.extract 0 d.size=d':=by rw[←hp.1];simp
        grind
       have aiB:(d'.toList.map fun x=>x.1).Pairwise fun a b=>¬cf b a<0:=by
        rw[List.pairwise_map,alw];intro i j hi hj Uu;have qV:i<d'.size:=by omega
        have Zq:j<d'.size:=by omega
        have:=Sx i j (al4 _) Uu (by rw[←hp.1];omega);grind [ltOf,decide_eq_false_iff_not]
       have heq:(d'.toList.map fun x=>x.1)=LB:=kY.unique (c1:=cf) (c2:=cf) ⟨hf.len,hf.Vg,afq,hf.reads,hf.irrefl,hf.trans,hf.total,aiB⟩ hf;rw[heq,←e2]at hW;exact⟨_,_,_,_,μ,φ,hk,rfl,hW,hF.nA (fun _ _ h=>h) (.set),.aO rfl (by simp),fun id hid=>by simp[V.has,b8]at hid⟩
    ·cases h
   ·cases h
  ·cases h
 ·cases h
end
end Go.Ab
