import Derived.Test.YtmbihgjlollbeaaGreatAbSortK
import Derived.Test.YtmbihgjlollbeaaGreatAbSortOk
import Derived.Shelf.SlSortCmp.NoneTotal
set_option linter.unusedVariables false
set_option linter.unusedSimpArgs false
namespace Go.Ab
open Go.Proofs Go.Shelf
set_option maxRecDepth 100000
section
variable {P:Program} {G:Nat→Option (List PV)} {w0:bx} {μ:Ro} {φ:Nat→aA} {m:Mem} {w w':World}
def rR:PV→Value
 |.int k n=>.int k n
 |.bool b=>.bool b
 |.str s=>.string ⟨s.toArray⟩
 |_=>.bool false
theorem UW{p:PV}{x:Value}(h:ai P μ p x)(hs:aaL p=true):x=rR p∧(∀μ',ai P μ' p (rR p))∧(rR p).oneCell'=true:=by
 cases h<;>first|(cases hs;done)|skip
 ·exact⟨rfl,fun _=>.int ‹_›,rfl⟩
 ·exact⟨rfl,fun _=>.bool,rfl⟩
 ·exact⟨rfl,fun _=>.str ‹_›,rfl⟩
theorem av.ahw{α:Type}[Inhabited α](kk:Nat)(hk0:0<kk)(enc:α→List Value)(val:α→List PV)(abT:∀x,enc x=(val x).map rR)(RB:∀x,(val x).length=kk)(DP:∀x,∀p∈val x,ai P μ p (rR p)∧(rR p).oneCell'=true)(hM:av P G w0 μ φ m w){id g:Nat}{et:TypeId}{es:List PV}(hm:m id=some (.arr kk et es))(hg:(φ id).g=some g)(mm:Nat)(os:Array Obj)(dk:Array α)(hd:dk.size=es.length):av P G w0 μ φ (ao m id (.arr kk et (eE (dk.toList.map val)))) (sortWorldK enc kk w g 0 mm dk os):=by
 have hA:=hM.dx id _ hm;have hA:aH P μ φ w id kk et es:=hA;obtain⟨a1,a2,a3,a4,a5,a6,a7⟩:=hA;rw[hg]at a7;obtain⟨c,T,c1,c2,c3,c4,c5⟩:=a7;have ahx:g<w.heap.size:=(abi.1 c1).1;obtain⟨F,hF⟩:∃F,F=Go.Sort.flatK enc kk dk:=⟨_,rfl⟩;have hFs:F.size=dk.size*kk:=by rw[hF];simp
 have KY:∀k,(Go.Sort.putRow _root_.id (Go.Sort.ahead w mm) g 0 F).heap[k]?=if k=g then some (.cells (Go.Sort.putCells _root_.id 0 F c) T (0,0))else w.heap[k]?:=fun k=>by
  unfold Go.Sort.putRow Go.Sort.mapBlock Go.Sort.ahead;simp only[akC];by_cases e:g=k
  ·simp_all[Go.Sort.onCells]
  grind
 have Nb:(Go.Sort.putCells _root_.id 0 F c).size=c.size:=by simp[Go.Sort.putCells]
 have qI:dk.size*kk≤c.size:=ajQ (agw _ (by omega)) c2;have AH:∀k,k<dk.size*kk→(Go.Sort.putCells _root_.id 0 F c)[k]?=some ((enc dk[k/kk]!)[k%kk]!):=fun k hk=>by
  unfold Go.Sort.putCells;rw[Array.getElem?_mapIdx];have hkc:k<c.size:=by omega
  rw[IT hkc];simp only[ajg,ak6,aj0,true_and,hFs,hk,IS,amf,_root_.id_eq];grind [Go.Sort.get_flatK]
 have hlen:(eE (dk.toList.map val)).length=es.length:=by simp[eE,hd]
 have eX:∀(i:Nat)e,(eE (dk.toList.map val))[i]?=some e→i<dk.size∧e=yY (val dk[i]!):=fun i e he=>by simp only[eE,ak8,IN,adr]at he;grind
 have hec:∀x:α,∀j,j<kk→∃n,(enc x)[j]! =rR n∧(val x)[j]?=some n∧n∈val x:=fun x j hj=>by
  have Yl:j<(val x).length:=by rw[RB];omega
  refine⟨(val x)[j],?_,cO Yl,ajm Yl⟩;simp_all
 have h1:av P G w0 μ φ (ao m id (.arr kk et (eE (dk.toList.map val)))) (Go.Sort.putRow _root_.id (Go.Sort.ahead w mm) g 0 F):=by
  refine hM.write hm rfl hg ⟨⟨rfl,rfl,rfl,?_,fun k hk=>?_⟩,?_⟩ ?_ (fun k hk=>?_) ?_ rfl (by simp[bH.names])
  ·simp[Go.Sort.putRow,Go.Sort.mapBlock,Go.Sort.ahead]
  ·grind
  ·simp[Go.Sort.putRow,Go.Sort.mapBlock,Go.Sort.ahead]
  ·simp[Go.Sort.putRow,Go.Sort.mapBlock,Go.Sort.ahead]
  ·rw[KY k,No hk]
  ·show aH P μ φ _ id kk et _;refine⟨by omega,a2,a3,a4,fun i e he=>?_,a6,?_⟩
   ·obtain⟨_,rfl⟩:=eX i e he;simp[yY,PV.cells,RB]
   ·rw[hg];refine⟨_,T,by rw[KY g,GW rfl],by omega,by omega,fun i e j p x he hp hx=>?_,fun i x hi hx=>?_⟩
    ·obtain⟨hi,rfl⟩:=eX i e he;simp only[yY,PV.cells]at hp;have hn:=hp;have hj:j<kk:=by grind
     have bT:i*kk+j<dk.size*kk:=by have:(i+1)*kk≤dk.size*kk:=agw _ (by omega);grind
     rw[AH _ bT]at hx;have e1:(i*kk+j)/kk=i:=by rw[ali,Nat.mul_add_div hk0,Nat.div_eq_of_lt hj,akt]
     grind [Nat.mul_comm,Nat.mul_add_mod,Nat.mod_eq_of_lt,Option.some.injEq]
    grind [Option.some.injEq,Nat.mod_lt]
 have h2:av P G w0 μ φ (ao m id (.arr kk et (eE (dk.toList.map val)))) (Go.Sort.grow (Go.Sort.putRow _root_.id (Go.Sort.ahead w mm) g 0 F) os):=by
  refine h1.later ?_;refine⟨⟨rfl,rfl,rfl,?_,fun k hk=>?_⟩,fun _=>ajo _⟩
  ·simp[Go.Sort.grow]
  grind [Go.Sort.grow,Array.getElem?_append_left]
 rw[hF]at h2;exact h2
theorem I1{P:Program}{G:Nat→Option (List PV)}{ρr:Ren}(L:SlLaysF0.n6 P ρr){gs:FuncId}(hgs:ρr.f 6=gs)(ahy:∃fn c,P.funcs[gs]?=some fn∧fn.body=some c∧(fn.name== "runtime.NumGoroutine")=false){kk:Nat}(aE:∀w,(isAgg (ρr.t 24)).run P w=.ok true w)(zE:∀w,(Go.sizeOf (ρr.t 24)).run P w=.ok kk w){Zj:FuncId→Option (List PV→Option PV)}(ahz:∀g M,Zj g=some M→vc P G g M){R:Type}{args:List V}{f:Fr}{m:Mem}{k:V→Fr→Mem→Option R}{r:R}(h:yI kk Zj R args f m k=some r):IJ P G gs args f m k r:=by
 unfold yI at h;split at h
 ·rename_i id gc caps;split at h
  ·rename_i sz et es hm;split at h
   ·rename_i M hM;split at h
    ·rename_i oD;obtain⟨rfl,fg,hgb⟩:=oD;obtain⟨es',hs,hk⟩:=cT.1 h;obtain⟨ns,KX,cf,e1,e2,hf⟩:=HL hs;obtain⟨⟨fc,cc,fc1,fc2,fc3⟩,hMs⟩:=ahz gc M hM;refine⟨ahy,fun w0 μ φ ρ w xs hR hF hlen lC CN=>?_⟩;have Rk:∃x0 x1,xs= #[x0,x1]:=by
      obtain⟨l⟩:=xs;match l,hlen with
      |[x0,x1],_=>simp
      |[],h=>simp at h
      |[_],h=>simp at h
      |_::_::_::_,h=>simp at h
     obtain⟨x0,x1,rfl⟩:=Rk;have r0:=lC 0 _ x0 rfl rfl;have r1:=lC 1 _ x1 rfl rfl;have hA:aH P μ φ w id sz et es:=hR.dx id _ hm;have nothing:es=[]→∀p c,x0=.slice p 0 c→Calls P gs #[x0,x1] w fun e w'=>∃v f' m' y μ' φ',k v f' m'=some r∧e=.returned y∧av P G w0 μ' φ' m' w'∧bS P μ' φ' m' f' ρ∧af P μ' φ' v y∧∀id,v.has id=true→(m' id).isSome=true:=by
      intro he p c hx;subst hx;have Ks:ns=[]:=by simp_all[eE]
      have ahA:KX=[]:=by have:=hf.perm;simp_all
      rw[e2,ahA]at hk;have hme:ao m id (.arr sz et (eE []))=m:=KZ (by rw[hm,he];rfl);rw[hme]at hk;rw[←hgs];refine(AnyF.slices_SortFunc_none L p c x1 w).mono ?_;rintro e w' ⟨rfl,rfl⟩;exact⟨_,_,_,_,μ,φ,hk,rfl,hR,hF,.aP rfl (by simp),fun id hid=>by simp[V.has,b8]at hid⟩
     cases r0 with
     |sK hg=>obtain⟨a1,a2,a3,a4,a5,a6,a7⟩:=hA;simp_all
     | @os _ g hg=>
      have zG:=hA;obtain⟨a1,a2,a3,a4,a5,a6,a7⟩:=hA;rw[hg]at a7;obtain⟨c,T,c1,c2,c3,c4,c5⟩:=a7;by_cases JU:es=[]
      ·simp_all
      have cJ:ns≠[]:=fun h=>JU (by rw[e1,h];rfl);obtain⟨n0,hn0⟩:=List.exists_mem_of_ne_nil ns cJ;cases r1 with
      | @fn _ _ cb aja RV=>
       rw[ry hgb];let α:={n:List PV//n∈ns};let _:Inhabited α:=⟨⟨n0,hn0⟩⟩;let enc:α→List Value:=fun x=>x.1.map rR;let cf':α→α→Int:=fun x y=>cf x.1 y.1;let d:Array α:=ns.attach.toArray;have Uq:d.size=ns.length:=by grind
       have hdv:d.toList.map (fun x:α=>x.1)=ns:=by grind [List.attach_map_subtype_val]
       have hds:d.size=es.length:=by rw[e1,Uq];simp[eE]
       have RB:∀x:α,x.1.length=sz:=fun x=>hf.len _ x.2;have ajb:ns.length*sz≤c.size:=ajQ (agw _ (by omega)) c2;have UX:∀(i:Nat)(r:List PV),ns[i]?=some r→∀(j:Nat)n,r[j]?=some n→i*sz+j<c.size∧c[i*sz+j]?=some (rR n)∧(∀μ',ai P μ' n (rR n))∧(rR n).oneCell'=true:=fun i r hi j n hj=>by
        have hie:es[i]?=some (yY r):=by rw[e1];simp[eE,hi]
        have Tp:i<ns.length:=(By.1 hi).1;have zK:j<sz:=by grind
        have bT:i*sz+j<c.size:=by have:(i+1)*sz≤ns.length*sz:=agw _ (by omega);grind
        have:=c4 i _ j n c[i*sz+j] hie (by simp[yY,PV.cells,hj]) (IT bT);rw[IT bT];obtain⟨v1,v2,v3⟩:=UW this (hf.T9 _ (agx hi) _ (agx hj));grind
       have DP:∀x:α,∀n∈x.1,(∀μ',ai P μ' n (rR n))∧(rR n).oneCell'=true:=fun x n hn=>by grind [List.getElem?_of_mem]
       have hH:Go.Sort.HoldsK enc sz w g 0 d:=fun t ht=>by
        have ht:t<d.size*sz:=by simpa using ht
        have hti:t/sz<d.size:=Nat.div_lt_of_lt_mul (by grind);have htj:t%sz<sz:=al4 _ a4;have hdj:ns[t/sz]?=some d[t/sz]!.1:=by grind
        have zK:t%sz<d[t/sz]!.1.length:=by rw[RB];omega
        obtain⟨h1,h2,h3⟩:=UX _ _ hdj _ _ (cO zK);have het:t/sz*sz+t%sz=t:=by simp[ali,Nat.div_add_mod]
        rw[het]at h1 h2;have hfl:(Go.Sort.flatK enc sz d)[t]! =rR (d[t/sz]!.1[t%sz]):=by grind [Go.Sort.get_flatK,rR]
        refine⟨?_,?_⟩
        ·rw[hfl];simp only[World.cell?,c1,aj0,h2,alD,cQ,S3,_root_.id_eq]
        ·simp only[World.frozen?,c1,aj0];simp
       have hO:Go.Sort.SWO (ltOf cf'):=by
        refine⟨fun x=>?_,fun x y z h1 h2=>?_,fun x y z h1 h2=>?_⟩
        ·simp only[ltOf,akj];exact hf.irrefl x.1 x.2
        ·simp only[ltOf,AT]at h1 h2⊢;exact hf.trans _ x.2 _ y.2 _ z.2 h1 h2
        ·simp only[ltOf,akj]at h1 h2⊢;intro h3;by_cases h4:cf y.1 x.1<0
         ·exact h2 (hf.trans _ y.2 _ x.2 _ z.2 h4 h3)
         ·have:=hf.total _ x.2 _ y.2 h1 h4;grind
       have mS:=fun(mm:Nat)(os:Array Obj)(dk:Array α)(hd:dk.size=d.size)=>av.ahw sz a4 enc (fun x=>x.1) (fun _=>rfl) RB (fun x p hp=>⟨(DP x p hp).1 _,(DP x p hp).2⟩) hR hm hg mm os dk (by omega);have hrp:∀x:α,ai P (fun _=>none) (yY x.1) (.agg (enc x).toArray):=fun x=>by
        refine .agg (by simp[enc]) (fun i p y hp hy=>?_) (fun i y hy=>?_)
        ·grind
        grind
       have ahB:CmpLays P gc cb enc sz cf' g 0 d.size w:=by
        intro mm os dk hd x y;have hW:=mS mm os dk hd;have hr:=hf.reads (dk.toList.map fun x=>x.1) (by simp_all) (fun z hz=>by grind) x.1 x.2 y.1 y.2;obtain⟨ps,pM,hMp⟩:=cT.1 hr;obtain⟨p1,p2⟩:=gP pM;refine(hMs _ _ hMp _ (kg _) _ (fun _ _ h=>h) (fun g cs hg=>(hW.aG g cs hg).mono hW.yw) (by simp;omega) (fun i q z hq hz=>?_)).mono ?_
        ·match i with
         |0=>
          rw[akp (by simp)]at hz;have e3:q=yY x.1:=by simpa using hq.symm
          have e4:z=.agg (enc x).toArray:=by simpa using hz.symm
          rw[e3,e4];exact(hrp x).mono (fun _ _ h=>by cases h)
         |1=>
          rw[akp (by simp)]at hz;have e3:q=yY y.1:=by simpa using hq.symm
          have e4:z=.agg (enc y).toArray:=by simpa using hz.symm
          rw[e3,e4];exact(hrp y).mono (fun _ _ h=>by cases h)
         |i+2=>
          simp only[akN]at hq;obtain⟨u,hu,vZ⟩:=p2 i q hq;have hz':cb[i]?=some z:=by rw[Array.getElem?_append_right (by simp)]at hz;simpa using hz
          exact uo hW hW.yw (fun _ _ _ _ _=>rfl) _ vZ (RV i u z hu hz')
        ·rintro e w' ⟨v,rfl,hb,hv⟩;cases hv with
         |int _=>exact⟨rfl,UY hb⟩
       have Yy:g<w.heap.size:=(abi.1 c1).1;have O6:d.size<4611686018427387904:=by grind [ah,decide]
       have uv:∀x:α,∀v∈enc x,v.oneCell'=true:=fun x v hv=>by grind
       have zq:=AnyQ.slices_SortFunc L sz aE zE enc (fun x=>by simp[enc,RB]) uv cf' hO gc cb g 0 (φ id).cap d w (fun a W=>yE fc1 fc3 fc2) ahB hH Yy O6;rw[hgs]at zq;have Rk:Value.slice (some ⟨g,0,none⟩) (φ id).len (φ id).cap=Value.slice (some ⟨g,0,none⟩) d.size (φ id).cap:=by rw[a1,hds]
       rw[Rk];refine zq.mono ?_;rintro e w' ⟨rfl,d',n,os,hp,Rq,rfl⟩;have hW:=mS n os d' hp.1;have aeg:(d'.toList.map fun x=>x.1).Perm ns:=by
        have h3:=hp.2.2;have e3:d'.extract 0 d.size=d':=by rw[←hp.1];simp
        grind
       have ahC:(d'.toList.map fun x=>x.1).Pairwise fun a b=>¬cf b a<0:=by
        rw[List.pairwise_map,aj6];intro i j hi hj To;have qH:i<d'.size:=by omega
        have Yl:j<d'.size:=by omega
        have:=Rq i j (ak6 _) To (by rw[←hp.1];omega);grind [ltOf,decide_eq_false_iff_not]
       have heq:(d'.toList.map fun x=>x.1)=KX:=kP.unique (c1:=cf) (c2:=cf) ⟨hf.len,hf.T9,aeg,hf.reads,hf.irrefl,hf.trans,hf.total,ahC⟩ hf;rw[heq,←e2]at hW;exact⟨_,_,_,_,μ,φ,hk,rfl,hW,hF.nh (fun _ _ h=>h) (.set),.aP rfl (by simp),fun id hid=>by simp[V.has,b8]at hid⟩
    ·cases h
   ·cases h
  ·cases h
 ·cases h
end
end Go.Ab
