import Derived.Test.YtmbihgjlollbeaaGreatAbSortK
import Derived.Test.YtmbihgjlollbeaaGreatAbSortOk
import Derived.Shelf.SlSortCmp.NoneTotal
set_option linter.all false
namespace Go.Ab
open Go.Proofs Go.Shelf
set_option maxRecDepth 100000
section
variable {P:Program} {G:Nat→Option (List PV)} {w0:bO} {μ:Ro} {φ:Nat→aP} {m:Mem} {w w':World}
def wF:PV→Value
 |.int k n=>.int k n
 |.bool b=>.bool b
 |.str s=>.string ⟨s.toArray⟩
 |_=>.bool false
theorem ac1{p:PV}{x:Value}(h:av P μ p x)(hs:aiB p=true):x=wF p∧(∀μ',av P μ' p (wF p))∧(wF p).oneCell'=true:=by
 cases h<;>first|(cases hs;done)|skip
 ·exact⟨rfl,fun _=>.int ‹_›,rfl⟩
 ·exact⟨rfl,fun _=>.bool,rfl⟩
 ·exact⟨rfl,fun _=>.str ‹_›,rfl⟩
theorem aL.aqk{α:Type}[Inhabited α](kk:Nat)(hk0:0<kk)(enc:α→List Value)(val:α→List PV)(ajx:∀x,enc x=(val x).map wF)(Oi:∀x,(val x).length=kk)(Kj:∀x,∀p∈val x,av P μ p (wF p)∧(wF p).oneCell'=true)(hM:aL P G w0 μ φ m w){id g:Nat}{et:TypeId}{es:List PV}(hm:m id=some (.arr kk et es))(hg:(φ id).g=some g)(mm:Nat)(os:Array Obj)(dk:Array α)(hd:dk.size=es.length):aL P G w0 μ φ (aD m id (.arr kk et (fp (dk.toList.map val)))) (sortWorldK enc kk w g 0 mm dk os):=by
 have hA:=hM.dX id _ hm;have hA:aX P μ φ w id kk et es:=hA;obtain⟨a1,a2,a3,a4,a5,a6,a7⟩:=hA;rw[hg]at a7;obtain⟨c,T,c1,c2,c3,c4,c5⟩:=a7;have aql:g<w.heap.size:=(apj.1 c1).1;obtain⟨F,hF⟩:∃F,F=Go.Sort.flatK enc kk dk:=⟨_,rfl⟩;have hFs:F.size=dk.size*kk:=by rw[hF];simp
 have RQ:∀k,(Go.Sort.putRow _root_.id (Go.Sort.ahead w mm) g 0 F).heap[k]?=if k=g then some (.cells (Go.Sort.putCells _root_.id 0 F c) T (0,0))else w.heap[k]?:=fun k=>by
  unfold Go.Sort.putRow Go.Sort.mapBlock Go.Sort.ahead;simp only[atH];by_cases e:g=k
  ·simp_all[Go.Sort.onCells]
  grind
 have Ur:(Go.Sort.putCells _root_.id 0 F c).size=c.size:=by simp[Go.Sort.putCells]
 have vb:dk.size*kk≤c.size:=asZ (asj _ (by omega)) c2;have GX:∀k,k<dk.size*kk→(Go.Sort.putCells _root_.id 0 F c)[k]?=some ((enc dk[k/kk]!)[k%kk]!):=fun k hk=>by
  unfold Go.Sort.putCells;rw[Array.getElem?_mapIdx];have hkc:k<c.size:=by omega
  rw[aiX hkc];simp only[No,at7,as5,true_and,hFs,hk,BY,au6,_root_.id_eq];grind [Go.Sort.get_flatK]
 have hlen:(fp (dk.toList.map val)).length=es.length:=by simp[fp,hd]
 have eR:∀(i:Nat)e,(fp (dk.toList.map val))[i]?=some e→i<dk.size∧e=ET (val dk[i]!):=fun i e he=>by simp only[fp,atZ,AT,aqX]at he;grind
 have hec:∀x:α,∀j,j<kk→∃n,(enc x)[j]! =wF n∧(val x)[j]?=some n∧n∈val x:=fun x j hj=>by
  have TO:j<(val x).length:=by rw[Oi];omega
  refine⟨(val x)[j],?_,cN TO,aqW TO⟩;simp_all
 have h1:aL P G w0 μ φ (aD m id (.arr kk et (fp (dk.toList.map val)))) (Go.Sort.putRow _root_.id (Go.Sort.ahead w mm) g 0 F):=by
  refine hM.write hm rfl hg ⟨⟨rfl,rfl,rfl,?_,fun k hk=>?_⟩,?_⟩ ?_ (fun k hk=>?_) ?_ rfl (by simp[bX.names])
  ·simp[Go.Sort.putRow,Go.Sort.mapBlock,Go.Sort.ahead]
  ·grind
  ·simp[Go.Sort.putRow,Go.Sort.mapBlock,Go.Sort.ahead]
  ·simp[Go.Sort.putRow,Go.Sort.mapBlock,Go.Sort.ahead]
  ·rw[RQ k,IS hk]
  ·show aX P μ φ _ id kk et _;refine⟨by omega,a2,a3,a4,fun i e he=>?_,a6,?_⟩
   ·obtain⟨_,rfl⟩:=eR i e he;simp[ET,PV.cells,Oi]
   ·rw[hg];refine⟨_,T,by rw[RQ g,IN rfl],by omega,by omega,fun i e j p x he hp hx=>?_,fun i x hi hx=>?_⟩
    ·obtain⟨hi,rfl⟩:=eR i e he;simp only[ET,PV.cells]at hp;have hn:=hp;have hj:j<kk:=by grind
     have cd:i*kk+j<dk.size*kk:=by have:(i+1)*kk≤dk.size*kk:=asj _ (by omega);grind
     rw[GX _ cd]at hx;have e1:(i*kk+j)/kk=i:=by rw[auo,Nat.mul_add_div hk0,au4 hj,atv]
     grind [Nat.mul_comm,Nat.mul_add_mod,Nat.mod_eq_of_lt,Option.some.injEq]
    grind [Option.some.injEq,Nat.mod_lt]
 have h2:aL P G w0 μ φ (aD m id (.arr kk et (fp (dk.toList.map val)))) (Go.Sort.grow (Go.Sort.putRow _root_.id (Go.Sort.ahead w mm) g 0 F) os):=by
  refine h1.later ?_;refine⟨⟨rfl,rfl,rfl,?_,fun k hk=>?_⟩,fun _=>ast _⟩
  ·simp[Go.Sort.grow]
  grind [Go.Sort.grow,Array.getElem?_append_left]
 rw[hF]at h2;exact h2
theorem PN{P:Program}{G:Nat→Option (List PV)}{ρr:Ren}(L:SlLaysF0.n6 P ρr){gs:FuncId}(hgs:ρr.f 6=gs)(aqm:∃fn c,P.funcs[gs]?=some fn∧fn.body=some c∧(fn.name== "runtime.NumGoroutine")=false){kk:Nat}(aE:∀w,(isAgg (ρr.t 24)).run P w=.ok true w)(zE:∀w,(Go.sizeOf (ρr.t 24)).run P w=.ok kk w){clo:FuncId→Option (List PV→Option PV)}(aqn:∀g M,clo g=some M→Bb P G g M){R:Type}{args:List V}{f:Fr}{m:Mem}{k:V→Fr→Mem→Option R}{r:R}(h:EF kk clo R args f m k=some r):PA P G gs args f m k r:=by
 unfold EF at h;split at h
 ·rename_i id gc caps;split at h
  ·rename_i sz et es hm;split at h
   ·rename_i M hM;split at h
    ·rename_i rW;obtain⟨rfl,ee,hgb⟩:=rW;obtain⟨es',hs,hk⟩:=By.1 h;obtain⟨ns,RP,cf,e1,e2,hf⟩:=Ox hs;obtain⟨⟨fc,cc,fc1,fc2,fc3⟩,hMs⟩:=aqn gc M hM;refine⟨aqm,fun w0 μ φ ρ w xs hR hF hlen nC Ji=>?_⟩;have ZZ:∃x0 x1,xs= #[x0,x1]:=by
      obtain⟨l⟩:=xs;match l,hlen with
      |[x0,x1],_=>simp
      |[],h=>simp at h
      |[_],h=>simp at h
      |_::_::_::_,h=>simp at h
     obtain⟨x0,x1,rfl⟩:=ZZ;have r0:=nC 0 _ x0 rfl rfl;have r1:=nC 1 _ x1 rfl rfl;have hA:aX P μ φ w id sz et es:=hR.dX id _ hm;have nothing:es=[]→∀p c,x0=.slice p 0 c→Calls P gs #[x0,x1] w fun e w'=>∃v f' m' y μ' φ',k v f' m'=some r∧e=.returned y∧aL P G w0 μ' φ' m' w'∧cp P μ' φ' m' f' ρ∧au P μ' φ' v y∧∀id,v.has id=true→(m' id).isSome=true:=by
      intro he p c hx;subst hx;have Rk:ns=[]:=by simp_all[fp]
      have aqo:RP=[]:=by have:=hf.perm;simp_all
      rw[e2,aqo]at hk;have hme:aD m id (.arr sz et (fp []))=m:=RR (by rw[hm,he];rfl);rw[hme]at hk;rw[←hgs];refine(AnyF.slices_SortFunc_none L p c x1 w).mono ?_;rintro e w' ⟨rfl,rfl⟩;exact⟨_,_,_,_,μ,φ,hk,rfl,hR,hF,.aG rfl (by simp),fun id hid=>by simp[V.has,cA]at hid⟩
     cases r0 with
     |yp hg=>obtain⟨a1,a2,a3,a4,a5,a6,a7⟩:=hA;simp_all
     | @os _ g hg=>
      have FG:=hA;obtain⟨a1,a2,a3,a4,a5,a6,a7⟩:=hA;rw[hg]at a7;obtain⟨c,T,c1,c2,c3,c4,c5⟩:=a7;by_cases QI:es=[]
      ·simp_all
      have cV:ns≠[]:=fun h=>QI (by rw[e1,h];rfl);obtain⟨n0,hn0⟩:=List.exists_mem_of_ne_nil ns cV;cases r1 with
      | @fn _ _ cb ase LS=>
       rw[wb hgb];let α:={n:List PV//n∈ns};let _:Inhabited α:=⟨⟨n0,hn0⟩⟩;let enc:α→List Value:=fun x=>x.1.map wF;let cf':α→α→Int:=fun x y=>cf x.1 y.1;let d:Array α:=ns.attach.toArray;have hdn:d.size=ns.length:=by grind
       have hdv:d.toList.map (fun x:α=>x.1)=ns:=by grind [List.attach_map_subtype_val]
       have hds:d.size=es.length:=by rw[e1,hdn];simp[fp]
       have Oi:∀x:α,x.1.length=sz:=fun x=>hf.len _ x.2;have asf:ns.length*sz≤c.size:=asZ (asj _ (by omega)) c2;have UH:∀(i:Nat)(r:List PV),ns[i]?=some r→∀(j:Nat)n,r[j]?=some n→i*sz+j<c.size∧c[i*sz+j]?=some (wF n)∧(∀μ',av P μ' n (wF n))∧(wF n).oneCell'=true:=fun i r hi j n hj=>by
        have hie:es[i]?=some (ET r):=by rw[e1];simp[fp,hi]
        have QJ:i<ns.length:=(OF.1 hi).1;have zj:j<sz:=by grind
        have cd:i*sz+j<c.size:=by have:(i+1)*sz≤ns.length*sz:=asj _ (by omega);grind
        have:=c4 i _ j n c[i*sz+j] hie (by simp[ET,PV.cells,hj]) (aiX cd);rw[aiX cd];obtain⟨v1,v2,v3⟩:=ac1 this (hf.aci _ (aqY hi) _ (aqY hj));grind
       have Kj:∀x:α,∀n∈x.1,(∀μ',av P μ' n (wF n))∧(wF n).oneCell'=true:=fun x n hn=>by grind [List.getElem?_of_mem]
       have hH:Go.Sort.HoldsK enc sz w g 0 d:=fun t ht=>by
        have ht:t<d.size*sz:=by simpa using ht
        have hti:t/sz<d.size:=Nat.div_lt_of_lt_mul (by grind);have htj:t%sz<sz:=avi _ a4;have hdj:ns[t/sz]?=some d[t/sz]!.1:=by grind
        have zj:t%sz<d[t/sz]!.1.length:=by rw[Oi];omega
        obtain⟨h1,h2,h3⟩:=UH _ _ hdj _ _ (cN zj);have het:t/sz*sz+t%sz=t:=by simp[auo,Nat.div_add_mod]
        rw[het]at h1 h2;have hfl:(Go.Sort.flatK enc sz d)[t]! =wF (d[t/sz]!.1[t%sz]):=by grind [Go.Sort.get_flatK,wF]
        refine⟨?_,?_⟩
        ·rw[hfl];simp only[World.cell?,c1,as5,h2,auP,cQ,IT,_root_.id_eq]
        ·simp only[World.frozen?,c1,as5];simp
       have hO:Go.Sort.SWO (ltOf cf'):=by
        refine⟨fun x=>?_,fun x y z h1 h2=>?_,fun x y z h1 h2=>?_⟩
        ·simp only[ltOf,asI];exact hf.irrefl x.1 x.2
        ·simp only[ltOf,cT]at h1 h2⊢;exact hf.trans _ x.2 _ y.2 _ z.2 h1 h2
        ·simp only[ltOf,asI]at h1 h2⊢;intro h3;by_cases h4:cf y.1 x.1<0
         ·exact h2 (hf.trans _ y.2 _ x.2 _ z.2 h4 h3)
         ·have:=hf.total _ x.2 _ y.2 h1 h4;grind
       have pz:=fun(mm:Nat)(os:Array Obj)(dk:Array α)(hd:dk.size=d.size)=>aL.aqk sz a4 enc (fun x=>x.1) (fun _=>rfl) Oi (fun x p hp=>⟨(Kj x p hp).1 _,(Kj x p hp).2⟩) hR hm hg mm os dk (by omega);have hrp:∀x:α,av P (fun _=>none) (ET x.1) (.agg (enc x).toArray):=fun x=>by
        refine .agg (by simp[enc]) (fun i p y hp hy=>?_) (fun i y hy=>?_)
        ·grind
        grind
       have aqp:CmpLays P gc cb enc sz cf' g 0 d.size w:=by
        intro mm os dk hd x y;have hW:=pz mm os dk hd;have hr:=hf.reads (dk.toList.map fun x=>x.1) (by simp_all) (fun z hz=>by grind) x.1 x.2 y.1 y.2;obtain⟨ps,tU,hMp⟩:=By.1 hr;obtain⟨p1,p2⟩:=iZ tU;refine(hMs _ _ hMp _ (mc _) _ (fun _ _ h=>h) (fun g cs hg=>(hW.aW g cs hg).mono hW.Et) (by simp;omega) (fun i q z hq hz=>?_)).mono ?_
        ·match i with
         |0=>
          rw[atr (by simp)]at hz;have e3:q=ET x.1:=by simpa using hq.symm
          have e4:z=.agg (enc x).toArray:=by simpa using hz.symm
          rw[e3,e4];exact(hrp x).mono (fun _ _ h=>by cases h)
         |1=>
          rw[atr (by simp)]at hz;have e3:q=ET y.1:=by simpa using hq.symm
          have e4:z=.agg (enc y).toArray:=by simpa using hz.symm
          rw[e3,e4];exact(hrp y).mono (fun _ _ h=>by cases h)
         |i+2=>
          simp only[atQ]at hq;obtain⟨u,hu,Ce⟩:=p2 i q hq;have hz':cb[i]?=some z:=by rw[Array.getElem?_append_right (by simp)]at hz;simpa using hz
          exact Ap hW hW.Et (fun _ _ _ _ _=>rfl) _ Ce (LS i u z hu hz')
        ·rintro e w' ⟨v,rfl,hb,hv⟩;cases hv with
         |int _=>exact⟨rfl,ac2 hb⟩
       have hgl:g<w.heap.size:=(apj.1 c1).1;have Wm:d.size<4611686018427387904:=by grind [ah,decide]
       have Au:∀x:α,∀v∈enc x,v.oneCell'=true:=fun x v hv=>by grind
       have yE:=AnyQ.slices_SortFunc L sz aE zE enc (fun x=>by simp[enc,Oi]) Au cf' hO gc cb g 0 (φ id).cap d w (fun a W=>EB fc1 fc3 fc2) aqp hH hgl Wm;rw[hgs]at yE;have ZZ:Value.slice (some ⟨g,0,none⟩) (φ id).len (φ id).cap=Value.slice (some ⟨g,0,none⟩) d.size (φ id).cap:=by rw[a1,hds]
       rw[ZZ];refine yE.mono ?_;rintro e w' ⟨rfl,d',n,os,hp,Z3,rfl⟩;have hW:=pz n os d' hp.1;have anc:(d'.toList.map fun x=>x.1).Perm ns:=by
        have h3:=hp.2.2;have e3:d'.extract 0 d.size=d':=by rw[←hp.1];simp
        grind
       have aqq:(d'.toList.map fun x=>x.1).Pairwise fun a b=>¬cf b a<0:=by
        rw[List.pairwise_map,atI];intro i j hi hj Uc;have uP:i<d'.size:=by omega
        have TO:j<d'.size:=by omega
        have:=Z3 i j (at7 _) Uc (by rw[←hp.1];omega);grind [ltOf,decide_eq_false_iff_not]
       have heq:(d'.toList.map fun x=>x.1)=RP:=mT.unique (c1:=cf) (c2:=cf) ⟨hf.len,hf.aci,anc,hf.reads,hf.irrefl,hf.trans,hf.total,aqq⟩ hf;rw[heq,←e2]at hW;exact⟨_,_,_,_,μ,φ,hk,rfl,hW,hF.pP (fun _ _ h=>h) (.set),.aG rfl (by simp),fun id hid=>by simp[V.has,cA]at hid⟩
    ·cases h
   ·cases h
  ·cases h
 ·cases h
end
end Go.Ab
