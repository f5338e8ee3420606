import Derived.Test.YteddgaennnfacaaGreatAbSortK
import Derived.Test.YteddgaennnfacaaGreatAbSortOk
import Derived.Shelf.SlSortCmp.NoneTotal
set_option linter.all false
namespace Go.Ab
open Go.Proofs Go.Shelf
set_option maxRecDepth 100000
section
variable {P:Program} {G:Nat→Option (List PV)} {w0:bE} {μ:Ro} {φ:Nat→aI} {m:Mem} {w w':World}
def uj:PV→Value
 |.int k n=>.int k n
 |.bool b=>.bool b
 |.str s=>.string ⟨s.toArray⟩
 |_=>.bool false
theorem Yh{p:PV}{x:Value}(h:ao P μ p x)(hs:adh p=true):x=uj p∧(∀μ',ao P μ' p (uj p))∧(uj p).oneCell'=true:=by
 cases h<;>first|(cases hs;done)|skip
 ·exact⟨rfl,fun _=>.int ‹_›,rfl⟩
 ·exact⟨rfl,fun _=>.bool,rfl⟩
 ·exact⟨rfl,fun _=>.str ‹_›,rfl⟩
theorem aA.ajP{α:Type}[Inhabited α](kk:Nat)(hk0:0<kk)(enc:α→List Value)(val:α→List PV)(ad9:∀x,enc x=(val x).map uj)(KQ:∀x,(val x).length=kk)(KA:∀x,∀p∈val x,ao P μ p (uj p)∧(uj p).oneCell'=true)(hM:aA P G w0 μ φ m w){id g:Nat}{et:TypeId}{es:List PV}(hm:m id=some (.arr kk et es))(hg:(φ id).g=some g)(mm:Nat)(os:Array Obj)(dk:Array α)(hd:dk.size=es.length):aA P G w0 μ φ (aw m id (.arr kk et (eS (dk.toList.map val)))) (sortWorldK enc kk w g 0 mm dk os):=by
 have hA:=hM.dJ id _ hm;have hA:aN P μ φ w id kk et es:=hA;obtain⟨a1,a2,a3,a4,a5,a6,a7⟩:=hA;rw[hg]at a7;obtain⟨c,T,c1,c2,c3,c4,c5⟩:=a7;have ajQ:g<w.heap.size:=(alm.1 c1).1;obtain⟨F,hF⟩:∃F,F=Go.Sort.flatK enc kk dk:=⟨_,rfl⟩;have hFs:F.size=dk.size*kk:=by rw[hF];simp
 have N8:∀k,(Go.Sort.putRow _root_.id (Go.Sort.ahead w mm) g 0 F).heap[k]?=if k=g then some (.cells (Go.Sort.putCells _root_.id 0 F c) T (0,0))else w.heap[k]?:=fun k=>by
  unfold Go.Sort.putRow Go.Sort.mapBlock Go.Sort.ahead;simp only[amQ];by_cases e:g=k
  ·simp_all[Go.Sort.onCells]
  grind
 have JZ:(Go.Sort.putCells _root_.id 0 F c).size=c.size:=by simp[Go.Sort.putCells]
 have sU:dk.size*kk≤c.size:=alH (alo _ (by omega)) c2;have D2:∀k,k<dk.size*kk→(Go.Sort.putCells _root_.id 0 F c)[k]?=some ((enc dk[k/kk]!)[k%kk]!):=fun k hk=>by
  unfold Go.Sort.putCells;rw[Array.getElem?_mapIdx];have hkc:k<c.size:=by omega
  rw[ald hkc];simp only[No,an2,amq,true_and,hFs,hk,IT,aox,_root_.id_eq];grind [Go.Sort.get_flatK]
 have hlen:(eS (dk.toList.map val)).length=es.length:=by simp[eS,hd]
 have fo:∀(i:Nat)e,(eS (dk.toList.map val))[i]?=some e→i<dk.size∧e=Cc (val dk[i]!):=fun i e he=>by simp only[eS,am0,IS,alg]at he;grind
 have hec:∀x:α,∀j,j<kk→∃n,(enc x)[j]! =uj n∧(val x)[j]?=some n∧n∈val x:=fun x j hj=>by
  have PT:j<(val x).length:=by rw[KQ];omega
  refine⟨(val x)[j],?_,AI PT,alj PT⟩;simp_all
 have h1:aA P G w0 μ φ (aw m id (.arr kk et (eS (dk.toList.map val)))) (Go.Sort.putRow _root_.id (Go.Sort.ahead w mm) g 0 F):=by
  refine hM.write hm rfl hg ⟨⟨rfl,rfl,rfl,?_,fun k hk=>?_⟩,?_⟩ ?_ (fun k hk=>?_) ?_ rfl (by simp[bK.names])
  ·simp[Go.Sort.putRow,Go.Sort.mapBlock,Go.Sort.ahead]
  ·grind
  ·simp[Go.Sort.putRow,Go.Sort.mapBlock,Go.Sort.ahead]
  ·simp[Go.Sort.putRow,Go.Sort.mapBlock,Go.Sort.ahead]
  ·rw[N8 k,acB hk]
  ·show aN P μ φ _ id kk et _;refine⟨by omega,a2,a3,a4,fun i e he=>?_,a6,?_⟩
   ·obtain⟨_,rfl⟩:=fo i e he;simp[Cc,PV.cells,KQ]
   ·rw[hg];refine⟨_,T,by rw[N8 g,T0 rfl],by omega,by omega,fun i e j p x he hp hx=>?_,fun i x hi hx=>?_⟩
    ·obtain⟨hi,rfl⟩:=fo i e he;simp only[Cc,PV.cells]at hp;have hn:=hp;have hj:j<kk:=by grind
     have bQ:i*kk+j<dk.size*kk:=by have:(i+1)*kk≤dk.size*kk:=alo _ (by omega);grind
     rw[D2 _ bQ]at hx;have e1:(i*kk+j)/kk=i:=by rw[anE,Nat.mul_add_div hk0,Nat.div_eq_of_lt hj,am1]
     grind [Nat.mul_comm,Nat.mul_add_mod,Nat.mod_eq_of_lt,Option.some.injEq]
    grind [Option.some.injEq,Nat.mod_lt]
 have h2:aA P G w0 μ φ (aw m id (.arr kk et (eS (dk.toList.map val)))) (Go.Sort.grow (Go.Sort.putRow _root_.id (Go.Sort.ahead w mm) g 0 F) os):=by
  refine h1.later ?_;refine⟨⟨rfl,rfl,rfl,?_,fun k hk=>?_⟩,fun _=>alz _⟩
  ·simp[Go.Sort.grow]
  grind [Go.Sort.grow,Array.getElem?_append_left]
 rw[hF]at h2;exact h2
theorem Mh{P:Program}{G:Nat→Option (List PV)}{ρr:Ren}(L:SlLaysF0.n6 P ρr){gs:FuncId}(hgs:ρr.f 6=gs)(ajR:∃fn c,P.funcs[gs]?=some fn∧fn.body=some c∧(fn.name== "runtime.NumGoroutine")=false){kk:Nat}(aE:∀w,(isAgg (ρr.t 24)).run P w=.ok true w)(zE:∀w,(Go.sizeOf (ρr.t 24)).run P w=.ok kk w){clo:FuncId→Option (List PV→Option PV)}(ajS:∀g M,clo g=some M→Ad P G g M){R:Type}{args:List V}{f:Fr}{m:Mem}{k:V→Fr→Mem→Option R}{r:R}(h:BV kk clo R args f m k=some r):L2 P G gs args f m k r:=by
 unfold BV at h;split at h
 ·rename_i id gc caps;split at h
  ·rename_i sz et es hm;split at h
   ·rename_i M hM;split at h
    ·rename_i pT;obtain⟨rfl,bF,hgb⟩:=pT;obtain⟨es',hs,hk⟩:=M1.1 h;obtain⟨ns,N7,cf,e1,e2,hf⟩:=K3 hs;obtain⟨⟨fc,cc,fc1,fc2,fc3⟩,hMs⟩:=ajS gc M hM;refine⟨ajR,fun w0 μ φ ρ w xs hR hF hlen gL Gc=>?_⟩;have UG:∃x0 x1,xs= #[x0,x1]:=by
      obtain⟨l⟩:=xs;match l,hlen with
      |[x0,x1],_=>simp
      |[],h=>simp at h
      |[_],h=>simp at h
      |_::_::_::_,h=>simp at h
     obtain⟨x0,x1,rfl⟩:=UG;have r0:=gL 0 _ x0 rfl rfl;have r1:=gL 1 _ x1 rfl rfl;have hA:aN P μ φ w id sz et es:=hR.dJ id _ hm;have nothing:es=[]→∀p c,x0=.slice p 0 c→Calls P gs #[x0,x1] w fun e w'=>∃v f' m' y μ' φ',k v f' m'=some r∧e=.returned y∧aA P G w0 μ' φ' m' w'∧cg P μ' φ' m' f' ρ∧an P μ' φ' v y∧∀id,v.has id=true→(m' id).isSome=true:=by
      intro he p c hx;subst hx;have LV:ns=[]:=by simp_all[eS]
      have ajT:N7=[]:=by have:=hf.perm;simp_all
      rw[e2,ajT]at hk;have hme:aw m id (.arr sz et (eS []))=m:=N9 (by rw[hm,he];rfl);rw[hme]at hk;rw[←hgs];refine(AnyF.slices_SortFunc_none L p c x1 w).mono ?_;rintro e w' ⟨rfl,rfl⟩;exact⟨_,_,_,_,μ,φ,hk,rfl,hR,hF,.aG rfl (by simp),fun id hid=>by simp[V.has,cu]at hid⟩
     cases r0 with
     |vt hg=>obtain⟨a1,a2,a3,a4,a5,a6,a7⟩:=hA;simp_all
     | @os _ g hg=>
      have CJ:=hA;obtain⟨a1,a2,a3,a4,a5,a6,a7⟩:=hA;rw[hg]at a7;obtain⟨c,T,c1,c2,c3,c4,c5⟩:=a7;by_cases Nf:es=[]
      ·simp_all
      have cC:ns≠[]:=fun h=>Nf (by rw[e1,h];rfl);obtain⟨n0,hn0⟩:=List.exists_mem_of_ne_nil ns cC;cases r1 with
      | @fn _ _ cb ak8 II=>
       rw[tR hgb];let α:={n:List PV//n∈ns};let _:Inhabited α:=⟨⟨n0,hn0⟩⟩;let enc:α→List Value:=fun x=>x.1.map uj;let cf':α→α→Int:=fun x y=>cf x.1 y.1;let d:Array α:=ns.attach.toArray;have XL:d.size=ns.length:=by grind
       have hdv:d.toList.map (fun x:α=>x.1)=ns:=by grind [List.attach_map_subtype_val]
       have hds:d.size=es.length:=by rw[e1,XL];simp[eS]
       have KQ:∀x:α,x.1.length=sz:=fun x=>hf.len _ x.2;have ak9:ns.length*sz≤c.size:=alH (alo _ (by omega)) c2;have GA:∀(i:Nat)(r:List PV),ns[i]?=some r→∀(j:Nat)n,r[j]?=some n→i*sz+j<c.size∧c[i*sz+j]?=some (uj n)∧(∀μ',ao P μ' n (uj n))∧(uj n).oneCell'=true:=fun i r hi j n hj=>by
        have hie:es[i]?=some (Cc r):=by rw[e1];simp[eS,hi]
        have Fc:i<ns.length:=(OF.1 hi).1;have rz:j<sz:=by grind
        have bQ:i*sz+j<c.size:=by have:(i+1)*sz≤ns.length*sz:=alo _ (by omega);grind
        have:=c4 i _ j n c[i*sz+j] hie (by simp[Cc,PV.cells,hj]) (ald bQ);rw[ald bQ];obtain⟨v1,v2,v3⟩:=Yh this (hf.Xt _ (alf hi) _ (alf hj));grind
       have KA:∀x:α,∀n∈x.1,(∀μ',ao P μ' n (uj n))∧(uj n).oneCell'=true:=fun x n hn=>by grind [List.getElem?_of_mem]
       have hH:Go.Sort.HoldsK enc sz w g 0 d:=fun t ht=>by
        have ht:t<d.size*sz:=by simpa using ht
        have hti:t/sz<d.size:=Nat.div_lt_of_lt_mul (by grind);have htj:t%sz<sz:=aok _ a4;have hdj:ns[t/sz]?=some d[t/sz]!.1:=by grind
        have rz:t%sz<d[t/sz]!.1.length:=by rw[KQ];omega
        obtain⟨h1,h2,h3⟩:=GA _ _ hdj _ _ (AI rz);have het:t/sz*sz+t%sz=t:=by simp[anE,Nat.div_add_mod]
        rw[het]at h1 h2;have hfl:(Go.Sort.flatK enc sz d)[t]! =uj (d[t/sz]!.1[t%sz]):=by grind [Go.Sort.get_flatK,uj]
        refine⟨?_,?_⟩
        ·rw[hfl];simp only[World.cell?,c1,amq,h2,am6,IN,Wi,_root_.id_eq]
        ·simp only[World.frozen?,c1,amq];simp
       have hO:Go.Sort.SWO (ltOf cf'):=by
        refine⟨fun x=>?_,fun x y z h1 h2=>?_,fun x y z h1 h2=>?_⟩
        ·simp only[ltOf,alN];exact hf.irrefl x.1 x.2
        ·simp only[ltOf,AT]at h1 h2⊢;exact hf.trans _ x.2 _ y.2 _ z.2 h1 h2
        ·simp only[ltOf,alN]at h1 h2⊢;intro h3;by_cases h4:cf y.1 x.1<0
         ·exact h2 (hf.trans _ y.2 _ x.2 _ z.2 h4 h3)
         ·have:=hf.total _ x.2 _ y.2 h1 h4;grind
       have nD:=fun(mm:Nat)(os:Array Obj)(dk:Array α)(hd:dk.size=d.size)=>aA.ajP sz a4 enc (fun x=>x.1) (fun _=>rfl) KQ (fun x p hp=>⟨(KA x p hp).1 _,(KA x p hp).2⟩) hR hm hg mm os dk (by omega);have hrp:∀x:α,ao P (fun _=>none) (Cc x.1) (.agg (enc x).toArray):=fun x=>by
        refine .agg (by simp[enc]) (fun i p y hp hy=>?_) (fun i y hy=>?_)
        ·grind
        grind
       have ajU:CmpLays P gc cb enc sz cf' g 0 d.size w:=by
        intro mm os dk hd x y;have hW:=nD mm os dk hd;have hr:=hf.reads (dk.toList.map fun x=>x.1) (by simp_all) (fun z hz=>by grind) x.1 x.2 y.1 y.2;obtain⟨ps,rT,hMp⟩:=M1.1 hr;obtain⟨p1,p2⟩:=gX rT;refine(hMs _ _ hMp _ (jf _) _ (fun _ _ h=>h) (fun g cs hg=>(hW.aM g cs hg).mono hW.BK) (by simp;omega) (fun i q z hq hz=>?_)).mono ?_
        ·match i with
         |0=>
          rw[amy (by simp)]at hz;have e3:q=Cc x.1:=by simpa using hq.symm
          have e4:z=.agg (enc x).toArray:=by simpa using hz.symm
          rw[e3,e4];exact(hrp x).mono (fun _ _ h=>by cases h)
         |1=>
          rw[amy (by simp)]at hz;have e3:q=Cc y.1:=by simpa using hq.symm
          have e4:z=.agg (enc y).toArray:=by simpa using hz.symm
          rw[e3,e4];exact(hrp y).mono (fun _ _ h=>by cases h)
         |i+2=>
          simp only[am2]at hq;obtain⟨u,hu,zG⟩:=p2 i q hq;have hz':cb[i]?=some z:=by rw[Array.getElem?_append_right (by simp)]at hz;simpa using hz
          exact xB hW hW.BK (fun _ _ _ _ _=>rfl) _ zG (II i u z hu hz')
        ·rintro e w' ⟨v,rfl,hb,hv⟩;cases hv with
         |int _=>exact⟨rfl,Yi hb⟩
       have hgl:g<w.heap.size:=(alm.1 c1).1;have Sj:d.size<4611686018427387904:=by grind [ag,decide]
       have xG:∀x:α,∀v∈enc x,v.oneCell'=true:=fun x v hv=>by grind
       have sM:=AnyQ.slices_SortFunc L sz aE zE enc (fun x=>by simp[enc,KQ]) xG cf' hO gc cb g 0 (φ id).cap d w (fun a W=>BR fc1 fc3 fc2) ajU hH hgl Sj;rw[hgs]at sM;have UG:Value.slice (some ⟨g,0,none⟩) (φ id).len (φ id).cap=Value.slice (some ⟨g,0,none⟩) d.size (φ id).cap:=by rw[a1,hds]
       rw[UG];refine sM.mono ?_;rintro e w' ⟨rfl,d',n,os,hp,UK,rfl⟩;have hW:=nD n os d' hp.1;have agC:(d'.toList.map fun x=>x.1).Perm ns:=by
        have h3:=hp.2.2;have e3:d'.extract 0 d.size=d':=by rw[←hp.1];simp
        grind
       have ajV:(d'.toList.map fun x=>x.1).Pairwise fun a b=>¬cf b a<0:=by
        rw[anX,alW];intro i j hi hj St;have sI:i<d'.size:=by omega
        have PT:j<d'.size:=by omega
        have:=UK i j (an2 _) St (by rw[←hp.1];omega);grind [ltOf,decide_eq_false_iff_not]
       have heq:(d'.toList.map fun x=>x.1)=N7:=kQ.unique (c1:=cf) (c2:=cf) ⟨hf.len,hf.Xt,agC,hf.reads,hf.irrefl,hf.trans,hf.total,ajV⟩ hf;rw[heq,←e2]at hW;exact⟨_,_,_,_,μ,φ,hk,rfl,hW,hF.nP (fun _ _ h=>h) (.set),.aG rfl (by simp),fun id hid=>by simp[V.has,cu]at hid⟩
    ·cases h
   ·cases h
  ·cases h
 ·cases h
end
end Go.Ab
